import Derived.Test.YthapcdhdfaibkaaGreatDoorBb
namespace Go.Proofs.YthapcdhdfaibkaaGreatDoor
set_option linter.all false
def inR (n lo hi : Int) : Bool := decide (lo ≤ n ∧ n ≤ hi)
def J0 {α : Type} (p : α → Bool) (s : List α) : Int := if s.any p then (s.findIdx p : Int) else -1
theorem Q4 {α : Type} {p : α → Bool} {s : List α} {k : Nat} (hk : k < s.length) (h : ∀ x ∈ s.take k, p x = false) (hp : p s[k] = true) : (k : Int) = J0 p s := by
 have h1 : s.any p = true := List.any_eq_true.2 ⟨_, List.getElem_mem hk, hp⟩
 have h2 : s.findIdx p = k := by
  rw [List.findIdx_eq hk]
  refine ⟨hp, fun j hj => h _ ?_⟩
  rw [List.mem_take_iff_getElem]
  exact ⟨j, by omega, rfl⟩
 rw [J0, if_pos h1, h2]
theorem P1 {α : Type} {p : α → Bool} {s : List α} {k : Nat} (hk : ¬ k < s.length) (h : ∀ x ∈ s.take k, p x = false) : (-1 : Int) = J0 p s := by
 rw [List.take_of_length_le (by omega)] at h
 have : ¬ s.any p = true := fun h' => by
  obtain ⟨x, hx, hp⟩ := List.any_eq_true.1 h'
  rw [h x hx] at hp; cases hp
 rw [J0, if_neg this]
theorem a0p {α : Type} {p : α → Bool} {s : List α} : decide (0 ≤ J0 p s) = s.any p := by
 unfold J0; split <;> simp_all
theorem U7 {α : Type} {p : α → Bool} {s : List α} {k : Nat} (hk : k < s.length) (h : ∀ x ∈ s.take k, p x = false) (hp : p s[k] = false) : ∀ x ∈ s.take (k + 1), p x = false := by
 intro x hx
 rw [List.take_succ_eq_append_getElem hk] at hx
 rcases List.mem_append.1 hx with hx | hx
 ·exact h x hx
 ·simp at hx; subst hx; exact hp
theorem b0h {α : Type} {p : α → Bool} {s : List α} {k : Nat} (hk : k < s.length) (hp : p s[k] = true) : s.any p = true := List.any_eq_true.2 ⟨_, List.getElem_mem hk, hp⟩
theorem a8B {α : Type} {p : α → Bool} {s : List α} {k : Nat} (hk : ¬ k < s.length) (h : ∀ x ∈ s.take k, p x = false) : s.any p = false := by
 rw [List.take_of_length_le (by omega)] at h
 rw [← Bool.not_eq_true]
 intro h'
 obtain ⟨x, hx, hp⟩ := List.any_eq_true.1 h'
 rw [h x hx] at hp; cases hp
def U9 (s : List Int) : Bool := inR (s.length : Int) 1 3 && !s.any fun n => !inR n 1 3
def P2 (s : List Int) (rel : Int) : Bool := U9 s && inR rel 0 ((s.length : Int) - 1)
def a0m (l : List Int) (arity : Int) : Bool := !l.any fun i => !inR i 0 (arity - 1)
def at0 (s : List Int) (i : Int) : Int := s.getD i.toNat 0
def b5k (s : List Int) (r : Int × IL) : Bool := P2 s r.1 && (P2 s r.2.1 && (decide ((r.2.2.length : Int) = at0 s r.2.1) && a0m r.2.2 (at0 s r.1)))
theorem J5 {α : Type} {s : List α} {i : Nat} {d : α} (h : i < s.length) : s.getD i d = s[i] := by simp [List.getD, h]
theorem a0N {s : List Int} {i : Int} (h : P2 s i = true) : 0 ≤ i ∧ i < s.length ∧ 1 ≤ s.getD i.toNat 0 ∧ s.getD i.toNat 0 ≤ 3 := by
 simp only [P2, U9, inR, Bool.and_eq_true, decide_eq_true_eq, Bool.not_eq_true', List.any_eq_false] at h
 obtain ⟨⟨_, h1⟩, h2, h3⟩ := h
 have h5 : i.toNat < s.length := by omega
 have h4 := h1 s[i.toNat] (List.getElem_mem h5)
 rw [J5 h5]
 simp at h4
 omega
theorem H0 {s : List Int} {i : Int} (h : i.toNat < s.length) : at0 s i = s[i.toNat] := by simp [at0, h]
def szR (t : Nat) (left : Int) : Int := if (t : Int) ≤ left then left - t else -1
theorem b6R {s : List Int} {r : Int} (h : inR r 0 ((s.length : Int) - 1) = false) : P2 s r = false := by simp [P2, h]
theorem b6a {s : List Int} {r : Int} (h : U9 s = false) : P2 s r = false := by simp [P2, h]
theorem frI {a b : Int} (h : a = b) : some (Value.int .i64 a) = some (Value.int .i64 b) := by rw [h]
def H2 {α : Type} (t : α → Nat) (l : List α) : Nat := (l.map t).sum
theorem b1m {α : Type} {t : α → Nat} {l : List α} {g : Nat} (h : g < l.length) : H2 t (l.take (g + 1)) = H2 t (l.take g) + t l[g] := by
 unfold H2; rw [List.take_succ_eq_append_getElem h, List.map_append, List.sum_append]; rfl
theorem b0z {α : Type} {t : α → Nat} {l : List α} {g : Nat} : H2 t (l.take g) ≤ H2 t l := by
 have : H2 t l = H2 t (l.take g) + H2 t (l.drop g) := by
  rw [H2, H2, H2, ← List.sum_append, ← List.map_append, List.take_append_drop]
 omega
def O1 {α : Type} (t : α → Nat) (l : List α) : Nat := l.length + H2 t l
theorem b6y {α : Type} {t : α → Nat} {l : List α} {g : Nat} (h : g < l.length) : t l[g] ≤ O1 t l := by
 have h1 := b0z (t := t) (l := l) (g := g + 1)
 rw [b1m h] at h1
 unfold O1; omega
def a5L (s : List Int) (l : List (Int × IL)) : Bool := U9 s && (decide ((l.length : Int) ≤ 4) && !l.any fun r => !b5k s r)
end Go.Proofs.YthapcdhdfaibkaaGreatDoor

namespace Go.Proofs.YthapcdhdfaibkaaGreatDoor
set_option linter.all false
def c3e (b : Bool) : Int := if b then 1 else 0
def b9X (log : List IL) (m : Int) : Int := ((log.countP fun a => decide (a.1 = m) : Nat) : Int)
def quo (l : List (Int × List Int × Int × Int × Int)) (m : Int) : Int := (l.getD m.toNat (0, [], 0, 0, 0)).2.2.2.2
def b6M (l : List (Int × List Int × Int × Int × Int)) (log : List IL) (m : Int) : Bool := !inR m 0 ((l.length : Int) - 1) || decide (quo l m < b9X log m)
def c2s (l : List (Int × List Int × Int × Int × Int)) (log : List IL) : Bool := !log.any fun a => b6M l log a.1
end Go.Proofs.YthapcdhdfaibkaaGreatDoor

namespace Go.Proofs.YthapcdhdfaibkaaGreatDoor
set_option linter.all false
def mkL {α : Type} (c : α → Nat) (m : α → Int → α) : List α → Int → List α
 | [], _ => []
 | x :: xs, k => m x k :: mkL c m xs (k + (c x : Nat))
section
variable {α : Type} {c : α → Nat} {m : α → Int → α}
end
theorem b6h {α : Type} {E : Enc α} {cs : List Value} {xs ys : α} (h : xs = ys) : [ow E cs xs].Perm [ow E cs ys] := by rw [h]
def U2 (_ : Int) : Nat := 1
def a3d (_ : Int) (k : Int) : Int := k
def a9B (x : List Int) : Nat := H2 U2 x
def c0Y (x : List Int) (k : Int) : List Int := mkL U2 a3d x k
def Y4 (x : IL) : Nat := 1 + H2 U2 x.2
def a5q (x : IL) (k : Int) : IL := ((k), mkL U2 a3d x.2 (k + 1))
def c1K (x : List IL) : Nat := H2 Y4 x
def c1Q (x : List IL) (k : Int) : List IL := mkL Y4 a5q x k
def a2m (x : IL) : Nat := 1 + H2 U2 x.2
def a7U (x : IL) (k : Int) : IL := ((k), mkL U2 a3d x.2 (k + 1))
def c1U (x : List IL) : Nat := H2 a2m x
def c2a (x : List IL) (k : Int) : List IL := mkL a2m a7U x k
def a1e (x : IL) : Nat := 1 + H2 U2 x.2
def a7p (x : IL) (k : Int) : IL := ((k), mkL U2 a3d x.2 (k + 1))
def c0A (x : List IL) : Nat := H2 a1e x
def c1c (x : List IL) (k : Int) : List IL := mkL a1e a7p x k
def b3Q (x : Int × Int) : Nat := 1 + 1
def b9c (x : Int × Int) (k : Int) : Int × Int := ((k), (k + 1))
def c1J (x : List (Int × Int)) : Nat := H2 b3Q x
def c1L (x : List (Int × Int)) (k : Int) : List (Int × Int) := mkL b3Q b9c x k
def b2S (x : List Int × List IL) : Nat := H2 U2 x.1 + H2 a2m x.2
def b6K (x : List Int × List IL) (k : Int) : List Int × List IL := (mkL U2 a3d x.1 (k), mkL a2m a7U x.2 (k + (H2 U2 x.1 : Nat)))
def c1v (x : List (List Int × List IL)) : Nat := H2 b2S x
def c1x (x : List (List Int × List IL)) (k : Int) : List (List Int × List IL) := mkL b2S b6K x k
def a9H (x : List Int × List Int) : Nat := H2 U2 x.1 + H2 U2 x.2
def b4w (x : List Int × List Int) (k : Int) : List Int × List Int := (mkL U2 a3d x.1 (k), mkL U2 a3d x.2 (k + (H2 U2 x.1 : Nat)))
def c0t (x : List (List Int × List Int)) : Nat := H2 a9H x
def c0v (x : List (List Int × List Int)) (k : Int) : List (List Int × List Int) := mkL a9H b4w x k
def b1e (x : Int × List Int × Int × Int × Int) : Nat := 1 + H2 U2 x.2.1 + 1 + 1 + 1
def b5X (x : Int × List Int × Int × Int × Int) (k : Int) : Int × List Int × Int × Int × Int := ((k), mkL U2 a3d x.2.1 (k + 1), (k + 1 + (H2 U2 x.2.1 : Nat)), (k + 1 + (H2 U2 x.2.1 : Nat) + 1), (k + 1 + (H2 U2 x.2.1 : Nat) + 1 + 1))
def c0W (x : List (Int × List Int × Int × Int × Int)) : Nat := H2 b1e x
def c0F (x : List (Int × List Int × Int × Int × Int)) (k : Int) : List (Int × List Int × Int × Int × Int) := mkL b1e b5X x k
def b3Y (x : Int × IL) : Nat := 1 + 1 + H2 U2 x.2.2
def b8G (x : Int × IL) (k : Int) : Int × IL := ((k), (k + 1), mkL U2 a3d x.2.2 (k + 1 + 1))
def c2g (x : List (Int × IL)) : Nat := H2 b3Y x
def c1S (x : List (Int × IL)) (k : Int) : List (Int × IL) := mkL b3Y b8G x k
def a9N (x : (List Int × List IL) × List IL) : Nat := H2 U2 x.1.1 + H2 a2m x.1.2 + H2 a2m x.2
def b4v (x : (List Int × List IL) × List IL) (k : Int) : (List Int × List IL) × List IL := ((mkL U2 a3d x.1.1 (k), mkL a2m a7U x.1.2 (k + (H2 U2 x.1.1 : Nat))), mkL a2m a7U x.2 (k + (H2 U2 x.1.1 : Nat) + (H2 a2m x.1.2 : Nat)))
def c0r (x : List ((List Int × List IL) × List IL)) : Nat := H2 a9N x
def c0u (x : List ((List Int × List IL) × List IL)) (k : Int) : List ((List Int × List IL) × List IL) := mkL a9N b4v x k
def a7Q (x : Int × IL × IL) : Nat := 1 + 1 + H2 U2 x.2.1.2 + 1 + H2 U2 x.2.2.2
def b4e (x : Int × IL × IL) (k : Int) : Int × IL × IL := ((k), ((k + 1), mkL U2 a3d x.2.1.2 (k + 1 + 1)), ((k + 1 + 1 + (H2 U2 x.2.1.2 : Nat)), mkL U2 a3d x.2.2.2 (k + 1 + 1 + (H2 U2 x.2.1.2 : Nat) + 1)))
def c1O (x : List (Int × IL × IL)) : Nat := H2 a7Q x
def c2k (x : List (Int × IL × IL)) (k : Int) : List (Int × IL × IL) := mkL a7Q b4e x k
def b2z (x : List (Int × IL × IL)) : Nat := H2 a7Q x
def b6I (x : List (Int × IL × IL)) (k : Int) : List (Int × IL × IL) := (mkL a7Q b4e x (k))
def c1y (x : List (List (Int × IL × IL))) : Nat := H2 b2z x
def c1t (x : List (List (Int × IL × IL))) (k : Int) : List (List (Int × IL × IL)) := mkL b2z b6I x k
def a9M (x : (List IL) × List Int × (List IL) × Int) : Nat := H2 Y4 x.1 + H2 U2 x.2.1 + H2 a1e x.2.2.1 + 1
def b4J (x : (List IL) × List Int × (List IL) × Int) (k : Int) : (List IL) × List Int × (List IL) × Int := (mkL Y4 a5q x.1 (k), mkL U2 a3d x.2.1 (k + (H2 Y4 x.1 : Nat)), mkL a1e a7p x.2.2.1 (k + (H2 Y4 x.1 : Nat) + (H2 U2 x.2.1 : Nat)), (k + (H2 Y4 x.1 : Nat) + (H2 U2 x.2.1 : Nat) + (H2 a1e x.2.2.1 : Nat)))
def c0s (x : List ((List IL) × List Int × (List IL) × Int)) : Nat := H2 a9M x
def c0q (x : List ((List IL) × List Int × (List IL) × Int)) (k : Int) : List ((List IL) × List Int × (List IL) × Int) := mkL a9M b4J x k
def a5v (x : (List IL) × (List IL) × List Int) : Nat := H2 Y4 x.1 + H2 Y4 x.2.1 + H2 U2 x.2.2
def b0o (x : (List IL) × (List IL) × List Int) (k : Int) : (List IL) × (List IL) × List Int := (mkL Y4 a5q x.1 (k), mkL Y4 a5q x.2.1 (k + (H2 Y4 x.1 : Nat)), mkL U2 a3d x.2.2 (k + (H2 Y4 x.1 : Nat) + (H2 Y4 x.2.1 : Nat)))
def b7N (x : List ((List IL) × (List IL) × List Int)) : Nat := H2 a5v x
def b7O (x : List ((List IL) × (List IL) × List Int)) (k : Int) : List ((List IL) × (List IL) × List Int) := mkL a5v b0o x k
end Go.Proofs.YthapcdhdfaibkaaGreatDoor

namespace Go.Proofs.YthapcdhdfaibkaaGreatDoor
set_option linter.all false
def V4 (l : List Int) : Bool := !l.any fun n => !inR n 0 9
def O6 (s : List Int) (f : IL) : Bool := P2 s f.1 && (decide ((f.2.length : Int) = at0 s f.1) && V4 f.2)
theorem a6u {s : List Int} {f : IL} (h : P2 s f.1 = false) : false = O6 s f := by simp [O6, h]
theorem a9q {s : List Int} {f : IL} {k : Int} (e : at0 s f.1 = k) (h : (f.2.length : Int) ≠ k) : false = O6 s f := by simp [O6, e, h]
theorem b4K {s : List Int} {f : IL} (h : V4 f.2 = false) : false = O6 s f := by simp [O6, h]
theorem b1p {s : List Int} {f : IL} {k : Int} (h : P2 s f.1 = true) (e : at0 s f.1 = k) (h2 : (f.2.length : Int) = k) : V4 f.2 = O6 s f := by simp [O6, h, e, h2]
def b7r (s : List Int) (r : Int × IL) (f : IL) : Bool := b5k s r && (O6 s f && decide (f.1 = r.1))
def vals (m : List Int) (v : List Int) : List Int := m.map (at0 v)
def c2d (s : List Int) (r : Int × IL) (f : IL) : Int := cond (b7r s r f) r.2.1 0
def c2j (s : List Int) (r : Int × IL) (f : IL) : List Int := cond (b7r s r f) (vals r.2.2 f.2) []
end Go.Proofs.YthapcdhdfaibkaaGreatDoor

namespace Go.Proofs.YthapcdhdfaibkaaGreatDoor
set_option linter.all false
def F6 (b : List Int × List Int) (t : Int) : Int :=
 if inR t 10 17 then (let i := J0 (fun x => decide (x = t)) (b.1.take (min b.1.length b.2.length)); if i < 0 then -1 else at0 b.2 i) else t
theorem a0c {b : List Int × List Int} {t : Int} (h : inR t 10 17 = false) : t = F6 b t := by simp [F6, h]
theorem b2F {b : List Int × List Int} {t : Int} (h : inR t 10 17 = true) (h2 : J0 (fun x => decide (x = t)) (b.1.take (min b.1.length b.2.length)) < 0) : -1 = F6 b t := by simp only [F6, h, if_true, if_pos h2]
theorem a7H {α : Type} {p : α → Bool} {s : List α} (h : ¬ J0 p s < 0) : 0 ≤ J0 p s ∧ (J0 p s).toNat < s.length := by
 unfold J0 at *
 by_cases q : s.any p = true
 ·rw [if_pos q] at h ⊢
  have := List.findIdx_lt_length.2 (List.any_eq_true.1 q)
  omega
 ·rw [if_neg q] at h; omega
theorem b6z {b : List Int × List Int} {t : Int} (h : inR t 10 17 = true) (h2 : ¬ J0 (fun x => decide (x = t)) (b.1.take (min b.1.length b.2.length)) < 0) (h3 : (J0 (fun x => decide (x = t)) (b.1.take (min b.1.length b.2.length))).toNat < b.2.length) :
  b.2[(J0 (fun x => decide (x = t)) (b.1.take (min b.1.length b.2.length))).toNat] = F6 b t := by
 simp only [F6, h, if_true, if_neg h2, H0 h3]
theorem a6k {b : List Int × List Int} {t : Int} {g : Nat} (h : inR t 10 17 = true) (h1 : g < b.1.length) (h2 : g < b.2.length) (e : b.1[g] = t) (pa : ∀ x ∈ b.1.take g, decide (x = t) = false) : b.2[g] = F6 b t := by
 have h3 : g < (b.1.take (min b.1.length b.2.length)).length := by simp; omega
 have hi := Q4 (p := fun x => decide (x = t)) h3 (by rw [List.take_take, Nat.min_eq_left (by omega)]; exact pa) (by simp [e])
 have h4 : ¬ ((g : Nat) : Int) < 0 := by omega
 simp only [F6, h, if_true, ← hi, if_neg h4, H0 (i := (g : Int)) (s := b.2) (by simpa using h2)]
 rfl
theorem b0S {b : List Int × List Int} {t : Int} {g : Nat} (h : inR t 10 17 = true) (h1 : ¬ (g < b.1.length ∧ g < b.2.length)) (pa : ∀ x ∈ b.1.take g, decide (x = t) = false) : -1 = F6 b t := by
 refine b2F h ?_
 rw [← P1 (p := fun x => decide (x = t)) (s := b.1.take (min b.1.length b.2.length)) (k := min b.1.length b.2.length) (by simp) ?_]
 ·omega
 ·intro x hx
  rw [List.take_take, Nat.min_self] at hx
  refine pa x ?_
  rw [List.mem_take_iff_getElem] at hx ⊢
  obtain ⟨i, hi, rfl⟩ := hx
  exact ⟨i, by omega, rfl⟩
theorem a6r {b : List Int × List Int} {t : Int} (h : I64 t) (hb : ∀ x ∈ b.2, I64 x) : I64 (F6 b t) := by
 simp only [F6]
 split
 ·split
  ·exact ⟨by decide, by decide⟩
  ·unfold at0
   rcases Nat.lt_or_ge (J0 (fun x => decide (x = t)) (b.1.take (min b.1.length b.2.length))).toNat b.2.length with h1 | h1
   ·rw [J5 h1]; exact hb _ (List.getElem_mem h1)
   ·have : b.2.getD (J0 (fun x => decide (x = t)) (b.1.take (min b.1.length b.2.length))).toNat 0 = 0 := by simp [List.getD, List.getElem?_eq_none h1]
    rw [this]; exact ⟨by decide, by decide⟩
 ·exact h
theorem a7h {b : List Int × List Int} {l : List Int} (h : ∀ x ∈ l, I64 x) (h1 : ∀ x ∈ b.1, I64 x) (h2 : ∀ x ∈ b.2, I64 x) : ∀ x ∈ l, I64 (F6 b x) := fun x hx => a6r (h x hx) h2
end Go.Proofs.YthapcdhdfaibkaaGreatDoor

namespace Go.Proofs.YthapcdhdfaibkaaGreatDoor
set_option linter.all false
def pick {α : Type} (p : Nat → Bool) : List α → Nat → List α
 | [], _ => []
 | x :: xs, i => if p i then x :: pick p xs (i + 1) else pick p xs (i + 1)
def c0L (mask : Int) (i : Nat) : Bool := decide (0 < mask) && decide (a0O (mask / 2 ^ i) 1 = 1)
def c2D (l : List (Int × IL)) (mask : Int) : List (Int × IL) := pick (c0L mask) (l.take 20) 0
theorem R1 {P : Program} {Q : Exit → Act → World → Prop} {n : Nat} {w0 : World} {L0 : List Nat} {fr : Fr} {H : List HP} {d : Nat} {ty : TypeId} {pos : String} {af : Array Edge} {g : Option (Nat × Bool)} {α : Type} {E : Enc α} {T e e2 : TypeId} {agg : Bool} {k m2 : Nat} {z : List Value} {by' : Nat} {x y : Operand} {ad a2 : Option Addr} {c2 : Nat} {ys : List α} (hE : Plain E) (hT : P.underlying T = some (.slice e)) (ht : TyOk P e agg k z by') (hk : k = E.k)
  (hx : ev fr x = some (.slice ad 0 0)) (hy : ev fr y = some (.slice a2 m2 c2)) (hr : Ro w0 L0 (Enc.sl e2 E) [.slice a2 m2 c2] ys) (h63 : m2 ≤ 9223372036854775807) (hbytes : m2 * by' ≤ 140737488355328) (hd : d < n) :
  Nop P Q n w0 L0 fr H ⟨some d, .call ⟨.builtin .append, #[x, y], #[T, T]⟩, ty, pos, af, g⟩ true (κ := Option Addr × Nat) (fun p => (d, .slice p.1 m2 p.2) :: fr) (fun p => ow (Enc.sl e E) [.slice p.1 m2 p.2] ys :: H) (fun _ => True) := fun K hK a w ha hw => by
 subst hk
 obtain ⟨ccs, ⟨Lc, h1⟩, h2, h3⟩ := hr.src
 have hsrc : (m2 = 0 ∧ ccs = []) ∨ ∃ b o, a2 = some ⟨b, o, none⟩ ∧ O7 w b o ccs := by
  rcases h3 H with h | ⟨b, o, k1, k2⟩
  ·exact .inl h
  ·exact .inr ⟨b, o, k1, k2 w hw⟩
 have hy1 : D8 E w ccs ys [] true := (hE.elems h1).stable (by simp)
 have hm2 := hr.slen.1
 obtain ⟨a', c', w', L1', r1, r2, r3, r4, -⟩ := a2n (P := P) (ty := ty) (c2 := c2) hT ht E.pos (show (row e E.k ad 0 0 []).holds w [] from ⟨by simp, .inl ⟨rfl, rfl, rfl⟩⟩) hsrc (by rw [hy1.len, hm2]) hy1.one (by rw [Nat.zero_add]; exact h63) (by rw [Nat.zero_add]; exact hbytes)
 obtain ⟨L, hs, hn, hst⟩ := id hw
 obtain ⟨d1, d2, d3⟩ := b1i (xs := ([] : List α)) (m := 0) rfl hm2 (by rw [Nat.zero_add]; exact h63) ⟨rfl, rfl⟩ hy1 (by simp) r2 r3 r4
 obtain ⟨k1, k2, k3⟩ := Step.call (Lp := []) (Lr := L) (by simpa using hst) (by simpa using hn) hs.inh (by simpa using d3) d2
 have hrun : (execOp a.eval ⟨some d, .call ⟨.builtin .append, #[x, y], #[T, T]⟩, ty, pos, af, g⟩).run P w = .ok (.value (.slice a' (0 + m2) c')) w' := by
  simp only [execOp, resolve, ha.ev hx, ha.ev hy, List.map_toArray, List.map_cons, List.map_nil, Sem.run_bind, Sem.run_pure, Result.andThen_ok, invoke, builtin, r1]
 simp only [Nat.zero_add, List.nil_append] at d1 hrun
 rw [Oper.wp, hrun]
 exact hK (a', c') trivial w _ _ (ha.put hd _) ⟨_, ⟨_, L, rfl, d1, hs.stable k3⟩, k2, k1⟩ (fun _ => r4.below)
end Go.Proofs.YthapcdhdfaibkaaGreatDoor
