import Derived.Test.YtfnbilpemdgkkaaGreatDoorBb
namespace Go.Proofs.YtfnbilpemdgkkaaGreatDoor
set_option linter.unusedVariables false
def inR (n lo hi : Int) : Bool := decide (lo ≤ n ∧ n ≤ hi)
def H2 {α : Type} (p : α → Bool) (s : List α) : Int := if s.any p then (s.findIdx p : Int) else -1
theorem N4 {α : Type} {p : α → Bool} {s : List α} {k : Nat} (hk : k < s.length) (h : ∀ x ∈ s.take k, p x = false) (hp : p s[k] = true) : (k : Int) = H2 p s := by
 have h1 : s.any p = true := List.any_eq_true.2 ⟨_, List.getElem_mem hk, hp⟩
 have h2 : s.findIdx p = k := by
  rw [List.findIdx_eq hk]
  refine ⟨hp, fun j hj => h _ ?_⟩
  rw [List.mem_take_iff_getElem]
  exact ⟨j, by omega, rfl⟩
 rw [H2, if_pos h1, h2]
theorem M8 {α : Type} {p : α → Bool} {s : List α} {k : Nat} (hk : ¬ k < s.length) (h : ∀ x ∈ s.take k, p x = false) : (-1 : Int) = H2 p s := by
 rw [List.take_of_length_le (by omega)] at h
 have : ¬ s.any p = true := fun h' => by
  obtain ⟨x, hx, hp⟩ := List.any_eq_true.1 h'
  rw [h x hx] at hp; cases hp
 rw [H2, if_neg this]
theorem X3 {α : Type} {p : α → Bool} {s : List α} : decide (0 ≤ H2 p s) = s.any p := by
 unfold H2; split <;> simp_all
theorem K8 {α : Type} {p : α → Bool} {s : List α} {k : Nat} (hk : k < s.length) (h : ∀ x ∈ s.take k, p x = false) (hp : p s[k] = false) : ∀ x ∈ s.take (k + 1), p x = false := by
 intro x hx
 rw [List.take_succ_eq_append_getElem hk] at hx
 rcases List.mem_append.1 hx with hx | hx
 ·exact h x hx
 ·simp at hx; subst hx; exact hp
theorem a1q {α : Type} {p : α → Bool} {s : List α} {k : Nat} (hk : k < s.length) (hp : p s[k] = true) : s.any p = true := List.any_eq_true.2 ⟨_, List.getElem_mem hk, hp⟩
theorem a0v {α : Type} {p : α → Bool} {s : List α} {k : Nat} (hk : ¬ k < s.length) (h : ∀ x ∈ s.take k, p x = false) : s.any p = false := by
 rw [List.take_of_length_le (by omega)] at h
 rw [← Bool.not_eq_true]
 intro h'
 obtain ⟨x, hx, hp⟩ := List.any_eq_true.1 h'
 rw [h x hx] at hp; cases hp
def B8 (s : List Int) : Bool := inR (s.length : Int) 1 3 && !s.any fun n => !inR n 1 3
def D7 (s : List Int) (rel : Int) : Bool := B8 s && inR rel 0 ((s.length : Int) - 1)
def E4 (l : List Int) (arity : Int) : Bool := !l.any fun i => !inR i 0 (arity - 1)
def at0 (s : List Int) (i : Int) : Int := s.getD i.toNat 0
def t7 (s : List Int) (r : Int × Int × List Int) : Bool := D7 s r.1 && (D7 s r.2.1 && (decide ((r.2.2.length : Int) = at0 s r.2.1) && E4 r.2.2 (at0 s r.1)))
theorem E3 {α : Type} {s : List α} {i : Nat} {d : α} (h : i < s.length) : s.getD i d = s[i] := by simp [List.getD, h]
theorem J4 {s : List Int} {i : Int} (h : D7 s i = true) : 0 ≤ i ∧ i < s.length ∧ 1 ≤ s.getD i.toNat 0 ∧ s.getD i.toNat 0 ≤ 3 := by
 simp only [D7, B8, inR, Bool.and_eq_true, decide_eq_true_eq, Bool.not_eq_true', List.any_eq_false] at h
 obtain ⟨⟨_, h1⟩, h2, h3⟩ := h
 have h5 : i.toNat < s.length := by omega
 have h4 := h1 s[i.toNat] (List.getElem_mem h5)
 rw [E3 h5]
 simp at h4
 omega
theorem E1 {s : List Int} {i : Int} (h : i.toNat < s.length) : at0 s i = s[i.toNat] := by simp [at0, h]
def szR (t : Nat) (left : Int) : Int := if (t : Int) ≤ left then left - t else -1
theorem a3Y {s : List Int} {r : Int × Int × List Int} (h : D7 s r.1 = false) : false = t7 s r := by simp [t7, h]
theorem a8P {s : List Int} {r : Int × Int × List Int} (h : D7 s r.2.1 = false) : false = t7 s r := by simp [t7, h]
theorem a8v {s : List Int} {r : Int × Int × List Int} {k : Int} (e : at0 s r.2.1 = k) (h : (r.2.2.length : Int) ≠ k) : false = t7 s r := by simp [t7, e, h]
theorem a8y {s : List Int} {r : Int × Int × List Int} {k : Int} (e : at0 s r.1 = k) (h : E4 r.2.2 k = false) : false = t7 s r := by simp [t7, e, h]
theorem a8R {s : List Int} {r : Int × Int × List Int} {k l : Int} (h1 : D7 s r.1 = true) (h2 : D7 s r.2.1 = true) (e : at0 s r.1 = k) (e2 : at0 s r.2.1 = l) (h : (r.2.2.length : Int) = l) (h4 : E4 r.2.2 k = true) : true = t7 s r := by simp [t7, h1, h2, e, e2, h, h4]
theorem a3d {s : List Int} {r : Int} (h : inR r 0 ((s.length : Int) - 1) = false) : D7 s r = false := by simp [D7, h]
theorem a5r {s : List Int} {r : Int} (h : B8 s = false) : D7 s r = false := by simp [D7, h]
theorem frI {a b : Int} (h : a = b) : some (Value.int .i64 a) = some (Value.int .i64 b) := by rw [h]
def x3 {α : Type} (t : α → Nat) (l : List α) : Nat := (l.map t).sum
def a8L {α : Type} (t : α → Nat) (l : List α) : Nat := l.length + x3 t l
def o4 (s : List Int) (l : List (Int × Int × List Int)) : Bool := B8 s && (decide ((l.length : Int) ≤ 4) && !l.any fun r => !t7 s r)
end Go.Proofs.YtfnbilpemdgkkaaGreatDoor

namespace Go.Proofs.YtfnbilpemdgkkaaGreatDoor
set_option linter.unusedVariables false
def b7n (b : Bool) : Int := if b then 1 else 0
def b6b (log : List (Int × List Int)) (m : Int) : Int := ((log.countP fun a => decide (a.1 = m) : Nat) : Int)
def quo (l : List (Int × List Int × Int × Int × Int)) (m : Int) : Int := (l.getD m.toNat (0, [], 0, 0, 0)).2.2.2.2
def b0Y (l : List (Int × List Int × Int × Int × Int)) (log : List (Int × List Int)) (m : Int) : Bool := !inR m 0 ((l.length : Int) - 1) || decide (quo l m < b6b log m)
def b6r (l : List (Int × List Int × Int × Int × Int)) (log : List (Int × List Int)) : Bool := !log.any fun a => b0Y l log a.1
end Go.Proofs.YtfnbilpemdgkkaaGreatDoor

namespace Go.Proofs.YtfnbilpemdgkkaaGreatDoor
set_option linter.unusedVariables false
set_option linter.unusedSimpArgs false
def mkL {α : Type} (c : α → Nat) (m : α → Int → α) : List α → Int → List α
 | [], _ => []
 | x :: xs, k => m x k :: mkL c m xs (k + (c x : Nat))
section
variable {α : Type} {c : α → Nat} {m : α → Int → α}
end
def B9 (_ : Int) : Nat := 1
def U3 (_ : Int) (k : Int) : Int := k
theorem a6l : ∀ {l : List Int}, x3 B9 l = l.length
 | [] => rfl
 | x :: l => by have h := a6l (l := l); simp only [x3, List.map_cons, List.sum_cons, List.length_cons] at h ⊢; rw [h]; simp [B9]; omega
def b7e (x : List Int) : Nat := x3 B9 x
def b7d (x : List Int) (k : Int) : List Int := mkL B9 U3 x k
def H8 (x : Int × List Int) : Nat := 1 + x3 B9 x.2
def a2I (x : Int × List Int) (k : Int) : Int × List Int := ((k), mkL B9 U3 x.2 (k + 1))
def b5Q (x : List (Int × List Int)) : Nat := x3 H8 x
def b5F (x : List (Int × List Int)) (k : Int) : List (Int × List Int) := mkL H8 a2I x k
def Q4 (x : Int × List Int) : Nat := 1 + x3 B9 x.2
def a2S (x : Int × List Int) (k : Int) : Int × List Int := ((k), mkL B9 U3 x.2 (k + 1))
def b5A (x : List (Int × List Int)) : Nat := x3 Q4 x
def b5v (x : List (Int × List Int)) (k : Int) : List (Int × List Int) := mkL Q4 a2S x k
def Y3 (x : Int × List Int) : Nat := 1 + x3 B9 x.2
def a5i (x : Int × List Int) (k : Int) : Int × List Int := ((k), mkL B9 U3 x.2 (k + 1))
def b4F (x : List (Int × List Int)) : Nat := x3 Y3 x
def b4t (x : List (Int × List Int)) (k : Int) : List (Int × List Int) := mkL Y3 a5i x k
def a8f (x : Int × Int) : Nat := 1 + 1
def b2O (x : Int × Int) (k : Int) : Int × Int := ((k), (k + 1))
def b6c (x : List (Int × Int)) : Nat := x3 a8f x
def b5w (x : List (Int × Int)) (k : Int) : List (Int × Int) := mkL a8f b2O x k
def a6t (x : List Int × List (Int × List Int)) : Nat := x3 B9 x.1 + x3 Q4 x.2
def b1k (x : List Int × List (Int × List Int)) (k : Int) : List Int × List (Int × List Int) := (mkL B9 U3 x.1 (k), mkL Q4 a2S x.2 (k + (x3 B9 x.1 : Nat)))
def b5i (x : List (List Int × List (Int × List Int))) : Nat := x3 a6t x
def b4Y (x : List (List Int × List (Int × List Int))) (k : Int) : List (List Int × List (Int × List Int)) := mkL a6t b1k x k
def a3O (x : List Int × List Int) : Nat := x3 B9 x.1 + x3 B9 x.2
def a8S (x : List Int × List Int) (k : Int) : List Int × List Int := (mkL B9 U3 x.1 (k), mkL B9 U3 x.2 (k + (x3 B9 x.1 : Nat)))
def b3T (x : List (List Int × List Int)) : Nat := x3 a3O x
def b3X (x : List (List Int × List Int)) (k : Int) : List (List Int × List Int) := mkL a3O a8S x k
def a5o (x : Int × List Int × Int × Int × Int) : Nat := 1 + x3 B9 x.2.1 + 1 + 1 + 1
def a9p (x : Int × List Int × Int × Int × Int) (k : Int) : Int × List Int × Int × Int × Int := ((k), mkL B9 U3 x.2.1 (k + 1), (k + 1 + (x3 B9 x.2.1 : Nat)), (k + 1 + (x3 B9 x.2.1 : Nat) + 1), (k + 1 + (x3 B9 x.2.1 : Nat) + 1 + 1))
def b4l (x : List (Int × List Int × Int × Int × Int)) : Nat := x3 a5o x
def b4c (x : List (Int × List Int × Int × Int × Int)) (k : Int) : List (Int × List Int × Int × Int × Int) := mkL a5o a9p x k
def a7K (x : Int × Int × List Int) : Nat := 1 + 1 + x3 B9 x.2.2
def b2D (x : Int × Int × List Int) (k : Int) : Int × Int × List Int := ((k), (k + 1), mkL B9 U3 x.2.2 (k + 1 + 1))
def b5C (x : List (Int × Int × List Int)) : Nat := x3 a7K x
def b5Z (x : List (Int × Int × List Int)) (k : Int) : List (Int × Int × List Int) := mkL a7K b2D x k
def a3P (x : (List Int × List (Int × List Int)) × List (Int × List Int)) : Nat := x3 B9 x.1.1 + x3 Q4 x.1.2 + x3 Q4 x.2
def a8q (x : (List Int × List (Int × List Int)) × List (Int × List Int)) (k : Int) : (List Int × List (Int × List Int)) × List (Int × List Int) := ((mkL B9 U3 x.1.1 (k), mkL Q4 a2S x.1.2 (k + (x3 B9 x.1.1 : Nat))), mkL Q4 a2S x.2 (k + (x3 B9 x.1.1 : Nat) + (x3 Q4 x.1.2 : Nat)))
def b3W (x : List ((List Int × List (Int × List Int)) × List (Int × List Int))) : Nat := x3 a3P x
def b3U (x : List ((List Int × List (Int × List Int)) × List (Int × List Int))) (k : Int) : List ((List Int × List (Int × List Int)) × List (Int × List Int)) := mkL a3P a8q x k
def a2P (x : Int × (Int × List Int) × Int × List Int) : Nat := 1 + 1 + x3 B9 x.2.1.2 + 1 + x3 B9 x.2.2.2
def a7N (x : Int × (Int × List Int) × Int × List Int) (k : Int) : Int × (Int × List Int) × Int × List Int := ((k), ((k + 1), mkL B9 U3 x.2.1.2 (k + 1 + 1)), ((k + 1 + 1 + (x3 B9 x.2.1.2 : Nat)), mkL B9 U3 x.2.2.2 (k + 1 + 1 + (x3 B9 x.2.1.2 : Nat) + 1)))
def b5T (x : List (Int × (Int × List Int) × Int × List Int)) : Nat := x3 a2P x
def b5y (x : List (Int × (Int × List Int) × Int × List Int)) (k : Int) : List (Int × (Int × List Int) × Int × List Int) := mkL a2P a7N x k
def a6W (x : List (Int × (Int × List Int) × Int × List Int)) : Nat := x3 a2P x
def b1B (x : List (Int × (Int × List Int) × Int × List Int)) (k : Int) : List (Int × (Int × List Int) × Int × List Int) := (mkL a2P a7N x (k))
def b5d (x : List (List (Int × (Int × List Int) × Int × List Int))) : Nat := x3 a6W x
def b4Z (x : List (List (Int × (Int × List Int) × Int × List Int))) (k : Int) : List (List (Int × (Int × List Int) × Int × List Int)) := mkL a6W b1B x k
def a3G (x : (List (Int × List Int)) × List Int × (List (Int × List Int)) × Int) : Nat := x3 H8 x.1 + x3 B9 x.2.1 + x3 Y3 x.2.2.1 + 1
def a8r (x : (List (Int × List Int)) × List Int × (List (Int × List Int)) × Int) (k : Int) : (List (Int × List Int)) × List Int × (List (Int × List Int)) × Int := (mkL H8 a2I x.1 (k), mkL B9 U3 x.2.1 (k + (x3 H8 x.1 : Nat)), mkL Y3 a5i x.2.2.1 (k + (x3 H8 x.1 : Nat) + (x3 B9 x.2.1 : Nat)), (k + (x3 H8 x.1 : Nat) + (x3 B9 x.2.1 : Nat) + (x3 Y3 x.2.2.1 : Nat)))
def b3Y (x : List ((List (Int × List Int)) × List Int × (List (Int × List Int)) × Int)) : Nat := x3 a3G x
def b3V (x : List ((List (Int × List Int)) × List Int × (List (Int × List Int)) × Int)) (k : Int) : List ((List (Int × List Int)) × List Int × (List (Int × List Int)) × Int) := mkL a3G a8r x k
def a1x (x : (List (Int × List Int)) × (List (Int × List Int)) × List Int) : Nat := x3 H8 x.1 + x3 H8 x.2.1 + x3 B9 x.2.2
def a4R (x : (List (Int × List Int)) × (List (Int × List Int)) × List Int) (k : Int) : (List (Int × List Int)) × (List (Int × List Int)) × List Int := (mkL H8 a2I x.1 (k), mkL H8 a2I x.2.1 (k + (x3 H8 x.1 : Nat)), mkL B9 U3 x.2.2 (k + (x3 H8 x.1 : Nat) + (x3 H8 x.2.1 : Nat)))
def b2a (x : List ((List (Int × List Int)) × (List (Int × List Int)) × List Int)) : Nat := x3 a1x x
def b1U (x : List ((List (Int × List Int)) × (List (Int × List Int)) × List Int)) (k : Int) : List ((List (Int × List Int)) × (List (Int × List Int)) × List Int) := mkL a1x a4R x k
end Go.Proofs.YtfnbilpemdgkkaaGreatDoor

namespace Go.Proofs.YtfnbilpemdgkkaaGreatDoor
set_option linter.unusedVariables false
def K5 (l : List Int) : Bool := !l.any fun n => !inR n 0 9
def u6 (s : List Int) (f : Int × List Int) : Bool := D7 s f.1 && (decide ((f.2.length : Int) = at0 s f.1) && K5 f.2)
theorem a1M {s : List Int} {f : Int × List Int} (h : D7 s f.1 = false) : false = u6 s f := by simp [u6, h]
theorem a4c {s : List Int} {f : Int × List Int} {k : Int} (e : at0 s f.1 = k) (h : (f.2.length : Int) ≠ k) : false = u6 s f := by simp [u6, e, h]
theorem a8D {s : List Int} {f : Int × List Int} (h : K5 f.2 = false) : false = u6 s f := by simp [u6, h]
theorem a5j {s : List Int} {f : Int × List Int} {k : Int} (h : D7 s f.1 = true) (e : at0 s f.1 = k) (h2 : (f.2.length : Int) = k) : K5 f.2 = u6 s f := by simp [u6, h, e, h2]
theorem S6 {s : List Int} {r : Int × Int × List Int} {f : Int × List Int} (h1 : t7 s r = true) (h2 : u6 s f = true) (e : f.1 = r.1) : ∀ x ∈ r.2.2, 0 ≤ x ∧ x < f.2.length := by
 simp only [t7, u6, E4, Bool.and_eq_true, decide_eq_true_eq, Bool.not_eq_true', List.any_eq_false] at h1 h2
 intro x hx
 have h3 := h1.2.2.2 x hx
 have h4 := h2.2.1
 rw [e] at h4
 simp [inR] at h3
 omega
def G4 (s : List Int) (r : Int × Int × List Int) (f : Int × List Int) : Bool := t7 s r && (u6 s f && decide (f.1 = r.1))
theorem W0 {s : List Int} {r : Int × Int × List Int} {f : Int × List Int} (h : t7 s r = false) : G4 s r f = false := by simp [G4, h]
theorem W7 {s : List Int} {r : Int × Int × List Int} {f : Int × List Int} (h : u6 s f = false) : G4 s r f = false := by simp [G4, h]
theorem a3t {s : List Int} {r : Int × Int × List Int} {f : Int × List Int} (h : f.1 ≠ r.1) : G4 s r f = false := by simp [G4, h]
theorem a3k {s : List Int} {r : Int × Int × List Int} {f : Int × List Int} (h1 : t7 s r = true) (h2 : u6 s f = true) (h : f.1 = r.1) : G4 s r f = true := by simp [G4, h, h1, h2]
theorem a2C {s : List Int} {r : Int × Int × List Int} {f : Int × List Int} (h1 : t7 s r = true) (h2 : u6 s f = true) : G4 s r f = decide (f.1 = r.1) := by simp [G4, h1, h2]
def u9 (m : List Int) (v : List Int) : List Int := m.map (at0 v)
theorem a5b {m v : List Int} {g : Nat} (h : g < m.length) (h2 : m[g].toNat < v.length) : u9 (m.take g) v ++ [v[m[g].toNat]] = u9 (m.take (g + 1)) v := by
 rw [List.take_succ_eq_append_getElem h, u9, u9, List.map_append]
 simp [E1 h2]
theorem a6Q {m v : List Int} : (u9 m v).length = m.length := by simp [u9]
theorem a1H {m v : List Int} {g : Nat} (h : m.length ≤ g) : u9 (m.take g) v = u9 m v := by rw [List.take_of_length_le h]
def C5 (s : List Int) (r : Int × Int × List Int) (f : Int × List Int) : Int := cond (G4 s r f) r.2.1 0
def D5 (s : List Int) (r : Int × Int × List Int) (f : Int × List Int) : List Int := cond (G4 s r f) (u9 r.2.2 f.2) []
theorem b1A {s : List Int} {r : Int × Int × List Int} {f : Int × List Int} (h : I64 r.2.1) : I64 (C5 s r f) := by
 rw [C5]; cases G4 s r f
 ·show I64 0; exact ⟨by decide, by decide⟩
 ·exact h
theorem W8 {s : List Int} {r : Int × Int × List Int} (h : t7 s r = true) : r.2.2.length ≤ 3 := by
 simp only [t7, Bool.and_eq_true, decide_eq_true_eq] at h
 have := J4 h.2.1
 simp only [at0] at h; omega
end Go.Proofs.YtfnbilpemdgkkaaGreatDoor

namespace Go.Proofs.YtfnbilpemdgkkaaGreatDoor
set_option linter.unusedVariables false
def C9 (b : List Int × List Int) (t : Int) : Int :=
 if inR t 10 17 then (let i := H2 (fun x => decide (x = t)) (b.1.take (min b.1.length b.2.length)); if i < 0 then -1 else at0 b.2 i) else t
theorem Q6 {b : List Int × List Int} {t : Int} (h : inR t 10 17 = false) : t = C9 b t := by simp [C9, h]
theorem a1W {b : List Int × List Int} {t : Int} {g : Nat} (h : inR t 10 17 = true) (h1 : g < b.1.length) (h2 : g < b.2.length) (e : b.1[g] = t) (pa : ∀ x ∈ b.1.take g, decide (x = t) = false) : b.2[g] = C9 b t := by
 have h3 : g < (b.1.take (min b.1.length b.2.length)).length := by simp; omega
 have hi := N4 (p := fun x => decide (x = t)) h3 (by rw [List.take_take, Nat.min_eq_left (by omega)]; exact pa) (by simp [e])
 have h4 : ¬ ((g : Nat) : Int) < 0 := by omega
 simp only [C9, h, if_true, ← hi, if_neg h4, E1 (i := (g : Int)) (s := b.2) (by simpa using h2)]
 rfl
end Go.Proofs.YtfnbilpemdgkkaaGreatDoor

namespace Go.Proofs.YtfnbilpemdgkkaaGreatDoor
set_option linter.unusedVariables false
def pick {α : Type} (p : Nat → Bool) : List α → Nat → List α
 | [], _ => []
 | x :: xs, i => if p i then x :: pick p xs (i + 1) else pick p xs (i + 1)
def b4i (mask : Int) (i : Nat) : Bool := decide (0 < mask) && decide (J3 (mask / 2 ^ i) 1 = 1)
def b6N (l : List (Int × Int × List Int)) (mask : Int) : List (Int × Int × List Int) := pick (b4i mask) (l.take 20) 0
theorem a7r {P : Program} {Q : Exit → Act → World → Prop} {n : Nat} {w0 : World} {L0 : List Nat} {fr : Fr} {H : List HP} {d : Nat} {ty : TypeId} {pos : String} {af : Array Edge} {g : Option (Nat × Bool)} {α : Type} {E : Enc α} {T e e2 : TypeId} {agg : Bool} {k m2 : Nat} {z : List Value} {by' : Nat} {x y : Operand} {ad a2 : Option Addr} {c2 : Nat} {ys : List α} (hE : Plain E) (hT : P.underlying T = some (.slice e)) (ht : TyOk P e agg k z by') (hk : k = E.k)
  (hx : ev fr x = some (.slice ad 0 0)) (hy : ev fr y = some (.slice a2 m2 c2)) (hr : Ro w0 L0 (Enc.sl e2 E) [.slice a2 m2 c2] ys) (h63 : m2 ≤ 9223372036854775807) (hbytes : m2 * by' ≤ 140737488355328) (hd : d < n) :
  Nop P Q n w0 L0 fr H ⟨some d, .call ⟨.builtin .append, #[x, y], #[T, T]⟩, ty, pos, af, g⟩ true (κ := Option Addr × Nat) (fun p => (d, .slice p.1 m2 p.2) :: fr) (fun p => ow (Enc.sl e E) [.slice p.1 m2 p.2] ys :: H) (fun _ => True) := fun K hK a w ha hw => by
 subst hk
 obtain ⟨ccs, ⟨Lc, h1⟩, h2, h3⟩ := hr.src
 have hsrc : (m2 = 0 ∧ ccs = []) ∨ ∃ b o, a2 = some ⟨b, o, none⟩ ∧ B2 w b o ccs := by
  rcases h3 H with h | ⟨b, o, k1, k2⟩
  ·exact .inl h
  ·exact .inr ⟨b, o, k1, k2 w hw⟩
 have hy1 : p9 E w ccs ys [] true := (hE.elems h1).stable (by simp)
 have hm2 := hr.slen.1
 obtain ⟨a', c', w', L1', r1, r2, r3, r4, -⟩ := V7 (P := P) (ty := ty) (c2 := c2) hT ht E.pos (show (row e E.k ad 0 0 []).holds w [] from ⟨by simp, .inl ⟨rfl, rfl, rfl⟩⟩) hsrc (by rw [hy1.len, hm2]) hy1.one (by rw [Nat.zero_add]; exact h63) (by rw [Nat.zero_add]; exact hbytes)
 obtain ⟨L, hs, hn, hst⟩ := id hw
 obtain ⟨d1, d2, d3⟩ := a5C (xs := ([] : List α)) (m := 0) rfl hm2 (by rw [Nat.zero_add]; exact h63) ⟨rfl, rfl⟩ hy1 (by simp) r2 r3 r4
 obtain ⟨k1, k2, k3⟩ := Step.call (Lp := []) (Lr := L) (by simpa using hst) (by simpa using hn) hs.inh (by simpa using d3) d2
 have hrun : (execOp a.eval ⟨some d, .call ⟨.builtin .append, #[x, y], #[T, T]⟩, ty, pos, af, g⟩).run P w = .ok (.value (.slice a' (0 + m2) c')) w' := by
  simp only [execOp, resolve, ha.ev hx, ha.ev hy, List.map_toArray, List.map_cons, List.map_nil, Sem.run_bind, Sem.run_pure, Result.andThen_ok, invoke, builtin, r1]
 simp only [Nat.zero_add, List.nil_append] at d1 hrun
 rw [Oper.wp, hrun]
 exact hK (a', c') trivial w _ _ (ha.put hd _) ⟨_, ⟨_, L, rfl, d1, hs.stable k3⟩, k2, k1⟩ (fun _ => r4.below)
end Go.Proofs.YtfnbilpemdgkkaaGreatDoor
