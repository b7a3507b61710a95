import Derived.Test.YtlfhopooaejpfaaGreatBb
namespace Go.Proofs.YtlfhopooaejpfaaGreat
set_option linter.unusedVariables false
def inR (n lo hi : Int) : Bool := decide (lo ≤ n ∧ n ≤ hi)
def H3 {α : Type} (p : α → Bool) (s : List α) : Int := if s.any p then (s.findIdx p : Int) else -1
theorem M6 {α : Type} {p : α → Bool} {s : List α} {k : Nat} (hk : k < s.length) (h : ∀ x ∈ s.take k, p x = false) (hp : p s[k] = true) : (k : Int) = H3 p s := by
 have h1 : s.any p = true := List.any_eq_true.2 ⟨_, List.getElem_mem hk, hp⟩
 have h2 : s.findIdx p = k := by
  rw [List.findIdx_eq hk]
  refine ⟨hp, fun j hj => h _ ?_⟩
  rw [List.mem_take_iff_getElem]
  exact ⟨j, by omega, rfl⟩
 rw [H3, if_pos h1, h2]
theorem K5 {α : Type} {p : α → Bool} {s : List α} {k : Nat} (hk : ¬ k < s.length) (h : ∀ x ∈ s.take k, p x = false) : (-1 : Int) = H3 p s := by
 rw [List.take_of_length_le (by omega)] at h
 have : ¬ s.any p = true := fun h' => by
  obtain ⟨x, hx, hp⟩ := List.any_eq_true.1 h'
  rw [h x hx] at hp; cases hp
 rw [H3, if_neg this]
theorem V5 {α : Type} {p : α → Bool} {s : List α} : decide (0 ≤ H3 p s) = s.any p := by
 unfold H3; split <;> simp_all
theorem Q4 {α : Type} {p : α → Bool} {s : List α} {k : Nat} (hk : k < s.length) (h : ∀ x ∈ s.take k, p x = false) (hp : p s[k] = false) : ∀ x ∈ s.take (k + 1), p x = false := by
 intro x hx
 rw [List.take_succ_eq_append_getElem hk] at hx
 rcases List.mem_append.1 hx with hx | hx
 ·exact h x hx
 ·simp at hx; subst hx; exact hp
theorem a3w {α : Type} {p : α → Bool} {s : List α} {k : Nat} (hk : k < s.length) (hp : p s[k] = true) : s.any p = true := List.any_eq_true.2 ⟨_, List.getElem_mem hk, hp⟩
theorem a3P {α : Type} {p : α → Bool} {s : List α} {k : Nat} (hk : ¬ k < s.length) (h : ∀ x ∈ s.take k, p x = false) : s.any p = false := by
 rw [List.take_of_length_le (by omega)] at h
 rw [← Bool.not_eq_true]
 intro h'
 obtain ⟨x, hx, hp⟩ := List.any_eq_true.1 h'
 rw [h x hx] at hp; cases hp
def M7 (s : List Int) : Bool := inR (s.length : Int) 1 3 && !s.any fun n => !inR n 1 3
def J5 (s : List Int) (rel : Int) : Bool := M7 s && inR rel 0 ((s.length : Int) - 1)
def T9 (l : List Int) (arity : Int) : Bool := !l.any fun i => !inR i 0 (arity - 1)
def at0 (s : List Int) (i : Int) : Int := s.getD i.toNat 0
def b2v (s : List Int) (r : Int × Int × List Int) : Bool := J5 s r.1 && (J5 s r.2.1 && (decide ((r.2.2.length : Int) = at0 s r.2.1) && T9 r.2.2 (at0 s r.1)))
theorem J0 {α : Type} {s : List α} {i : Nat} {d : α} (h : i < s.length) : s.getD i d = s[i] := by simp [List.getD, h]
theorem Y4 {s : List Int} {i : Int} (h : J5 s i = true) : 0 ≤ i ∧ i < s.length ∧ 1 ≤ s.getD i.toNat 0 ∧ s.getD i.toNat 0 ≤ 3 := by
 simp only [J5, M7, inR, Bool.and_eq_true, decide_eq_true_eq, Bool.not_eq_true', List.any_eq_false] at h
 obtain ⟨⟨_, h1⟩, h2, h3⟩ := h
 have h5 : i.toNat < s.length := by omega
 have h4 := h1 s[i.toNat] (List.getElem_mem h5)
 rw [J0 h5]
 simp at h4
 omega
theorem E6 {s : List Int} {i : Int} (h : i.toNat < s.length) : at0 s i = s[i.toNat] := by simp [at0, h]
def szR (t : Nat) (left : Int) : Int := if (t : Int) ≤ left then left - t else -1
theorem b3L {s : List Int} {r : Int} (h : inR r 0 ((s.length : Int) - 1) = false) : J5 s r = false := by simp [J5, h]
theorem b3r {s : List Int} {r : Int} (h : M7 s = false) : J5 s r = false := by simp [J5, h]
theorem frI {a b : Int} (h : a = b) : some (Value.int .i64 a) = some (Value.int .i64 b) := by rw [h]
def C7 {α : Type} (t : α → Nat) (l : List α) : Nat := (l.map t).sum
theorem b2t {α : Type} {t : α → Nat} {l : List α} {g : Nat} (h : g < l.length) : C7 t (l.take (g + 1)) = C7 t (l.take g) + t l[g] := by
 unfold C7; rw [List.take_succ_eq_append_getElem h, List.map_append, List.sum_append]; rfl
theorem b1m {α : Type} {t : α → Nat} {l : List α} {g : Nat} : C7 t (l.take g) ≤ C7 t l := by
 have : C7 t l = C7 t (l.take g) + C7 t (l.drop g) := by
  rw [C7, C7, C7, ← List.sum_append, ← List.map_append, List.take_append_drop]
 omega
def O5 {α : Type} (t : α → Nat) (l : List α) : Nat := l.length + C7 t l
def a3u (s : List Int) (l : List (Int × Int × List Int)) : Bool := M7 s && (decide ((l.length : Int) ≤ 4) && !l.any fun r => !b2v s r)
end Go.Proofs.YtlfhopooaejpfaaGreat

namespace Go.Proofs.YtlfhopooaejpfaaGreat
set_option linter.unusedVariables false
def a3i (b : Bool) : Int := if b then 1 else 0
def a0T (log : List (Int × List Int)) (m : Int) : Int := ((log.countP fun a => decide (a.1 = m) : Nat) : Int)
theorem a5e {l : List (Int × List Int)} {m : Int} {g : Nat} (h : g < l.length) : a0T (l.take (g + 1)) m = a0T (l.take g) m + a3i (decide (l[g].1 = m)) := by
 unfold a0T a3i; rw [List.take_succ_eq_append_getElem h, List.countP_append]; by_cases e : l[g].1 = m <;> simp [e]
theorem b1F {l : List (Int × List Int)} {m : Int} : 0 ≤ a0T l m := by unfold a0T; omega
theorem b0N {l : List (Int × List Int)} {m : Int} {g : Nat} : a0T (l.take g) m ≤ g := by
 have h1 := List.countP_le_length (p := fun a : Int × List Int => decide (a.1 = m)) (l := l.take g)
 have h2 := List.length_take_le g l
 unfold a0T; omega
def quo (l : List (Int × List Int × Int × Int × Int)) (m : Int) : Int := (l.getD m.toNat (0, [], 0, 0, 0)).2.2.2.2
theorem a7L {l : List (Int × List Int × Int × Int × Int)} {m : Int} (h : m.toNat < l.length) : quo l m = l[m.toNat].2.2.2.2 := by rw [quo, J0 h]
def U6 (l : List (Int × List Int × Int × Int × Int)) (log : List (Int × List Int)) (m : Int) : Bool := !inR m 0 ((l.length : Int) - 1) || decide (quo l m < a0T log m)
theorem a1G {n lo hi : Int} (h : inR n lo hi = true) : lo ≤ n ∧ n ≤ hi := by simpa [inR] using h
theorem a8p {l : List (Int × List Int × Int × Int × Int)} {log : List (Int × List Int)} {m : Int} (h : inR m 0 ((l.length : Int) - 1) = false) : U6 l log m = true := by simp [U6, h]
theorem a4M {l : List (Int × List Int × Int × Int × Int)} {log : List (Int × List Int)} {m : Int} (h : inR m 0 ((l.length : Int) - 1) = true) {k : Int} (e : quo l m = k) : U6 l log m = decide (k < a0T log m) := by simp [U6, h, e]
def a3z (l : List (Int × List Int × Int × Int × Int)) (log : List (Int × List Int)) : Bool := !log.any fun a => U6 l log a.1
end Go.Proofs.YtlfhopooaejpfaaGreat

namespace Go.Proofs.YtlfhopooaejpfaaGreat
set_option linter.unusedVariables false
set_option linter.unusedSimpArgs false
def mkL {α : Type} (c : α → Nat) (m : α → Int → α) : List α → Int → List α
 | [], _ => []
 | x :: xs, k => m x k :: mkL c m xs (k + (c x : Nat))
section
variable {α : Type} {c : α → Nat} {m : α → Int → α}
end
def L8 (_ : Int) : Nat := 1
def a1o (_ : Int) (k : Int) : Int := k
def a7f (x : List Int) : Nat := C7 L8 x
def b7e (x : List Int) (k : Int) : List Int := mkL L8 a1o x k
def Q3 (x : Int × List Int) : Nat := 1 + C7 L8 x.2
def a3H (x : Int × List Int) (k : Int) : Int × List Int := ((k), mkL L8 a1o x.2 (k + 1))
def b8o (x : List (Int × List Int)) : Nat := C7 Q3 x
def b8p (x : List (Int × List Int)) (k : Int) : List (Int × List Int) := mkL Q3 a3H x k
def X0 (x : Int × List Int) : Nat := 1 + C7 L8 x.2
def a5s (x : Int × List Int) (k : Int) : Int × List Int := ((k), mkL L8 a1o x.2 (k + 1))
def b8a (x : List (Int × List Int)) : Nat := C7 X0 x
def b8y (x : List (Int × List Int)) (k : Int) : List (Int × List Int) := mkL X0 a5s x k
def X4 (x : Int × List Int) : Nat := 1 + C7 L8 x.2
def a4N (x : Int × List Int) (k : Int) : Int × List Int := ((k), mkL L8 a1o x.2 (k + 1))
def b7u (x : List (Int × List Int)) : Nat := C7 X4 x
def b7r (x : List (Int × List Int)) (k : Int) : List (Int × List Int) := mkL X4 a4N x k
def b1b (x : Int × Int) : Nat := 1 + 1
def b5f (x : Int × Int) (k : Int) : Int × Int := ((k), (k + 1))
def b8e (x : List (Int × Int)) : Nat := C7 b1b x
def b8B (x : List (Int × Int)) (k : Int) : List (Int × Int) := mkL b1b b5f x k
def a9R (x : List Int × List (Int × List Int)) : Nat := C7 L8 x.1 + C7 X0 x.2
def b4l (x : List Int × List (Int × List Int)) (k : Int) : List Int × List (Int × List Int) := (mkL L8 a1o x.1 (k), mkL X0 a5s x.2 (k + (C7 L8 x.1 : Nat)))
def b7N (x : List (List Int × List (Int × List Int))) : Nat := C7 a9R x
def b7Q (x : List (List Int × List (Int × List Int))) (k : Int) : List (List Int × List (Int × List Int)) := mkL a9R b4l x k
def a6A (x : List Int × List Int) : Nat := C7 L8 x.1 + C7 L8 x.2
def b2k (x : List Int × List Int) (k : Int) : List Int × List Int := (mkL L8 a1o x.1 (k), mkL L8 a1o x.2 (k + (C7 L8 x.1 : Nat)))
def b6O (x : List (List Int × List Int)) : Nat := C7 a6A x
def b6T (x : List (List Int × List Int)) (k : Int) : List (List Int × List Int) := mkL a6A b2k x k
def a8a (x : Int × List Int × Int × Int × Int) : Nat := 1 + C7 L8 x.2.1 + 1 + 1 + 1
def b2C (x : Int × List Int × Int × Int × Int) (k : Int) : Int × List Int × Int × Int × Int := ((k), mkL L8 a1o x.2.1 (k + 1), (k + 1 + (C7 L8 x.2.1 : Nat)), (k + 1 + (C7 L8 x.2.1 : Nat) + 1), (k + 1 + (C7 L8 x.2.1 : Nat) + 1 + 1))
def b7g (x : List (Int × List Int × Int × Int × Int)) : Nat := C7 a8a x
def b7z (x : List (Int × List Int × Int × Int × Int)) (k : Int) : List (Int × List Int × Int × Int × Int) := mkL a8a b2C x k
def b1f (x : Int × Int × List Int) : Nat := 1 + 1 + C7 L8 x.2.2
def b5m (x : Int × Int × List Int) (k : Int) : Int × Int × List Int := ((k), (k + 1), mkL L8 a1o x.2.2 (k + 1 + 1))
def b8w (x : List (Int × Int × List Int)) : Nat := C7 b1f x
def b8c (x : List (Int × Int × List Int)) (k : Int) : List (Int × Int × List Int) := mkL b1f b5m x k
def a6y (x : (List Int × List (Int × List Int)) × List (Int × List Int)) : Nat := C7 L8 x.1.1 + C7 X0 x.1.2 + C7 X0 x.2
def b1Y (x : (List Int × List (Int × List Int)) × List (Int × List Int)) (k : Int) : (List Int × List (Int × List Int)) × List (Int × List Int) := ((mkL L8 a1o x.1.1 (k), mkL X0 a5s x.1.2 (k + (C7 L8 x.1.1 : Nat))), mkL X0 a5s x.2 (k + (C7 L8 x.1.1 : Nat) + (C7 X0 x.1.2 : Nat)))
def b6U (x : List ((List Int × List (Int × List Int)) × List (Int × List Int))) : Nat := C7 a6y x
def b6Q (x : List ((List Int × List (Int × List Int)) × List (Int × List Int))) (k : Int) : List ((List Int × List (Int × List Int)) × List (Int × List Int)) := mkL a6y b1Y x k
def a5k (x : Int × (Int × List Int) × Int × List Int) : Nat := 1 + 1 + C7 L8 x.2.1.2 + 1 + C7 L8 x.2.2.2
def b0O (x : Int × (Int × List Int) × Int × List Int) (k : Int) : Int × (Int × List Int) × Int × List Int := ((k), ((k + 1), mkL L8 a1o x.2.1.2 (k + 1 + 1)), ((k + 1 + 1 + (C7 L8 x.2.1.2 : Nat)), mkL L8 a1o x.2.2.2 (k + 1 + 1 + (C7 L8 x.2.1.2 : Nat) + 1)))
def b8d (x : List (Int × (Int × List Int) × Int × List Int)) : Nat := C7 a5k x
def b8f (x : List (Int × (Int × List Int) × Int × List Int)) (k : Int) : List (Int × (Int × List Int) × Int × List Int) := mkL a5k b0O x k
def a9p (x : List (Int × (Int × List Int) × Int × List Int)) : Nat := C7 a5k x
def b3W (x : List (Int × (Int × List Int) × Int × List Int)) (k : Int) : List (Int × (Int × List Int) × Int × List Int) := (mkL a5k b0O x (k))
def b7M (x : List (List (Int × (Int × List Int) × Int × List Int))) : Nat := C7 a9p x
def b7J (x : List (List (Int × (Int × List Int) × Int × List Int))) (k : Int) : List (List (Int × (Int × List Int) × Int × List Int)) := mkL a9p b3W x k
def a6Y (x : (List (Int × List Int)) × List Int × (List (Int × List Int)) × Int) : Nat := C7 Q3 x.1 + C7 L8 x.2.1 + C7 X4 x.2.2.1 + 1
def b1X (x : (List (Int × List Int)) × List Int × (List (Int × List Int)) × Int) (k : Int) : (List (Int × List Int)) × List Int × (List (Int × List Int)) × Int := (mkL Q3 a3H x.1 (k), mkL L8 a1o x.2.1 (k + (C7 Q3 x.1 : Nat)), mkL X4 a4N x.2.2.1 (k + (C7 Q3 x.1 : Nat) + (C7 L8 x.2.1 : Nat)), (k + (C7 Q3 x.1 : Nat) + (C7 L8 x.2.1 : Nat) + (C7 X4 x.2.2.1 : Nat)))
def b6R (x : List ((List (Int × List Int)) × List Int × (List (Int × List Int)) × Int)) : Nat := C7 a6Y x
def b6P (x : List ((List (Int × List Int)) × List Int × (List (Int × List Int)) × Int)) (k : Int) : List ((List (Int × List Int)) × List Int × (List (Int × List Int)) × Int) := mkL a6Y b1X x k
def a3q (x : (List (Int × List Int)) × (List (Int × List Int)) × List Int) : Nat := C7 Q3 x.1 + C7 Q3 x.2.1 + C7 L8 x.2.2
def a7t (x : (List (Int × List Int)) × (List (Int × List Int)) × List Int) (k : Int) : (List (Int × List Int)) × (List (Int × List Int)) × List Int := (mkL Q3 a3H x.1 (k), mkL Q3 a3H x.2.1 (k + (C7 Q3 x.1 : Nat)), mkL L8 a1o x.2.2 (k + (C7 Q3 x.1 : Nat) + (C7 Q3 x.2.1 : Nat)))
def b4M (x : List ((List (Int × List Int)) × (List (Int × List Int)) × List Int)) : Nat := C7 a3q x
def b4S (x : List ((List (Int × List Int)) × (List (Int × List Int)) × List Int)) (k : Int) : List ((List (Int × List Int)) × (List (Int × List Int)) × List Int) := mkL a3q a7t x k
end Go.Proofs.YtlfhopooaejpfaaGreat

namespace Go.Proofs.YtlfhopooaejpfaaGreat
set_option linter.unusedVariables false
def O7 (l : List Int) : Bool := !l.any fun n => !inR n 0 9
def I0 (s : List Int) (f : Int × List Int) : Bool := J5 s f.1 && (decide ((f.2.length : Int) = at0 s f.1) && O7 f.2)
theorem a3S {s : List Int} {f : Int × List Int} (h : J5 s f.1 = false) : false = I0 s f := by simp [I0, h]
theorem a6N {s : List Int} {f : Int × List Int} {k : Int} (e : at0 s f.1 = k) (h : (f.2.length : Int) ≠ k) : false = I0 s f := by simp [I0, e, h]
theorem b2i {s : List Int} {f : Int × List Int} (h : O7 f.2 = false) : false = I0 s f := by simp [I0, h]
theorem a8x {s : List Int} {f : Int × List Int} {k : Int} (h : J5 s f.1 = true) (e : at0 s f.1 = k) (h2 : (f.2.length : Int) = k) : O7 f.2 = I0 s f := by simp [I0, h, e, h2]
def b4f (s : List Int) (r : Int × Int × List Int) (f : Int × List Int) : Bool := b2v s r && (I0 s f && decide (f.1 = r.1))
def a1b (m : List Int) (v : List Int) : List Int := m.map (at0 v)
def b8m (s : List Int) (r : Int × Int × List Int) (f : Int × List Int) : Int := cond (b4f s r f) r.2.1 0
def b8j (s : List Int) (r : Int × Int × List Int) (f : Int × List Int) : List Int := cond (b4f s r f) (a1b r.2.2 f.2) []
end Go.Proofs.YtlfhopooaejpfaaGreat

namespace Go.Proofs.YtlfhopooaejpfaaGreat
set_option linter.unusedVariables false
def B1 (b : List Int × List Int) (t : Int) : Int :=
 if inR t 10 17 then (let i := H3 (fun x => decide (x = t)) (b.1.take (min b.1.length b.2.length)); if i < 0 then -1 else at0 b.2 i) else t
theorem P8 {b : List Int × List Int} {t : Int} (h : inR t 10 17 = false) : t = B1 b t := by simp [B1, h]
theorem a9t {b : List Int × List Int} {t : Int} (h : inR t 10 17 = true) (h2 : H3 (fun x => decide (x = t)) (b.1.take (min b.1.length b.2.length)) < 0) : -1 = B1 b t := by simp only [B1, h, if_true, if_pos h2]
theorem a6I {α : Type} {p : α → Bool} {s : List α} (h : ¬ H3 p s < 0) : 0 ≤ H3 p s ∧ (H3 p s).toNat < s.length := by
 unfold H3 at *
 by_cases q : s.any p = true
 ·rw [if_pos q] at h ⊢
  have := List.findIdx_lt_length.2 (List.any_eq_true.1 q)
  omega
 ·rw [if_neg q] at h; omega
theorem b4x {b : List Int × List Int} {t : Int} (h : inR t 10 17 = true) (h2 : ¬ H3 (fun x => decide (x = t)) (b.1.take (min b.1.length b.2.length)) < 0) (h3 : (H3 (fun x => decide (x = t)) (b.1.take (min b.1.length b.2.length))).toNat < b.2.length) :
  b.2[(H3 (fun x => decide (x = t)) (b.1.take (min b.1.length b.2.length))).toNat] = B1 b t := by
 simp only [B1, h, if_true, if_neg h2, E6 h3]
theorem a2w {b : List Int × List Int} {t : Int} {g : Nat} (h : inR t 10 17 = true) (h1 : g < b.1.length) (h2 : g < b.2.length) (e : b.1[g] = t) (pa : ∀ x ∈ b.1.take g, decide (x = t) = false) : b.2[g] = B1 b t := by
 have h3 : g < (b.1.take (min b.1.length b.2.length)).length := by simp; omega
 have hi := M6 (p := fun x => decide (x = t)) h3 (by rw [List.take_take, Nat.min_eq_left (by omega)]; exact pa) (by simp [e])
 have h4 : ¬ ((g : Nat) : Int) < 0 := by omega
 simp only [B1, h, if_true, ← hi, if_neg h4, E6 (i := (g : Int)) (s := b.2) (by simpa using h2)]
 rfl
theorem a7Y {b : List Int × List Int} {t : Int} {g : Nat} (h : inR t 10 17 = true) (h1 : ¬ (g < b.1.length ∧ g < b.2.length)) (pa : ∀ x ∈ b.1.take g, decide (x = t) = false) : -1 = B1 b t := by
 refine a9t h ?_
 rw [← K5 (p := fun x => decide (x = t)) (s := b.1.take (min b.1.length b.2.length)) (k := min b.1.length b.2.length) (by simp) ?_]
 ·omega
 ·intro x hx
  rw [List.take_take, Nat.min_self] at hx
  refine pa x ?_
  rw [List.mem_take_iff_getElem] at hx ⊢
  obtain ⟨i, hi, rfl⟩ := hx
  exact ⟨i, by omega, rfl⟩
theorem a3T {b : List Int × List Int} {t : Int} (h : I64 t) (hb : ∀ x ∈ b.2, I64 x) : I64 (B1 b t) := by
 simp only [B1]
 split
 ·split
  ·exact ⟨by decide, by decide⟩
  ·unfold at0
   rcases Nat.lt_or_ge (H3 (fun x => decide (x = t)) (b.1.take (min b.1.length b.2.length))).toNat b.2.length with h1 | h1
   ·rw [J0 h1]; exact hb _ (List.getElem_mem h1)
   ·have : b.2.getD (H3 (fun x => decide (x = t)) (b.1.take (min b.1.length b.2.length))).toNat 0 = 0 := by simp [List.getD, List.getElem?_eq_none h1]
    rw [this]; exact ⟨by decide, by decide⟩
 ·exact h
theorem b3o {b : List Int × List Int} {l : List Int} (h : ∀ x ∈ l, I64 x) (h1 : ∀ x ∈ b.1, I64 x) (h2 : ∀ x ∈ b.2, I64 x) : ∀ x ∈ l, I64 (B1 b x) := fun x hx => a3T (h x hx) h2
end Go.Proofs.YtlfhopooaejpfaaGreat

namespace Go.Proofs.YtlfhopooaejpfaaGreat
set_option linter.unusedVariables false
def pick {α : Type} (p : Nat → Bool) : List α → Nat → List α
 | [], _ => []
 | x :: xs, i => if p i then x :: pick p xs (i + 1) else pick p xs (i + 1)
def b7x (mask : Int) (i : Nat) : Bool := decide (0 < mask) && decide (W1 (mask / 2 ^ i) 1 = 1)
def b9e (l : List (Int × Int × List Int)) (mask : Int) : List (Int × Int × List Int) := pick (b7x mask) (l.take 20) 0
theorem J3 {P : Program} {Q : Exit → Act → World → Prop} {n : Nat} {w0 : World} {L0 : List Nat} {fr : Fr} {H : List HP} {d : Nat} {ty : TypeId} {pos : String} {af : Array Edge} {g : Option (Nat × Bool)} {α : Type} {E : Enc α} {T e e2 : TypeId} {agg : Bool} {k m2 : Nat} {z : List Value} {by' : Nat} {x y : Operand} {ad a2 : Option Addr} {c2 : Nat} {ys : List α} (hE : Plain E) (hT : P.underlying T = some (.slice e)) (ht : TyOk P e agg k z by') (hk : k = E.k)
  (hx : ev fr x = some (.slice ad 0 0)) (hy : ev fr y = some (.slice a2 m2 c2)) (hr : Ro w0 L0 (Enc.sl e2 E) [.slice a2 m2 c2] ys) (h63 : m2 ≤ 9223372036854775807) (hbytes : m2 * by' ≤ 140737488355328) (hd : d < n) :
  Nop P Q n w0 L0 fr H ⟨some d, .call ⟨.builtin .append, #[x, y], #[T, T]⟩, ty, pos, af, g⟩ true (κ := Option Addr × Nat) (fun p => (d, .slice p.1 m2 p.2) :: fr) (fun p => ow (Enc.sl e E) [.slice p.1 m2 p.2] ys :: H) (fun _ => True) := fun K hK a w ha hw => by
 subst hk
 obtain ⟨ccs, ⟨Lc, h1⟩, h2, h3⟩ := hr.src
 have hsrc : (m2 = 0 ∧ ccs = []) ∨ ∃ b o, a2 = some ⟨b, o, none⟩ ∧ J1 w b o ccs := by
  rcases h3 H with h | ⟨b, o, k1, k2⟩
  ·exact .inl h
  ·exact .inr ⟨b, o, k1, k2 w hw⟩
 have hy1 : C4 E w ccs ys [] true := (hE.elems h1).stable (by simp)
 have hm2 := hr.slen.1
 obtain ⟨a', c', w', L1', r1, r2, r3, r4, -⟩ := a1D (P := P) (ty := ty) (c2 := c2) hT ht E.pos (show (row e E.k ad 0 0 []).holds w [] from ⟨by simp, .inl ⟨rfl, rfl, rfl⟩⟩) hsrc (by rw [hy1.len, hm2]) hy1.one (by rw [Nat.zero_add]; exact h63) (by rw [Nat.zero_add]; exact hbytes)
 obtain ⟨L, hs, hn, hst⟩ := id hw
 obtain ⟨d1, d2, d3⟩ := a8u (xs := ([] : List α)) (m := 0) rfl hm2 (by rw [Nat.zero_add]; exact h63) ⟨rfl, rfl⟩ hy1 (by simp) r2 r3 r4
 obtain ⟨k1, k2, k3⟩ := Step.call (Lp := []) (Lr := L) (by simpa using hst) (by simpa using hn) hs.inh (by simpa using d3) d2
 have hrun : (execOp a.eval ⟨some d, .call ⟨.builtin .append, #[x, y], #[T, T]⟩, ty, pos, af, g⟩).run P w = .ok (.value (.slice a' (0 + m2) c')) w' := by
  simp only [execOp, resolve, ha.ev hx, ha.ev hy, List.map_toArray, List.map_cons, List.map_nil, Sem.run_bind, Sem.run_pure, Result.andThen_ok, invoke, builtin, r1]
 simp only [Nat.zero_add, List.nil_append] at d1 hrun
 rw [Oper.wp, hrun]
 exact hK (a', c') trivial w _ _ (ha.put hd _) ⟨_, ⟨_, L, rfl, d1, hs.stable k3⟩, k2, k1⟩ (fun _ => r4.below)
end Go.Proofs.YtlfhopooaejpfaaGreat
