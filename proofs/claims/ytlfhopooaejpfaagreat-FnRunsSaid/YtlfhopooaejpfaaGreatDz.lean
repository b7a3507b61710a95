import Derived.Test.YtlfhopooaejpfaaGreatBd
section
namespace Go.Proofs.YtlfhopooaejpfaaGreat
set_option linter.unusedVariables false
set_option linter.unusedSimpArgs false
theorem b1N {w : World} {L : List Nat} {e : TypeId} {a : Option Addr} {m c : Nat} {xs : List (List Int × List Int)} (h : Ro w L (Enc.sl e (Enc.pair (Enc.sl tI Enc.int) (Enc.sl tI Enc.int))) [.slice a m c] xs) : ∀ x ∈ xs, (∀ y ∈ x.1, I64 y) ∧ ∀ y ∈ x.2, I64 y := by
 intro x hx
 obtain ⟨i, hi, rfl⟩ := List.getElem_of_mem hx
 obtain ⟨_, _, ci, _, h1, _⟩ := h.elem i hi
 obtain ⟨c1, c2, rfl, h2, h3⟩ := h1.pair
 obtain ⟨a', c', rfl⟩ := h3.sl
 obtain ⟨a2, c2', rfl⟩ := h2.sl
 exact ⟨h2.i64, h3.i64⟩
def b8g (s : List Int) (d4 : List (Int × List Int)) (out : List (List Int)) (q : List Int × List (Int × List Int)) : List (List Int) := (V9 s q d4).foldl K0 out
def b9U (s : List Int) (u : List (List Int × List (Int × List Int))) (d4 : List (Int × List Int)) : List (List Int) := if a7H s u then u.foldl (b8g s d4) [] else []
end Go.Proofs.YtlfhopooaejpfaaGreat
end
section
namespace Go.Proofs.YtlfhopooaejpfaaGreat
set_option linter.unusedVariables false
set_option linter.unusedSimpArgs false
def a1p (v : List Int) (p : Int × Int) : Bool := decide (at0 v p.1 = p.2)
def E4 (m : Int × List Int × Int × Int × Int) (v : List Int) (f : Int × List Int) : Bool := decide (f.1 = m.1) && (m.2.1.zip v).all (a1p f.2)
theorem a0h {a b : List Int} {p : Int × Int → Bool} {g : Nat} (h : g < a.length) (h2 : g < b.length) : ((a.zip b).drop g).all p = (p (a[g], b[g]) && ((a.zip b).drop (g + 1)).all p) := by
 rw [List.drop_eq_getElem_cons (by simp; omega)]
 simp
theorem a1L {a b : List Int} {p : Int × Int → Bool} {g : Nat} (h : a.length ≤ g) : ((a.zip b).drop g).all p = true := by
 rw [List.drop_eq_nil_of_le (by simp; omega)]; rfl
theorem b3e {α : Type} {s : List α} {p : α → Bool} : s.filter (fun x => !!p x) = s.filter p := by
 congr 1; funext x; cases p x <;> rfl
theorem b0K {s : List Int} {m : Int × List Int × Int × Int × Int} {f : Int × List Int} (h1 : M9 s m = true) (h2 : I0 s f = true) (e : f.1 = m.1) : ∀ i ∈ m.2.1, 0 ≤ i ∧ i < f.2.length := by
 simp only [M9, W5, I0, T9, Bool.and_eq_true, decide_eq_true_eq, Bool.not_eq_true', List.any_eq_false] at h1 h2
 intro i hi
 have h3 := h1.2.2.1 i hi
 have h4 := h2.2.1
 rw [e] at h4
 simp only [inR, Bool.not_eq_true, Bool.and_eq_false_imp, Bool.and_eq_true, decide_eq_true_eq, decide_eq_false_iff_not] at h3
 omega
end Go.Proofs.YtlfhopooaejpfaaGreat
end
section
namespace Go.Proofs.YtlfhopooaejpfaaGreat
set_option linter.unusedVariables false
set_option linter.unusedSimpArgs false
abbrev Mth := Int × List Int × Int × Int × Int
abbrev Fct := Int × List Int
abbrev Lin := Int × (Int × List Int) × Int × List Int
abbrev Rul := Int × Int × List Int
def atM (l : List Mth) (i : Int) : Mth := l.getD i.toNat (0, [], 0, 0, 0)
theorem K8 {l : List Mth} {i : Int} (h : i.toNat < l.length) : atM l i = l[i.toNat] := by simp [atM, List.getD, h]
def atR (l : List Rul) (i : Int) : Rul := l.getD i.toNat (0, 0, [])
theorem Q5 {n a b : Int} (h : inR n a b = true) : a ≤ n ∧ n ≤ b := of_decide_eq_true h
def N6 (s : List Int) (l : List Mth) (a : Int × List Int) : Bool := G5 s l && (inR a.1 0 ((l.length : Int) - 1) && (decide (a.2.length = (atM l a.1).2.1.length) && O7 a.2))
theorem U2 {s : List Int} {l : List Mth} {a : Int × List Int} (h : N6 s l a = true) : G5 s l = true ∧ (0 ≤ a.1 ∧ a.1.toNat < l.length) ∧ a.2.length = (atM l a.1).2.1.length ∧ O7 a.2 = true := by
 simp only [N6, Bool.and_eq_true, decide_eq_true_eq] at h
 have h1 := Q5 h.2.1
 exact ⟨h.1, ⟨by omega, by omega⟩, h.2.2.1, h.2.2.2⟩
theorem a5G {s : List Int} {l : List Mth} (h : G5 s l = true) : ∀ m ∈ l, M9 s m = true := by
 simp only [G5, Bool.and_eq_true, Bool.not_eq_true', List.any_eq_false, decide_eq_true_eq] at h
 intro m hm
 have := h.2.2 m hm
 simpa using this
theorem b2s {s : List Int} {l : List Mth} {a : Int × List Int} (h : N6 s l a = true) : M9 s (atM l a.1) = true := by
 obtain ⟨h1, h2, _⟩ := U2 h
 rw [K8 h2.2]
 exact a5G h1 _ (List.getElem_mem _)
theorem b2x {s : List Int} {l : List Mth} {a : Int × List Int} {d4 : List Fct} (h : N6 s l a = true) (hf : E0 s d4 = true) : ∀ f ∈ d4, f.1 = (atM l a.1).1 → ∀ i ∈ (atM l a.1).2.1, 0 ≤ i ∧ i < f.2.length :=
 fun f hm e => b0K (b2s h) ((K3 hf).2 f hm) e
def b8x (r : Rul) (f x : Fct) : Bool := decide (x.1 = r.1) && decide (K4 (r.2.1, a1b r.2.2 x.2) f = 0)
def b6r (d4 : List Fct) (f : Fct) (r : Rul) : Bool := d4.any (b8x r f)
def b4K (F2 : List Rul) (d4 : List Fct) (f : Fct) : Int := H3 (b6r d4 f) F2
def b6n (I5 : List Int) (before : List Lin) (v : Int) : Bool := G7 I5 v || before.any (fun y => G7 y.2.2.2 v)
def b8l (s : List Int) (r : Rul) (x y : Fct) : Bool := b4f s r y && decide (K4 (b8m s r y, b8j s r y) x = 0)
def b6p (s : List Int) (l : List Mth) (d4 : List Fct) (kn : Int → Bool) (x : Lin) : Bool :=
 N6 s l x.2.1 && (decide ((atM l x.2.1.1).2.2.1 = 0) && ((!x.2.1.2.any (fun v => !kn v)) && I2 (d4.filter (E4 (atM l x.2.1.1) x.2.1.2)) x.2.2))
def b6q (s : List Int) (F2 : List Rul) (gv : Bool) (x : Lin) : Bool := inR x.1 0 ((F2.length : Int) - 1) && (I0 s x.2.2 && gv)
def b6A (s : List Int) (l : List Mth) (F2 : List Rul) (d4 : List Fct) (I5 : List Int) (before : List Lin) (x : Lin) : Bool :=
 if x.1 = -1 then b6p s l d4 (b6n I5 before) x else b6q s F2 (before.any fun y => b8l s (atR F2 x.1) x.2.2 y.2.2) x
def b4y : Lin := (0, (0, []), 0, [])
def b6c (s : List Int) (l : List Mth) (F2 : List Rul) (d4 : List Fct) (I5 : List Int) (lines : List Lin) (g : Nat) : Bool :=
 ((List.range lines.length).drop g).all fun i => b6A s l F2 d4 I5 (lines.take i) (lines.getD i b4y)
def b7b (lines : List Lin) (f : Fct) : Bool := decide (K4 (lines.getD (lines.length - 1) b4y).2.2 f = 0)
def b9i (s : List Int) (l : List Mth) (F2 : List Rul) (d4 : List Fct) (I5 : List Int) (f : Fct) (lines : List Lin) : Bool :=
 (G5 s l && a3u s F2) && (E0 s d4 && (decide (0 < lines.length) && (b7b lines f && b6c s l F2 d4 I5 lines 0)))
-- the other one's way
def b7p (lines : List Lin) (g : Nat) : List Fct := ((lines.take g).map fun x => x.2.2).foldl D1 []
def b7h (I5 : List Int) (lines : List Lin) (g : Nat) : List Int := (lines.take g).foldl (fun v x => x.2.2.2.foldl I7 v) (P7 (I5.filter fun t => inR t 0 9))
def b7w (s : List Int) (l : List Mth) (F2 : List Rul) (d4 : List Fct) (F : List Fct) (V : List Int) (x : Lin) : Bool :=
 if x.1 = -1 then b6p s l d4 (G7 V) x else b6q s F2 (b6r F x.2.2 (atR F2 x.1)) x
def b9B (s : List Int) (l : List Mth) (F2 : List Rul) (d4 : List Fct) (I5 : List Int) (lines : List Lin) (g : Nat) : Bool :=
 ((List.range lines.length).drop g).all fun i => b7w s l F2 d4 (b7p lines i) (b7h I5 lines i) (lines.getD i b4y)
theorem a1k {x : List Fct} : ∀ {v : List Fct} (y : Fct), y ∈ x.foldl D1 v ↔ y ∈ v ∨ y ∈ x := by
 induction x with
 | nil => intro v y; simp
 | cons a x ih =>
  intro v y
  rw [List.foldl_cons, ih, List.mem_cons]
  have : y ∈ D1 v a ↔ y ∈ v ∨ y = a := by
   refine ⟨fun h => a2t h, ?_⟩
   rintro (h | rfl)
   ·exact a3R h
   ·cases hh : I2 v y
    ·exact a8w hh
    ·exact a3R (a1C.1 hh)
  rw [this, or_assoc]
-- sizes
abbrev b9L : Lin → Nat := fun x => x.2.1.2.length + x.2.2.2.length
end Go.Proofs.YtlfhopooaejpfaaGreat
end
section
namespace Go.Proofs.YtlfhopooaejpfaaGreat
set_option linter.unusedVariables false
set_option linter.unusedSimpArgs false
abbrev Acs := Int × List Int
abbrev Rch := List Fct × List Int × List Acs × Int
def b0s (l : List Mth) (d4 : List Fct) (a : Acs) : List Fct := d4.filter (E4 (atM l a.1) a.2)
def b8D (l : List Mth) (d4 : List Fct) (F : List Fct) (a : Acs) : List Fct := (b0s l d4 a).foldl D1 F
def wvI (v : List Int) (f : Fct) : List Int := P7 ((v ++ f.2).filter fun t => inR t 0 9)
def pvI (v : List Int) (f : Fct) : List Int := f.2.foldl I7 v
def b9J (l : List Mth) (d4 : List Fct) (v : List Int) (a : Acs) : List Int := (b0s l d4 a).foldl wvI v
def b8u (l : List Mth) (d4 : List Fct) (v : List Int) (a : Acs) : List Int := (b0s l d4 a).foldl pvI v
def b8h (n : Nat) : Int := if 0 < n then 1 else 0
def a7O (l : List Mth) (r : Rch) : List Acs := S8 r.2.1 r.2.2.1 l 0
def b2b (l : List Mth) (d4 : List Fct) (r : Rch) : Rch :=
 ((a7O l r).foldl (b8D l d4) r.1, (a7O l r).foldl (b8u l d4) r.2.1, r.2.2.1 ++ a7O l r, r.2.2.2 + b8h (a7O l r).length)
-- order
theorem a5F {α : Type} {r : α → α → Bool} (tr : ∀ a b c, r a b = true → r b c = true → r a c = true) : ∀ {l : List α}, G4 r l = true → l.Pairwise (fun a b => r a b = true)
 | [], _ => .nil
 | [_], _ => by simp
 | a :: b :: l, h => by
  simp only [G4, Bool.and_eq_true] at h
  have h2 := a5F tr h.2
  rw [List.pairwise_cons]
  refine ⟨fun c hc => ?_, h2⟩
  rw [List.pairwise_cons] at h2
  rcases List.mem_cons.1 hc with rfl | hc
  ·exact h.1
  ·exact tr _ _ _ h.1 (h2.1 c hc)
theorem b0t {α : Type} {r : α → α → Bool} {f : α} (tr : ∀ a b c, r a b = true → r b c = true → r a c = true) : ∀ {l : List α}, l.Pairwise (fun a b => r a b = true) → (∀ y ∈ l, r f y = false → r y f = true) →
  (if (l.any (r f)) then J4 (r f) f l else l ++ [f]).Pairwise (fun a b => r a b = true) ∧ ∀ y, y ∈ (if (l.any (r f)) then J4 (r f) f l else l ++ [f]) → y ∈ l ∨ y = f := by
 intro l
 induction l with
 | nil => intro _ _; simp
 | cons z l ih =>
  intro h ht
  rw [List.pairwise_cons] at h
  have ih' := ih h.2 fun y hy => ht y (by simp [hy])
  cases hz : r f z
  ·simp only [List.any_cons, hz, Bool.false_or, J4, Bool.false_eq_true, if_false]
   have e : (if (l.any (r f)) then z :: J4 (r f) f l else z :: l ++ [f]) = z :: (if (l.any (r f)) then J4 (r f) f l else l ++ [f]) := by split <;> simp
   rw [e]
   refine ⟨?_, fun y hy => ?_⟩
   ·rw [List.pairwise_cons]
    refine ⟨fun y hy => ?_, ih'.1⟩
    rcases ih'.2 y hy with hy | rfl
    ·exact h.1 y hy
    ·exact ht z (by simp) hz
   ·rcases List.mem_cons.1 hy with rfl | hy
    ·simp
    ·rcases ih'.2 y hy with hy | rfl
     ·simp [hy]
     ·simp
  ·simp only [List.any_cons, hz, Bool.true_or, if_true, J4]
   refine ⟨?_, fun y hy => by simp only [List.mem_cons] at hy ⊢; rcases hy with h | h | h <;> simp [h]⟩
   rw [List.pairwise_cons, List.pairwise_cons]
   refine ⟨fun y hy => ?_, h⟩
   rcases List.mem_cons.1 hy with rfl | hy
   ·exact hz
   ·exact tr _ _ _ hz (h.1 y hy)
theorem b1o {a b c : Int} : M5 a b < 0 → M5 b c < 0 → M5 a c < 0 := by unfold M5; grind
theorem a0O {a b : Int} : M5 a b = 0 ↔ a = b := by unfold M5; grind
theorem a7G : ∀ {a b c : List Int}, G6 a b < 0 → G6 b c < 0 → G6 a c < 0
 | [], [], c, h, _ => by simp [G6] at h
 | [], _ :: _, [], _, h => by simp [G6] at h
 | [], _ :: _, _ :: _, _, _ => by simp [G6]
 | _ :: _, [], _, h, _ => by simp [G6] at h
 | _ :: _, _ :: _, [], _, h => by simp [G6] at h
 | x :: a, y :: b, z :: c, h1, h2 => by
  have h3 := a7G (a := a) (b := b) (c := c)
  have h4 := b1o (a := x) (b := y) (c := z)
  have h5 := a0O (a := x) (b := y)
  have h6 := a0O (a := y) (b := z)
  have h7 := a0O (a := x) (b := z)
  unfold G6 at h1 h2 ⊢; grind
theorem b1D {a b c : Fct} (h1 : K4 a b < 0) (h2 : K4 b c < 0) : K4 a c < 0 := by
 have h3 := a7G (a := a.2) (b := b.2) (c := c.2)
 have h4 := b1o (a := a.1) (b := b.1) (c := c.1)
 have h5 := a0O (a := a.1) (b := b.1)
 have h6 := a0O (a := b.1) (b := c.1)
 have h7 := a0O (a := a.1) (b := c.1)
 unfold K4 at h1 h2 ⊢; grind
abbrev a0G (l : List Fct) : Prop := l.Pairwise (fun a b => ltF a b = true)
theorem b3G {l : List Fct} {f : Fct} (h : a0G l) : a0G (D1 l f) := by
 cases hh : I2 l f
 ·rw [D1, hh, P4, if_neg (by decide)]
  refine (b0t (fun a b c h1 h2 => ?_) h fun y hy hf => ?_).1
  ·simp only [ltF, decide_eq_true_eq] at h1 h2 ⊢; exact b1D h1 h2
  ·simp only [ltF, decide_eq_false_iff_not, decide_eq_true_eq] at hf ⊢
   have h1 := a6l (a := f) (b := y)
   rcases Int.lt_or_eq_of_le (show K4 y f ≤ 0 by omega) with h2 | h2
   ·exact h2
   ·rw [a1j] at h2
    subst h2
    rw [a1C.2 hy] at hh; cases hh
 ·rw [a2u hh]; exact h
theorem a5V : ∀ {m x : List Fct}, a0G x → a0G (m.foldl D1 x)
 | [], _, h => h
 | f :: m, x, h => a5V (m := m) (b3G h)
theorem a1s {l : List Fct} (h : a0G l) : l.Nodup :=
 h.imp fun {a b} hab e => by subst e; simp [ltF, a1j.2 rfl] at hab
-- values
-- facts
-- the accesses
-- a step of a state
def b4N (s : List Int) (l : List Mth) (d4 : List Fct) (r : Rch) : Bool := G5 s l && (E0 s d4 && (E0 s r.1 && (a5r r.2.1 && inR r.2.2.2 0 100)))
def b9y (s : List Int) (l : List Mth) (d4 : List Fct) (r : Rch) : Rch := if b4N s l d4 r then b2b l d4 r else r
def b9x (s : List Int) (l : List Mth) (d4 : List Fct) (r : Rch) : Bool := b4N s l d4 r && decide (0 < (a7O l r).length)
section
variable {l : List Mth} {d4 F : List Fct} {V : List Int} {A : List Acs} {N : Int} {g : Nat}
end
-- states that are reached
def a3G (l : List Mth) (d4 : List Fct) (I5 : List Int) : Nat → Rch
 | 0 => ([], P7 (I5.filter fun t => inR t 0 9), [], 0)
 | n + 1 => b2b l d4 (a3G l d4 I5 n)
def a9d (l : List Mth) (d4 : List Fct) (r : Rch) : Nat → Rch → Bool
 | 0, x => decide (x = r)
 | n + 1, x => decide (x = r) || (decide (0 < (a7O l x).length) && a9d l d4 r n (b2b l d4 x))
def b2j (s : List Int) (l : List Mth) (d4 : List Fct) (I5 : List Int) (r : Rch) : Bool := (G5 s l && E0 s d4) && a9d l d4 r 40 (a3G l d4 I5 0)
structure rInv (s : List Int) (l : List Mth) (d4 : List Fct) (n : Nat) (x : Rch) : Prop where
 asc : a0G x.1
 sub : ∀ f ∈ x.1, f ∈ d4
 flen : x.1.length ≤ 24
 fel : ∀ f ∈ x.1, f.2.length ≤ 3
 a1b : a5r x.2.1 = true
 log : x.2.2.1.length ≤ 5000 * n
 loge : ∀ a ∈ x.2.2.1, a.2.length ≤ 3
 rounds : 0 ≤ x.2.2.2 ∧ x.2.2.2 ≤ n
def b9K (s : List Int) (l : List Mth) (d4 : List Fct) (I5 : List Int) (r : Rch) (g : Nat) : Prop :=
 b2j s l d4 I5 r = a9d l d4 r (40 - g) (a3G l d4 I5 g) ∧ rInv s l d4 g (a3G l d4 I5 g)
section
variable {s : List Int} {l : List Mth} {d4 : List Fct} {I5 : List Int} {r : Rch} {g : Nat}
def b9P (s : List Int) (l : List Mth) (d4 : List Fct) (I5 : List Int) (r : Rch) (g : Nat) : Prop :=
 (g ≤ 40 → b2j s l d4 I5 r = ((G5 s l && E0 s d4) && a9d l d4 r (40 - g) (a3G l d4 I5 g))) ∧ (40 < g → b2j s l d4 I5 r = false) ∧ (0 < g → G5 s l = true ∧ E0 s d4 = true) ∧ rInv s l d4 g (a3G l d4 I5 g)
end
end Go.Proofs.YtlfhopooaejpfaaGreat
end
