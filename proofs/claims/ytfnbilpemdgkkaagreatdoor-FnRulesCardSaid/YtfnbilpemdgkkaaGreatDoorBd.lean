import Derived.Test.YtfnbilpemdgkkaaGreatDoorBc
import Derived.Lib.SlicesCompact
namespace Go.Proofs.YtfnbilpemdgkkaaGreatDoor
open Go.RowKit
set_option linter.unusedVariables false
def FnP2 {α : Type} (P : Program) (w : World) (L : List Nat) (g : FuncId) (caps : List Value) (E : Enc α) (val : List Value → Value) (p : α → α → Bool) : Prop :=
 X6 P g ∧ ∀ w', Keep w L w' → ∀ cs x ds y, Ro w' [] E cs x → Ro w' [] E ds y → Calls P g (val cs :: val ds :: caps).toArray w' fun e w'' => e = .returned (.bool (p x y)) ∧ Ext w' w''
section
variable {P : Program} {α : Type} {E : Enc α} {w w0 : World} {L L0 Lp : List Nat} {pre rest : List HP} {g : FuncId} {caps : List Value} {val : List Value → Value} {p : α → α → Bool}
end
section
variable {P : Program} {Q : Exit → Act → World → Prop} {n : Nat} {w0 : World} {L0 : List Nat} {fr : Fr} {H : List HP} {d : Nat} {ty : TypeId} {pos : String} {af : Array Edge} {g : Option (Nat × Bool)}
end
section
variable {P : Program} {w : World} {L : List Nat} {g : FuncId} {caps : List Value} {RR : World → List Nat → Prop}
theorem b4a {p : (Int × List Int) → (Int × List Int) → Bool} (tr : ∀ {x0 : Int} {ax1 : Option Addr} {mx1 cx1 : Nat} {x1 : List Int} {y0 : Int} {ay1 : Option Addr} {my1 cy1 : Nat} {y1 : List Int}, Tr P g (.agg #[.int .i64 x0, .slice ax1 mx1 cx1] :: .agg #[.int .i64 y0, .slice ay1 my1 cy1] :: caps) (fun w L => (I64 x0 ∧ Ro w L eIs [.slice ax1 mx1 cx1] x1 ∧ I64 y0 ∧ Ro w L eIs [.slice ay1 my1 cy1] y1) ∧ RR w L) [] (κ := Unit) (fun _ => True) (fun _ => .bool (p (x0, x1) (y0, y1))) (fun _ => [])) (hR : ∀ w', Keep w L w' → RR w' []) : FnP2 P w L g caps w9 a1h p :=
 ⟨(tr (x0 := 0) (x1 := []) (ax1 := none) (mx1 := 0) (cx1 := 0) (y0 := 0) (y1 := []) (ay1 := none) (my1 := 0) (cy1 := 0)).1, fun w' k cs x ds y hx hy => by obtain ⟨a0, c0, rfl, h0, h1⟩ := y8 hx; obtain ⟨b0, e0, rfl, k0, k1⟩ := y8 hy; exact Tr.bool tr ⟨⟨h0, h1, k0, k1⟩, hR w' k⟩⟩
end
end Go.Proofs.YtfnbilpemdgkkaaGreatDoor

namespace Go.Proofs.YtfnbilpemdgkkaaGreatDoor
open Go.RowKit
set_option linter.unusedVariables false
def owd {α : Type} (e : TypeId) (E : Enc α) (a : Option Addr) (m c : Nat) (xs : List α) (j : Nat) : HP where
 holds w L := ∃ c1 c2 L1 L2, L = L1 ++ L2 ∧ m = xs.length ∧ m ≤ maxLen ∧ c1.length = j * E.k ∧ p9 E w c2 (xs.drop j) L2 true ∧ (row e E.k a m c (c1 ++ c2)).holds w L1
 stable := by
  rintro w w' L ⟨c1, c2, L1, L2, rfl, h1, h2, h3, h4, h5⟩ hb
  exact ⟨c1, c2, L1, L2, rfl, h1, h2, h3, h4.stable fun b h => hb b (by simp [h]), (row e E.k a m c _).stable h5 fun b h => hb b (by simp [h])⟩
 inh := by
  rintro w L ⟨c1, c2, L1, L2, rfl, h1, h2, h3, h4, h5⟩ b hb
  rcases List.mem_append.1 hb with hb | hb
  ·exact (row e E.k a m c _).inh h5 b hb
  ·exact h4.inh b hb
def owt {α : Type} (e : TypeId) (E : Enc α) (a : Option Addr) (m c : Nat) (xs : List α) (j : Nat) (ce : List Value) : HP where
 holds w L := ∃ c1 c2 L1 L2, L = L1 ++ L2 ∧ m = xs.length ∧ m ≤ maxLen ∧ j < xs.length ∧ ce.length = E.k ∧ c1.length = j * E.k ∧ p9 E w c2 (xs.drop (j + 1)) L2 true ∧ (row e E.k a m c (c1 ++ (ce ++ c2))).holds w L1
 stable := by
  rintro w w' L ⟨c1, c2, L1, L2, rfl, h1, h2, h0, h6, h3, h4, h5⟩ hb
  exact ⟨c1, c2, L1, L2, rfl, h1, h2, h0, h6, h3, h4.stable fun b h => hb b (by simp [h]), (row e E.k a m c _).stable h5 fun b h => hb b (by simp [h])⟩
 inh := by
  rintro w L ⟨c1, c2, L1, L2, rfl, h1, h2, h0, h6, h3, h4, h5⟩ b hb
  rcases List.mem_append.1 hb with hb | hb
  ·exact (row e E.k a m c _).inh h5 b hb
  ·exact h4.inh b hb
section
variable {n : Nat} {w0 : World} {L0 : List Nat} {fr : Fr} {H R : List HP} {G : Act → World → Prop} {α : Type} {E : Enc α} {e : TypeId} {a : Option Addr} {m c : Nat} {xs : List α} {j : Nat}
theorem a8j {cs : List Value} (h : ∀ (a : Option Addr) (m c : Nat), cs = [.slice a m c] → m = xs.length → Ent n w0 L0 fr (ow (Enc.sl e E) [.slice a m c] xs :: R) G) : Ent n w0 L0 fr (ow (Enc.sl e E) cs xs :: R) G := fun ac w h1 h2 => by
 obtain ⟨L, ⟨Lx, LR, rfl, hx, hR⟩, hn, hst⟩ := h2
 obtain ⟨a, m, c, ccs, L1, L2, rfl, hm, hx2⟩ := id hx
 exact h a m c rfl hm ac w h1 ⟨Lx ++ LR, ⟨Lx, LR, rfl, hx, hR⟩, hn, hst⟩
end
theorem G6.has {w1 w0 : World} {L1 L0 : List Nat} {b off : Nat} {cs : List Value} (h : G6 w1 L1 w0 L0) (k : ∀ H, Has w0 L0 H b off cs) : ∀ H, Has w1 L1 H b off cs := fun H w hw => k H w (h H w hw)
theorem frB {a b : Bool} (h : a = b) : some (Value.bool a) = some (Value.bool b) := by rw [h]
end Go.Proofs.YtfnbilpemdgkkaaGreatDoor

namespace Go.Proofs.YtfnbilpemdgkkaaGreatDoor
set_option linter.unusedVariables false
def G7 (a b : Int) : Int := if a < b then -1 else if b < a then 1 else 0
def C4 : List Int → List Int → Int
 | [], [] => 0
 | [], _ :: _ => -1
 | _ :: _, [] => 1
 | a :: l, b :: m => if G7 a b ≠ 0 then G7 a b else C4 l m
def orI : List Int → Int
 | [] => 0
 | x :: l => if x ≠ 0 then x else orI l
def C0 (a b : Int × List Int) : Int := if G7 a.1 b.1 ≠ 0 then G7 a.1 b.1 else C4 a.2 b.2
theorem a7b {a b : Int} : I64 (G7 a b) := by unfold G7 I64; split; omega; split <;> omega
theorem a6Z : ∀ {l m : List Int}, I64 (C4 l m)
 | [], [] => by unfold C4 I64; omega
 | [], _ :: _ => by unfold C4 I64; omega
 | _ :: _, [] => by unfold C4 I64; omega
 | a :: l, b :: m => by unfold C4; split; exact a7b; exact a6Z
theorem a5H {a b : Int} : G7 a b = 0 ↔ a = b := by unfold G7; grind
theorem a5d : ∀ {l m : List Int}, C4 l m = 0 ↔ l = m
 | [], [] => by simp [C4]
 | [], _ :: _ => by simp [C4]
 | _ :: _, [] => by simp [C4]
 | a :: l, b :: m => by
  have := a5H (a := a) (b := b)
  have h2 := a5d (l := l) (m := m)
  unfold C4; grind
theorem M7 {a b : Int × List Int} : C0 a b = 0 ↔ a = b := by
 have h1 := a5H (a := a.1) (b := b.1)
 have h2 := a5d (l := a.2) (m := b.2)
 unfold C0
 rcases a with ⟨a1, a2⟩; rcases b with ⟨b1, b2⟩
 grind
def eqP {α : Type} (p : α → α → Bool) : List α → List α → Bool
 | [], [] => true
 | a :: l, b :: m => p a b && eqP p l m
 | _, _ => false
theorem a1o {α : Type} {p : α → α → Bool} : ∀ {l m : List α}, eqP p l m = true → l.length = m.length
 | [], [], _ => rfl
 | [], _ :: _, h => by simp [eqP] at h
 | _ :: _, [], h => by simp [eqP] at h
 | a :: l, b :: m, h => by
  simp only [eqP, Bool.and_eq_true] at h
  simp [a1o h.2]
theorem a7V {α : Type} [DecidableEq α] : ∀ {l m : List α}, eqP (fun z y => decide (z = y)) l m = decide (l = m)
 | [], [] => by simp [eqP]
 | [], _ :: _ => by simp [eqP]
 | _ :: _, [] => by simp [eqP]
 | a :: l, b :: m => by simp [eqP, a7V (l := l) (m := m)]
theorem a2t {l m : List (Int × List Int)} : eqP (fun z y => decide (C0 z y = 0)) l m = decide (l = m) := by
 rw [← a7V]
 congr 1
 funext z y
 simp [M7]
end Go.Proofs.YtfnbilpemdgkkaaGreatDoor

namespace Go.Proofs.YtfnbilpemdgkkaaGreatDoor
set_option linter.unusedVariables false
def w5 (l : List (Int × List Int)) (f : Int × List Int) : Bool := l.any fun z => decide (C0 z f = 0)
def N6 (a : Int × List Int) (b : List Int × List Int) : Int × List Int := (a.1, a.2.map (C9 b))
def b7h (q : List Int × List (Int × List Int)) (a6 : List (Int × List Int)) (head : List Int) (b : List Int × List Int) : Bool :=
 decide (b.1.length = b.2.length) && (decide (q.1.map (C9 b) = head) && !q.2.any fun a => !w5 a6 (N6 a b))
end Go.Proofs.YtfnbilpemdgkkaaGreatDoor

namespace Go.Proofs.YtfnbilpemdgkkaaGreatDoor
set_option linter.unusedVariables false
def E0 {α : Type} (r : α → α → Bool) : List α → Bool
 | a :: b :: l => r a b && E0 r (b :: l)
 | _ => true
theorem a9u {α : Type} {l : List α} {g : Nat} (h : g < l.length) (h0 : 0 < g) : l.drop (g - 1) = l[g - 1] :: l[g] :: l.drop (g + 1) := by
 rw [List.drop_eq_getElem_cons (by omega), show g - 1 + 1 = g by omega, List.drop_eq_getElem_cons h]
def ltB (a b : Int) : Bool := decide (a < b)
theorem E6 {α : Type} {r : α → α → Bool} {l : List α} {g : Nat} (h : g < l.length) (h0 : 0 < g) : E0 r (l.drop (g - 1)) = (r l[g - 1] l[g] && E0 r (l.drop g)) := by
 rw [a9u h h0, E0, ← List.drop_eq_getElem_cons h]
theorem E7 {α : Type} {r : α → α → Bool} {l : List α} {g : Nat} (h : g = 0) : E0 r (l.drop (g - 1)) = E0 r (l.drop g) := by subst h; rfl
theorem G1 {α : Type} {r : α → α → Bool} {l : List α} {g : Nat} (h : l.length ≤ g) : E0 r (l.drop (g - 1)) = true := by
 have : (l.drop (g - 1)).length ≤ 1 := by simp; omega
 match l.drop (g - 1), this with
 | [], _ => rfl
 | [x], _ => rfl
 | x :: y :: z, h => simp at h
def b4e (m : Int × List Int × Int × Int × Int) (ar : Int) : Bool :=
 E0 ltB m.2.1 && (E4 m.2.1 ar && (inR m.2.2.1 0 9 && (inR m.2.2.2.1 0 99 && inR m.2.2.2.2 1 99)))
def b3d (s : List Int) (m : Int × List Int × Int × Int × Int) : Bool := D7 s m.1 && b4e m (at0 s m.1)
def S5 (s : List Int) (l : List (Int × List Int × Int × Int × Int)) : Bool := B8 s && (decide ((l.length : Int) ≤ 5) && !l.any fun m => !b3d s m)
def a2G (v : List Int) : Bool := E0 ltB v && K5 v
def b5P (l : List (Int × List Int)) (a : Int × List Int) : Bool := l.any fun z => decide (z = a)
def J1 (L5 : List Int) : Nat → List (List Int)
 | 0 => [[]]
 | n + 1 => (J1 L5 n).flatMap fun l => L5.map fun v => l ++ [v]
def U7 (L5 : List Int) (log : List (Int × List Int)) (i : Int) (k : Nat) : List (Int × List Int) :=
 ((J1 L5 k).filter fun v => !b5P log (i, v)).map fun v => (i, v)
def P8 (L5 : List Int) (log : List (Int × List Int)) : List (Int × List Int × Int × Int × Int) → Int → List (Int × List Int)
 | [], _ => []
 | m :: l, i => (if m.2.2.1 ≠ 0 then [] else U7 L5 log i m.2.1.length) ++ P8 L5 log l (i + 1)
def W9 (s : List Int) (l : List (Int × List Int × Int × Int × Int)) (L5 : List Int) (log : List (Int × List Int)) : List (Int × List Int) :=
 if S5 s l && a2G L5 then P8 L5 log l 0 else []
theorem a3n {α : Type} {c : α → Nat} {n : Nat} : ∀ {l : List α}, (∀ x ∈ l, c x ≤ n) → x3 c l ≤ l.length * n
 | [], _ => by simp [x3]
 | x :: l, h => by
  have h1 := a3n (c := c) (n := n) (l := l) fun y hy => h y (by simp [hy])
  have h2 := h x (by simp)
  simp only [x3, List.map_cons, List.sum_cons, List.length_cons, Nat.succ_mul] at h1 ⊢; omega
end Go.Proofs.YtfnbilpemdgkkaaGreatDoor

namespace Go.Proofs.YtfnbilpemdgkkaaGreatDoor
set_option linter.unusedVariables false
def H4 {α : Type} (p : α → Bool) (f : α) : List α → List α
 | [] => []
 | x :: l => if p x then f :: x :: l else x :: H4 p f l
def R7 {α : Type} (has : Bool) (p : α → Bool) (f : α) (l : List α) : List α := if has then l else if l.any p then H4 p f l else l ++ [f]
section
variable {α : Type} {p q : α → Bool} {f : α}
theorem a4x : ∀ {l : List α}, l.any p = false → H4 p f l = l
 | [], _ => rfl
 | x :: l, h => by
  simp only [List.any_cons, Bool.or_eq_false_iff] at h
  simp [H4, h.1, a4x h.2]
theorem a5J : ∀ {l : List α} {y : α}, H4 p f (l ++ [y]) = if l.any p then H4 p f l ++ [y] else if p y then l ++ [f, y] else l ++ [y]
 | [], y => by simp [H4]
 | x :: l, y => by
  have h := a5J (l := l) (y := y)
  simp only [List.cons_append, H4, List.any_cons, h]
  cases p x <;> cases l.any p <;> cases p y <;> simp
theorem a3A : ∀ {l : List α}, (H4 p f l).length ≤ l.length + 1
 | [] => by simp [H4]
 | x :: l => by
  have := a3A (l := l)
  simp only [H4]; split <;> simp <;> omega
theorem a0K {h : Bool} {l : List α} : (R7 h p f l).length ≤ l.length + 1 := by
 have := a3A (p := p) (f := f) (l := l)
 unfold R7; split; omega; split; omega; simp
theorem P6 {h : Bool} {l : List α} {y : α} (hy : y ∈ R7 h p f l) : y ∈ l ∨ y = f := by
 have ins : ∀ {l : List α}, y ∈ H4 p f l → y ∈ l ∨ y = f := by
  intro l
  induction l with
  | nil => simp [H4]
  | cons x l ih =>
   intro h
   simp only [H4] at h
   split at h
   ·simp only [List.mem_cons] at h ⊢; rcases h with h | h | h <;> simp [h]
   ·simp only [List.mem_cons] at h ⊢
    rcases h with h | h
    ·simp [h]
    ·rcases ih h with h | h <;> simp [h]
 unfold R7 at hy
 split at hy
 ·exact .inl hy
 ·split at hy
  ·exact ins hy
  ·simpa using hy
theorem b0X {l : List α} (hpq : ∀ y ∈ l, p y = q y) : R7 false p f l = l.take (if H2 q l < 0 then l.length else (H2 q l).toNat) ++ f :: l.drop (if H2 q l < 0 then l.length else (H2 q l).toNat) := by
 have ha : l.any p = l.any q := by
  induction l with
  | nil => rfl
  | cons x l ih => simp [List.any_cons, hpq x (by simp), ih fun y hy => hpq y (by simp [hy])]
 unfold R7 H2
 rw [ha]
 by_cases h : l.any q = true
 ·simp only [h, if_true, Bool.false_eq_true, if_false]
  rw [if_neg (by omega), Int.toNat_natCast]
  clear ha
  induction l with
  | nil => simp at h
  | cons x l ih =>
   simp only [H4, List.findIdx_cons, hpq x (by simp)]
   cases hq : q x with
   | true => simp
   | false =>
    simp only [List.any_cons, hq, Bool.false_or] at h
    simp [ih (fun y hy => hpq y (by simp [hy])) h]
 ·simp [h]
end
def L6 (l : List Int) (x : Int) : Bool := l.any fun y => decide (y = x)
def a0D (l : List Int) (x : Int) : List Int := R7 (L6 l x) (fun y => decide (x < y)) x l
def a1I (l : List Int) : List Int := l.foldl a0D []
theorem a9e {l : List Int} {x : Int} (h : l.Pairwise (· < ·)) : (a0D l x).Pairwise (· < ·) ∧ ∀ y, y ∈ a0D l x ↔ y ∈ l ∨ y = x := by
 have ins : ∀ {l : List Int}, l.Pairwise (· < ·) → x ∉ l → (if (l.any fun y => decide (x < y)) then H4 (fun y => decide (x < y)) x l else l ++ [x]).Pairwise (· < ·) ∧ ∀ y, y ∈ (if (l.any fun y => decide (x < y)) then H4 (fun y => decide (x < y)) x l else l ++ [x]) ↔ y ∈ l ∨ y = x := by
  intro l
  induction l with
  | nil => intro _ _; simp
  | cons z l ih =>
   intro h hx
   rw [List.pairwise_cons] at h
   simp only [List.mem_cons, not_or] at hx
   have ih' := ih h.2 hx.2
   by_cases hz : x < z
   ·simp only [List.any_cons, hz, decide_true, Bool.true_or, if_true, H4]
    refine ⟨?_, fun y => by simp only [List.mem_cons]; constructor <;> (intro h; rcases h with h | h | h) <;> simp [h]⟩
    rw [List.pairwise_cons, List.pairwise_cons]
    refine ⟨fun y hy => ?_, h⟩
    simp only [List.mem_cons] at hy
    rcases hy with rfl | hy
    ·exact hz
    ·have := h.1 y hy; omega
   ·simp only [List.any_cons, hz, decide_false, Bool.false_or, H4, Bool.false_eq_true, if_false]
    have e : (if (l.any fun y => decide (x < y)) then z :: H4 (fun y => decide (x < y)) x l else z :: l ++ [x]) = z :: (if (l.any fun y => decide (x < y)) then H4 (fun y => decide (x < y)) x l else l ++ [x]) := by split <;> simp
    rw [e]
    refine ⟨?_, fun y => by rw [List.mem_cons, ih'.2 y, List.mem_cons, or_assoc]⟩
    rw [List.pairwise_cons]
    refine ⟨fun y hy => ?_, ih'.1⟩
    rcases (ih'.2 y).1 hy with hy | rfl
    ·exact h.1 y hy
    ·omega
 unfold a0D R7 L6
 by_cases hx : x ∈ l
 ·have : (l.any fun y => decide (y = x)) = true := List.any_eq_true.2 ⟨x, hx, by simp⟩
  rw [if_pos this]
  exact ⟨h, fun y => ⟨.inl, fun e => by rcases e with e | rfl; exact e; exact hx⟩⟩
 ·have : ¬ (l.any fun y => decide (y = x)) = true := fun e => by
   obtain ⟨y, hy, e⟩ := List.any_eq_true.1 e
   simp at e; subst e; exact hx hy
  rw [if_neg this]
  exact ins h hx
theorem a0Z : ∀ {l s : List Int}, s.Pairwise (· < ·) → (l.foldl a0D s).Pairwise (· < ·) ∧ ∀ y, y ∈ l.foldl a0D s ↔ y ∈ s ∨ y ∈ l
 | [], s, h => ⟨h, by simp⟩
 | x :: l, s, h => by
  have h1 := a9e (x := x) h
  have h2 := a0Z (l := l) h1.1
  refine ⟨h2.1, fun y => ?_⟩
  rw [List.foldl_cons, h2.2 y, h1.2 y, List.mem_cons, or_assoc]
theorem a3m {l : List Int} {y : Int} : y ∈ a1I l ↔ y ∈ l := by rw [a1I, (a0Z .nil).2 y]; simp
theorem b0F {l : List Int} : (a1I l).length ≤ l.length := by
 have : ∀ {l s : List Int}, (l.foldl a0D s).length ≤ s.length + l.length := by
  intro l
  induction l with
  | nil => intro s; simp
  | cons x l ih => intro s; have := ih (s := a0D s x); have h2 := a0K (h := L6 s x) (p := fun y => decide (x < y)) (f := x) (l := s); simp only [List.foldl_cons, List.length_cons]; unfold a0D at *; omega
 have h := this (l := l) (s := [])
 simpa [a1I] using h
end Go.Proofs.YtfnbilpemdgkkaaGreatDoor

namespace Go.Proofs.YtfnbilpemdgkkaaGreatDoor
set_option linter.unusedVariables false
theorem a0M {l : List Int} {x : Int} : L6 l x = true ↔ x ∈ l := by
 unfold L6
 rw [List.any_eq_true]
 constructor
 ·rintro ⟨y, hy, e⟩; simp at e; subst e; exact hy
 ·intro h; exact ⟨x, h, by simp⟩
def y4 (is : Int → Bool) (v7 : List (Int × List Int)) : List Int := a1I ((v7.flatMap fun a => a.2).filter is)
def a3F (t : Int) : Bool := inR t 0 9 || inR t 10 17
def a3E (s : List Int) (a : Int × List Int) : Bool := D7 s a.1 && (decide ((a.2.length : Int) = at0 s a.1) && !a.2.any fun t => !a3F t)
def a3U (q : List Int × List (Int × List Int)) : Bool := decide ((q.1.length : Int) ≤ 3) && !q.1.any fun t => !L6 (y4 (fun t => inR t 10 17) q.2) t
def z7 (s : List Int) (q : List Int × List (Int × List Int)) : Bool := B8 s && (inR (q.2.length : Int) 1 4 && ((!q.2.any fun a => !a3E s a) && a3U q))
def b5E (s : List Int) (u : List (List Int × List (Int × List Int))) (q : List Int × List (Int × List Int)) : Bool := !z7 s q || decide ((q.1.length : Int) ≠ ((u.getD 0 ([], [])).1.length : Int))
def a4H (s : List Int) (u : List (List Int × List (Int × List Int))) : Bool := inR (u.length : Int) 1 3 && !u.any (b5E s u)
def b6y (s : List Int) (g : (List Int × List (Int × List Int)) × List (Int × List Int)) : Bool :=
 z7 s g.1 && (decide ((g.2.length : Int) ≤ 4) && ((!g.2.any fun a => !a3E s a) && !(y4 (fun t => inR t 10 17) g.2).any fun t => !L6 (y4 (fun t => inR t 10 17) g.1.2) t))
end Go.Proofs.YtfnbilpemdgkkaaGreatDoor

namespace Go.Proofs.YtfnbilpemdgkkaaGreatDoor
set_option linter.unusedVariables false
def ltF (a b : Int × List Int) : Bool := decide (C0 a b < 0)
def s7 (l : List (Int × List Int)) (f : Int × List Int) : List (Int × List Int) := R7 (w5 l f) (ltF f) f l
theorem a6N {a b : Int} : G7 a b = - G7 b a := by unfold G7; grind
theorem a6e : ∀ {l m : List Int}, C4 l m = - C4 m l
 | [], [] => by simp [C4]
 | [], _ :: _ => by simp [C4]
 | _ :: _, [] => by simp [C4]
 | a :: l, b :: m => by
  have h1 := a6N (a := a) (b := b)
  have h2 := a6e (l := l) (m := m)
  unfold C4; grind
theorem b0x {a b : Int × List Int} : C0 a b = - C0 b a := by
 have h1 := a6N (a := a.1) (b := b.1)
 have h2 := a6e (l := a.2) (m := b.2)
 unfold C0; grind
theorem W1 {l : List (Int × List Int)} {f : Int × List Int} (h : w5 l f = true) : s7 l f = l := by simp [s7, R7, h]
theorem a0w {l : List (Int × List Int)} {f : Int × List Int} (h : w5 l f = false) : s7 l f = l.take (if H2 (fun z => decide (0 < C0 z f)) l < 0 then l.length else (H2 (fun z => decide (0 < C0 z f)) l).toNat) ++ f :: l.drop (if H2 (fun z => decide (0 < C0 z f)) l < 0 then l.length else (H2 (fun z => decide (0 < C0 z f)) l).toNat) := by
 rw [s7, h]
 refine b0X fun y _ => ?_
 have := b0x (a := f) (b := y)
 rw [ltF, decide_eq_decide]; omega
theorem a2q {α : Type} {p : α → Bool} {s : List α} : H2 p s ≤ s.length ∧ -1 ≤ H2 p s := by
 unfold H2
 split
 ·have := List.findIdx_le_length (p := p) (xs := s); omega
 ·omega
def addS {α : Type} (h : Bool) (p : α → Bool) (f : α) (l : List α) : List α := if h then l else H4 p f l
theorem a6O {α : Type} {h : Bool} {p : α → Bool} {f : α} {l : List α} : (addS h p f l).length ≤ l.length + 1 := by
 have := a3A (p := p) (f := f) (l := l)
 unfold addS; split <;> omega
theorem C6 {α : Type} {h : Bool} {p : α → Bool} {f : α} : addS h p f [] = [] := by unfold addS; cases h <;> rfl
theorem B5 {α : Type} {h : Bool} {p : α → Bool} {f : α} {l : List α} {y : α} : addS h p f (l ++ [y]) = if (h || l.any p) = true then addS h p f l ++ [y] else if p y = true then addS h p f l ++ [f, y] else addS h p f l ++ [y] := by
 unfold addS
 cases h
 ·simp only [Bool.false_eq_true, if_false, Bool.false_or, a5J]
  cases ha : l.any p
  ·simp [a4x ha]
  ·simp
 ·simp
theorem B4 {α : Type} {h : Bool} {p : α → Bool} {f : α} {l : List α} : R7 h p f l = if (h || l.any p) = true then addS h p f l else addS h p f l ++ [f] := by
 unfold addS R7
 cases h
 ·cases ha : l.any p
  ·simp [a4x ha]
  ·simp
 ·simp
theorem B7 {α : Type} {p : α → Bool} {l : List α} {g : Nat} (h : g < l.length) : (l.take (g + 1)).any p = ((l.take g).any p || p l[g]) := by
 rw [List.take_succ_eq_append_getElem h, List.any_append]; simp
theorem E9 {f : Int × List Int} {a : Int} {b : List Int} : ltF f (a, b) = decide (C0 f (a, b) < 0) := rfl
def O9 (s : List Int) (l : List (Int × List Int)) (g : Nat) : Bool := (l.drop g).all (u6 s) && E0 ltF (l.drop (g - 1))
def r7 (s : List Int) (l : List (Int × List Int)) : Bool := O9 s l 0 && (B8 s && decide ((l.length : Int) ≤ 24))
def w6 (a6 : List (Int × List Int)) (f : Int × List Int) (out : List (Int × List Int)) (r : Int × Int × List Int) : List (Int × List Int) :=
 if f.1 = r.1 then (if w5 a6 (r.2.1, u9 r.2.2 f.2) then out else s7 out (r.2.1, u9 r.2.2 f.2)) else out
def v6 (l : List (Int × Int × List Int)) (a6 : List (Int × List Int)) (out : List (Int × List Int)) (f : Int × List Int) : List (Int × List Int) := l.foldl (w6 a6 f) out
def s6 (l : List (Int × Int × List Int)) (a6 : List (Int × List Int)) : List (Int × List Int) := a6.foldl (v6 l a6) []
theorem a2v {l : List (Int × Int × List Int)} {a6 : List (Int × List Int)} {f : Int × List Int} {out : List (Int × List Int)} {h : Nat} : ((l.take h).foldl (w6 a6 f) out).length ≤ out.length + (l.take h).length := by
 generalize l.take h = m
 induction m generalizing out with
 | nil => simp
 | cons r m ih =>
  have h1 := ih (out := w6 a6 f out r)
  have h2 : (w6 a6 f out r).length ≤ out.length + 1 := by
   unfold w6
   split
   ·split
    ·omega
    ·exact a0K
   ·omega
  simp only [List.foldl_cons, List.length_cons]; omega
theorem a3z {l : List (Int × Int × List Int)} {a6 fs : List (Int × List Int)} : (fs.foldl (v6 l a6) []).length ≤ fs.length * l.length := by
 have : ∀ {fs out : List (Int × List Int)}, (fs.foldl (v6 l a6) out).length ≤ out.length + fs.length * l.length := by
  intro fs
  induction fs with
  | nil => intro out; simp
  | cons f fs ih =>
   intro out
   have h1 := ih (out := v6 l a6 out f)
   have h2 := a2v (l := l) (a6 := a6) (f := f) (out := out) (h := l.length)
   rw [List.take_length] at h2
   unfold v6 at h1 ⊢
   simp only [List.foldl_cons, List.length_cons, Nat.succ_mul]; omega
 have h := this (fs := fs) (out := [])
 simpa using h
theorem a4O {m v : List Int} {n : Nat} (h : m.length ≤ n) : (u9 m v).length ≤ n := by rw [a6Q]; exact h
theorem a3q {a6 : List (Int × List Int)} {f : Int × List Int} {n : Nat} : ∀ {l : List (Int × Int × List Int)} {out : List (Int × List Int)}, (∀ r ∈ l, r.2.2.length ≤ n) → (∀ x ∈ out, x.2.length ≤ n) → ∀ x ∈ l.foldl (w6 a6 f) out, x.2.length ≤ n
 | [], out, _, h, x, hx => h x hx
 | r :: l, out, hr, h, x, hx => by
  refine a3q (l := l) (out := w6 a6 f out r) (fun r hr' => hr r (by simp [hr'])) (fun y hy => ?_) x hx
  unfold w6 at hy
  split at hy
  ·split at hy
   ·exact h y hy
   ·rcases P6 hy with hy | rfl
    ·exact h y hy
    ·exact a4O (hr r (by simp))
  ·exact h y hy
theorem a6f {l : List (Int × Int × List Int)} {a6 : List (Int × List Int)} {n : Nat} (hr : ∀ r ∈ l, r.2.2.length ≤ n) : ∀ {fs out : List (Int × List Int)}, (∀ x ∈ out, x.2.length ≤ n) → ∀ x ∈ fs.foldl (v6 l a6) out, x.2.length ≤ n
 | [], out, h, x, hx => h x hx
 | f :: fs, out, h, x, hx => a6f hr (fs := fs) (out := v6 l a6 out f) (a3q hr h) x hx
theorem a7B {l : List (Int × Int × List Int)} {a6 : List (Int × List Int)} {n g h : Nat} (hr : ∀ r ∈ l, r.2.2.length ≤ n) (hg : g < a6.length) : ∀ x ∈ (l.take h).foldl (w6 a6 a6[g]) ((a6.take g).foldl (v6 l a6) []), x.2.length ≤ n :=
 a3q (fun r h' => hr r (List.mem_of_mem_take h')) (a6f hr (by simp))
theorem b2H {b : Bool} {m v : List Int} {n : Nat} (h : m.length ≤ n) : (cond b (u9 m v) []).length ≤ n := by
 cases b
 ·exact Nat.zero_le _
 ·exact a4O h
end Go.Proofs.YtfnbilpemdgkkaaGreatDoor

namespace Go.Proofs.YtfnbilpemdgkkaaGreatDoor
set_option linter.unusedVariables false
set_option linter.unusedSimpArgs false
theorem F2 {s : List Int} {l : List (Int × Int × List Int)} (h : o4 s l = true) : B8 s = true ∧ l.length ≤ 4 ∧ ∀ r ∈ l, t7 s r = true := by
 simp only [o4, Bool.and_eq_true, decide_eq_true_eq, Bool.not_eq_true', List.any_eq_false, Bool.not_eq_true] at h
 exact ⟨h.1, by omega, fun r hr => by have := h.2.2 r hr; simpa using this⟩
theorem G9 {s : List Int} {l : List (Int × List Int)} (h : r7 s l = true) : l.length ≤ 24 ∧ ∀ f ∈ l, u6 s f = true := by
 simp only [r7, O9, List.drop_zero, Bool.and_eq_true, decide_eq_true_eq, List.all_eq_true] at h
 exact ⟨by omega, h.1.1⟩
theorem K6 {s : List Int} {f : Int × List Int} (h : u6 s f = true) : f.2.length ≤ 3 := by
 simp only [u6, Bool.and_eq_true, decide_eq_true_eq] at h
 have := J4 h.1
 simp only [at0] at h; omega
theorem a4g {v : List Int} (h : K5 v = true) : ∀ x ∈ v, 0 ≤ x ∧ x ≤ 9 := by
 simp only [K5, Bool.not_eq_true', List.any_eq_false, Bool.not_eq_true] at h
 intro x hx
 have := h x hx
 simp [inR] at this; omega
theorem a9z {v : List Int} (h : ∀ x ∈ v, 0 ≤ x ∧ x ≤ 9) : K5 v = true := by
 simp only [K5, Bool.not_eq_true', List.any_eq_false, Bool.not_eq_true]
 intro x hx
 have := h x hx
 simp [inR]; omega
theorem a4i {s : List Int} {r : Int × Int × List Int} {f : Int × List Int} (h1 : t7 s r = true) (h2 : u6 s f = true) (e : f.1 = r.1) : u6 s (r.2.1, u9 r.2.2 f.2) = true := by
 have h3 := S6 h1 h2 e
 simp only [t7, u6, Bool.and_eq_true, decide_eq_true_eq] at h1 h2 ⊢
 refine ⟨h1.2.1, by rw [a6Q]; exact h1.2.2.1, a9z fun x hx => ?_⟩
 simp only [u9, List.mem_map] at hx
 obtain ⟨i, hi, rfl⟩ := hx
 have h4 := h3 i hi
 rw [E1 (show i.toNat < f.2.length by omega)]
 exact a4g h2.2.2 _ (List.getElem_mem _)
theorem a5K {P : Int × List Int → Prop} {a6 : List (Int × List Int)} {f : Int × List Int} : ∀ {l : List (Int × Int × List Int)} {out : List (Int × List Int)}, (∀ r ∈ l, f.1 = r.1 → w5 a6 (r.2.1, u9 r.2.2 f.2) = false → P (r.2.1, u9 r.2.2 f.2)) → (∀ x ∈ out, P x) → ∀ x ∈ l.foldl (w6 a6 f) out, P x
 | [], out, _, h, x, hx => h x hx
 | r :: l, out, hr, h, x, hx => by
  refine a5K (l := l) (out := w6 a6 f out r) (fun r hr' => hr r (by simp [hr'])) (fun y hy => ?_) x hx
  unfold w6 at hy
  split at hy
  ·split at hy
   ·exact h y hy
   ·rename_i h1 h2
    rcases P6 hy with hy | rfl
    ·exact h y hy
    ·exact hr r (by simp) h1 (by simpa using h2)
  ·exact h y hy
theorem a6m {P : Int × List Int → Prop} {a6 : List (Int × List Int)} {l : List (Int × Int × List Int)} (H : ∀ r ∈ l, ∀ f ∈ a6, f.1 = r.1 → w5 a6 (r.2.1, u9 r.2.2 f.2) = false → P (r.2.1, u9 r.2.2 f.2)) : ∀ x ∈ s6 l a6, P x := by
 have : ∀ {fs out : List (Int × List Int)}, (∀ f ∈ fs, f ∈ a6) → (∀ x ∈ out, P x) → ∀ x ∈ fs.foldl (v6 l a6) out, P x := by
  intro fs
  induction fs with
  | nil => intro out _ h; exact h
  | cons f fs ih =>
   intro out hs h
   exact ih (fun g hg => hs g (by simp [hg])) (a5K (fun r hr => H r hr f (hs f (by simp))) h)
 exact this (fun f h => h) (by simp)
theorem a2L {s : List Int} {l : List (Int × Int × List Int)} {a6 : List (Int × List Int)} (h1 : o4 s l = true) (h2 : ∀ f ∈ a6, u6 s f = true) : ∀ x ∈ s6 l a6, u6 s x = true ∧ w5 a6 x = false :=
 a6m fun r hr f hf e h => ⟨a4i ((F2 h1).2.2 r hr) (h2 f hf) e, h⟩
theorem a7E {s : List Int} {l : List (Int × Int × List Int)} {a6 : List (Int × List Int)} (h1 : o4 s l = true) (h2 : ∀ f ∈ a6, u6 s f = true) : (∀ r ∈ l, ∀ f ∈ a6, f.1 = r.1 → ∀ x ∈ r.2.2, 0 ≤ x ∧ x < f.2.length) ∧ (∀ r ∈ l, r.2.2.length ≤ 1048576) ∧ l.length ≤ 4 :=
 have h := F2 h1
 ⟨fun r hr f hf e => S6 (h.2.2 r hr) (h2 f hf) e, fun r hr => Nat.le_trans (W8 (h.2.2 r hr)) (by decide), h.2.1⟩
theorem K3 {s : List Int} {l : List (Int × Int × List Int)} {a6 : List (Int × List Int)} (h : (o4 s l && r7 s a6) = true) : (∀ r ∈ l, ∀ f ∈ a6, f.1 = r.1 → ∀ x ∈ r.2.2, 0 ≤ x ∧ x < f.2.length) ∧ (∀ r ∈ l, r.2.2.length ≤ 1048576) ∧ l.length ≤ 4 ∧ a6.length ≤ 1048576 := by
 rw [Bool.and_eq_true] at h
 have h2 := G9 h.2
 have h3 := a7E h.1 h2.2
 exact ⟨h3.1, h3.2.1, h3.2.2, by omega⟩
theorem a7h {s : List Int} {l : List (Int × Int × List Int)} {a6 : List (Int × List Int)} (h : (o4 s l && r7 s a6) = true) : ∃ s, o4 s l = true ∧ r7 s a6 = true := by
 rw [Bool.and_eq_true] at h
 exact ⟨s, h⟩
def C1 (s : List Int) (l : List (Int × Int × List Int)) (a6 : List (Int × List Int)) : List (Int × List Int) := if o4 s l && r7 s a6 then s6 l a6 else []
theorem a9M {l : List (Int × Int × List Int)} {a6 : List (Int × List Int)} (h : l.length ≤ 4) : (s6 l a6).length ≤ a6.length * 4 :=
 Nat.le_trans a3z (Nat.mul_le_mul_left _ h)
theorem a9N {l : List (Int × Int × List Int)} {a6 : List (Int × List Int)} (h : ∃ s, o4 s l = true ∧ r7 s a6 = true) : a6.length ≤ 24 := by
 obtain ⟨s, h1, h2⟩ := h
 exact (G9 h2).1
theorem b2c {l : List (Int × Int × List Int)} {a6 : List (Int × List Int)} (h : ∃ s, o4 s l = true ∧ r7 s a6 = true) : ∀ f ∈ a6, f.2.length ≤ 1048576 := by
 obtain ⟨s, h1, h2⟩ := h
 exact fun f hf => Nat.le_trans (K6 ((G9 h2).2 f hf)) (by decide)
def l0 (l : List (Int × Int × List Int)) (a6 : List (Int × List Int)) : Nat → List (Int × List Int)
 | 0 => a6
 | n + 1 => (s6 l (l0 l a6 n)).foldl s7 (l0 l a6 n)
def I4 (l : List (Int × Int × List Int)) (a6 : List (Int × List Int)) : List (Int × List Int) := l0 l a6 6001
theorem a3J {l : List (Int × Int × List Int)} {a6 : List (Int × List Int)} {n : Nat} (h : s6 l (l0 l a6 n) = []) : ∀ k, l0 l a6 (n + k) = l0 l a6 n
 | 0 => rfl
 | k + 1 => by
  show (s6 l (l0 l a6 (n + k))).foldl s7 (l0 l a6 (n + k)) = _
  rw [a3J h k, h]; rfl
theorem a1T {l : List (Int × Int × List Int)} {a6 : List (Int × List Int)} {n : Nat} (hn : n ≤ 6001) (h : s6 l (l0 l a6 n) = []) : l0 l a6 n = I4 l a6 := by
 have := a3J h (6001 - n)
 rw [show n + (6001 - n) = 6001 by omega] at this
 exact this.symm
theorem a3i : ∀ {n : Nat} {l : List Nat}, l.Nodup → (∀ x ∈ l, x < n) → l.length ≤ n
 | 0, l, _, h => by
  cases l with
  | nil => simp
  | cons x l => exact absurd (h x (by simp)) (by omega)
 | n + 1, l, hd, h => by
  by_cases hm : n ∈ l
  ·have h1 := a3i (n := n) (l := l.erase n) (hd.erase n) fun x hx => by
    have h2 := (hd.mem_erase_iff).1 hx
    have := h x h2.2; omega
   rw [List.length_erase_of_mem hm] at h1; omega
  ·have h1 := a3i (n := n) (l := l) hd fun x hx => by
    have h2 := h x hx
    have : x ≠ n := fun e => hm (e ▸ hx)
    omega
   omega
def X2 : List Int → Nat
 | [] => 0
 | v :: l => (v.toNat + 1) + 11 * X2 l
theorem a5f : ∀ {a b : List Int}, (∀ x ∈ a, 0 ≤ x ∧ x ≤ 9) → (∀ x ∈ b, 0 ≤ x ∧ x ≤ 9) → X2 a = X2 b → a = b
 | [], [], _, _, _ => rfl
 | [], y :: b, _, _, h => by simp [X2] at h; omega
 | x :: a, [], _, _, h => by simp [X2] at h
 | x :: a, y :: b, ha, hb, h => by
  have h1 := ha x (by simp)
  have h2 := hb y (by simp)
  simp only [X2] at h
  rw [a5f (a := a) (b := b) (fun z hz => ha z (by simp [hz])) (fun z hz => hb z (by simp [hz])) (by omega), show x = y by omega]
theorem a6V : ∀ {n : Nat} {a : List Int}, (∀ x ∈ a, 0 ≤ x ∧ x ≤ 9) → a.length ≤ n → X2 a < 11 ^ n
 | n, [], _, _ => by simp [X2]; exact Nat.pow_pos (by decide)
 | 0, x :: a, _, h => by simp at h
 | n + 1, x :: a, ha, h => by
  have h1 := a6V (n := n) (a := a) (fun z hz => ha z (by simp [hz])) (by simpa using h)
  have h2 := ha x (by simp)
  simp only [X2, Nat.pow_succ]; omega
def a8T (f : Int × List Int) : Nat := f.1.toNat + 4 * X2 f.2
theorem a0h {s : List Int} {f : Int × List Int} (h : u6 s f = true) : 0 ≤ f.1 ∧ f.1 < 4 := by
 simp only [u6, Bool.and_eq_true, decide_eq_true_eq] at h
 have h1 := J4 h.1
 have h2 := h.1
 simp only [D7, B8, inR, Bool.and_eq_true, decide_eq_true_eq] at h2
 omega
theorem a1g {s : List Int} {f : Int × List Int} (h : u6 s f = true) : ∀ x ∈ f.2, 0 ≤ x ∧ x ≤ 9 := by
 simp only [u6, Bool.and_eq_true] at h
 exact a4g h.2.2
theorem a0T {s : List Int} {D : List (Int × List Int)} (hd : D.Nodup) (h : ∀ f ∈ D, u6 s f = true) : D.length ≤ 5324 := by
 have h1 : (D.map a8T).Nodup := by
  unfold List.Nodup at hd ⊢
  rw [List.pairwise_map]
  refine List.Pairwise.imp_of_mem (fun {a b} ha hb hab e => hab ?_) hd
  have ra := a0h (h a ha)
  have rb := a0h (h b hb)
  simp only [a8T] at e
  have e2 := a5f (a1g (h a ha)) (a1g (h b hb)) (by omega)
  exact Prod.ext (by omega) e2
 have h2 := a3i (n := 5324) h1 fun x hx => by
  obtain ⟨f, hf, rfl⟩ := List.mem_map.1 hx
  have r := a0h (h f hf)
  have c := a6V (n := 3) (a1g (h f hf)) (K6 (h f hf))
  unfold a8T; omega
 simpa using h2
theorem a6b {α : Type} {p : α → Bool} {f y : α} : ∀ {l : List α}, y ∈ l → y ∈ H4 p f l
 | x :: l, h => by
  simp only [H4]
  simp only [List.mem_cons] at h
  split
  ·simp [h]
  ·rcases h with h | h
   ·simp [h]
   ·simp [a6b h]
theorem a5w {α : Type} {p : α → Bool} {f : α} : ∀ {l : List α}, l.any p = true → f ∈ H4 p f l
 | x :: l, h => by
  simp only [H4]
  split
  ·simp
  ·rename_i h1
   simp only [List.any_cons, h1, Bool.false_or] at h
   simp [a5w h]
theorem W3 {l : List (Int × List Int)} {f y : Int × List Int} (h : y ∈ l) : y ∈ s7 l f := by
 unfold s7 R7
 split
 ·exact h
 ·split
  ·exact a6b h
  ·simp [h]
theorem I2 {l : List (Int × List Int)} {f : Int × List Int} : w5 l f = true ↔ f ∈ l := by
 unfold w5
 rw [List.any_eq_true]
 constructor
 ·rintro ⟨x, hx, e⟩
  rw [decide_eq_true_eq, M7] at e
  exact e ▸ hx
 ·intro h
  exact ⟨f, h, by rw [decide_eq_true_eq, M7]⟩
theorem a1c {l : List (Int × List Int)} {f : Int × List Int} (h : w5 l f = false) : f ∈ s7 l f := by
 unfold s7 R7
 rw [h]
 simp only [Bool.false_eq_true, if_false]
 split
 ·rename_i h1; exact a5w h1
 ·simp
def a1R (s : List Int) (x D : List (Int × List Int)) : Prop := D.Nodup ∧ (∀ f ∈ D, f ∈ x) ∧ x.length ≤ 24 + D.length ∧ ∀ f ∈ x, u6 s f = true
theorem a6j {s : List Int} {x D : List (Int × List Int)} {f : Int × List Int} (h : a1R s x D) (hf : u6 s f = true) : ∃ D', a1R s (s7 x f) D' ∧ D.length + (if w5 x f then 0 else 1) ≤ D'.length := by
 obtain ⟨h1, h2, h3, h4⟩ := h
 cases hx : w5 x f with
 | true => exact ⟨D, by rw [W1 hx]; exact ⟨h1, h2, h3, h4⟩, by simp⟩
 | false =>
  refine ⟨f :: D, ⟨?_, ?_, ?_, ?_⟩, by simp⟩
  ·rw [List.nodup_cons]
   exact ⟨fun hm => (by rw [I2.2 (h2 f hm)] at hx; cases hx), h1⟩
  ·intro y hy
   simp only [List.mem_cons] at hy
   rcases hy with rfl | hy
   ·exact a1c hx
   ·exact W3 (h2 y hy)
  ·have := a0K (h := w5 x f) (p := ltF f) (f := f) (l := x)
   simp only [s7, List.length_cons]; omega
  ·intro y hy
   rcases P6 hy with hy | rfl
   ·exact h4 y hy
   ·exact hf
theorem a2r {s : List Int} : ∀ {m x D : List (Int × List Int)}, a1R s x D → (∀ f ∈ m, u6 s f = true) → ∃ D', a1R s (m.foldl s7 x) D' ∧ D.length ≤ D'.length
 | [], x, D, h, _ => ⟨D, h, Nat.le_refl _⟩
 | f :: m, x, D, h, hm => by
  obtain ⟨D1, g1, l1⟩ := a6j h (hm f (by simp))
  obtain ⟨D2, g2, l2⟩ := a2r (m := m) g1 (fun y hy => hm y (by simp [hy]))
  exact ⟨D2, g2, by omega⟩
theorem a8K {s : List Int} {m x D : List (Int × List Int)} (h : a1R s x D) (hm : ∀ f ∈ m, u6 s f = true ∧ w5 x f = false) (h0 : m ≠ []) : ∃ D', a1R s (m.foldl s7 x) D' ∧ D.length + 1 ≤ D'.length := by
 cases m with
 | nil => exact absurd rfl h0
 | cons f m =>
  obtain ⟨D1, g1, l1⟩ := a6j h (hm f (by simp)).1
  obtain ⟨D2, g2, l2⟩ := a2r (m := m) g1 (fun y hy => (hm y (by simp [hy])).1)
  rw [(hm f (by simp)).2] at l1
  refine ⟨D2, g2, ?_⟩
  simp only [Bool.false_eq_true, if_false] at l1
  omega
def a1O (l : List (Int × Int × List Int)) (a6 : List (Int × List Int)) (n : Nat) : Prop := ∃ s, o4 s l = true ∧ ∃ D, a1R s (l0 l a6 n) D ∧ n ≤ D.length
theorem a5B {s : List Int} {a6 : List (Int × List Int)} (h2 : r7 s a6 = true) : a1R s a6 [] := by
 have h := G9 h2
 exact ⟨by simp, by simp, by simpa using h.1, h.2⟩
theorem a5x {l : List (Int × Int × List Int)} {a6 : List (Int × List Int)} (h : ∃ s, o4 s l = true ∧ r7 s a6 = true) : a1O l a6 0 := by
 obtain ⟨s, h1, h2⟩ := h
 exact ⟨s, h1, [], a5B h2, by simp⟩
theorem a5s {l : List (Int × Int × List Int)} {a6 : List (Int × List Int)} {n : Nat} (h : a1O l a6 n) (h0 : s6 l (l0 l a6 n) ≠ []) : a1O l a6 (n + 1) := by
 obtain ⟨s, h1, D, g, hn⟩ := h
 obtain ⟨D', g', l'⟩ := a8K g (a2L h1 g.2.2.2) h0
 exact ⟨s, h1, D', g', by omega⟩
theorem a2N {l : List (Int × Int × List Int)} {a6 : List (Int × List Int)} {n : Nat} (h : a1O l a6 n) : n ≤ 6000 ∧ (l0 l a6 n).length ≤ 6024 ∧ (s6 l (l0 l a6 n)).length ≤ 24096 ∧ l.length ≤ 4 := by
 obtain ⟨s, h1, D, g, hn⟩ := h
 have h2 := a0T g.1 (fun f hf => g.2.2.2 f (g.2.1 f hf))
 have h3 := g.2.2.1
 have h4 := (F2 h1).2.1
 have h5 := a9M (a6 := l0 l a6 n) h4
 omega
theorem X7 {l : List (Int × Int × List Int)} {a6 : List (Int × List Int)} {n : Nat} (h : a1O l a6 n) : (∀ r ∈ l, ∀ f ∈ l0 l a6 n, f.1 = r.1 → ∀ x ∈ r.2.2, 0 ≤ x ∧ x < f.2.length) ∧ (∀ r ∈ l, r.2.2.length ≤ 1048576) ∧ (∀ f ∈ s6 l (l0 l a6 n), f.2.length ≤ 1048576) ∧ ∀ f ∈ l0 l a6 n, f.2.length ≤ 1048576 := by
 obtain ⟨s, h1, D, g, hn⟩ := h
 have h2 := a7E h1 g.2.2.2
 exact ⟨h2.1, h2.2.1, fun f hf => Nat.le_trans (K6 (a2L h1 g.2.2.2 f hf).1) (by decide), fun f hf => Nat.le_trans (K6 (g.2.2.2 f hf)) (by decide)⟩
theorem a3p {m x : List (Int × List Int)} : (m.foldl s7 x).length ≤ x.length + m.length := by
 induction m generalizing x with
 | nil => simp
 | cons f m ih =>
  have h1 := ih (x := s7 x f)
  have h2 := a0K (h := w5 x f) (p := ltF f) (f := f) (l := x)
  simp only [List.foldl_cons, List.length_cons]
  unfold s7 at h1 ⊢; omega
theorem a8c {n : Nat} : ∀ {m x : List (Int × List Int)}, (∀ f ∈ m, f.2.length ≤ n) → (∀ f ∈ x, f.2.length ≤ n) → ∀ f ∈ m.foldl s7 x, f.2.length ≤ n
 | [], x, _, h => h
 | y :: m, x, hm, h => by
  refine a8c (m := m) (x := s7 x y) (fun f hf => hm f (by simp [hf])) fun f hf => ?_
  rcases P6 hf with hf | rfl
  ·exact h f hf
  ·exact hm _ (by simp)
theorem b0Z {n g : Nat} {m x : List (Int × List Int)} (hm : ∀ f ∈ m, f.2.length ≤ n) (hx : ∀ f ∈ x, f.2.length ≤ n) : ∀ f ∈ (m.take g).foldl s7 x, f.2.length ≤ n :=
 a8c (fun f hf => hm f (List.mem_of_mem_take hf)) hx
theorem b3f {s : List Int} {l : List (Int × Int × List Int)} {a6 : List (Int × List Int)} (h1 : o4 s l = true) (h2 : r7 s a6 = true) : ∀ n, ∃ D, a1R s (l0 l a6 n) D
 | 0 => ⟨[], a5B h2⟩
 | n + 1 => by
  obtain ⟨D, g⟩ := b3f h1 h2 n
  obtain ⟨D', g', _⟩ := a2r g (fun f hf => (a2L h1 g.2.2.2 f hf).1)
  exact ⟨D', g'⟩
theorem a5c {s : List Int} {l : List (Int × Int × List Int)} {a6 : List (Int × List Int)} (h1 : o4 s l = true) (h2 : r7 s a6 = true) : (I4 l a6).length ≤ 6024 ∧ ∀ f ∈ I4 l a6, u6 s f = true := by
 obtain ⟨D, g⟩ := b3f h1 h2 6001
 have h3 := a0T g.1 (fun f hf => g.2.2.2 f (g.2.1 f hf))
 exact ⟨by have := g.2.2.1; unfold I4; omega, g.2.2.2⟩
def r9 (s : List Int) (l : List (Int × Int × List Int)) (a6 : List (Int × List Int)) : List (Int × List Int) := if o4 s l && r7 s a6 then I4 l a6 else []
end Go.Proofs.YtfnbilpemdgkkaaGreatDoor

namespace Go.Proofs.YtfnbilpemdgkkaaGreatDoor
set_option linter.unusedVariables false
set_option linter.unusedSimpArgs false
def unb (b : List Int × List Int) (t : Int) : Bool := !(b.1.take (min b.1.length b.2.length)).any fun x => decide (x = t)
def J2 (x : List Int × List Int) (t v : Int) : List Int × List Int := if inR t 10 17 && unb x t then (x.1 ++ [t], x.2 ++ [v]) else x
def Q5 (b : List Int × List Int) (l : List (Int × Int)) : List Int × List Int := l.foldl (fun x p => J2 x p.1 p.2) b
def okV (b : List Int × List Int) : List (Int × Int) → Bool
 | [] => true
 | p :: l => decide (C9 (J2 b p.1 p.2) p.1 = p.2) && okV (J2 b p.1 p.2) l
def a2l (b : List Int × List Int) (a f : Int × List Int) : Bool := decide (a.1 = f.1) && (decide (a.2.length = f.2.length) && (decide (b.1.length = b.2.length) && okV b (a.2.zip f.2)))
def R4 (b : List Int × List Int) (a f : Int × List Int) : List Int × List Int := Q5 b (a.2.zip f.2)
theorem b1c {x : List Int × List Int} {t v : Int} : (J2 x t v).1.length ≤ x.1.length + 1 ∧ (J2 x t v).2.length ≤ x.2.length + 1 := by
 unfold J2; split <;> simp
theorem a1r {x : List Int × List Int} {t v : Int} (h : x.1.length = x.2.length) : (J2 x t v).1.length = (J2 x t v).2.length := by
 unfold J2; split <;> simp [h]
theorem a5F : ∀ {l : List (Int × Int)} {x : List Int × List Int}, (Q5 x l).1.length ≤ x.1.length + l.length ∧ (Q5 x l).2.length ≤ x.2.length + l.length
 | [], x => by simp [Q5]
 | p :: l, x => by
  have h1 := a5F (l := l) (x := J2 x p.1 p.2)
  have h2 := b1c (x := x) (t := p.1) (v := p.2)
  simp only [Q5, List.foldl_cons, List.length_cons] at h1 ⊢; omega
theorem a6g : ∀ {l : List (Int × Int)} {x : List Int × List Int}, x.1.length = x.2.length → (Q5 x l).1.length = (Q5 x l).2.length
 | [], x, h => h
 | p :: l, x, h => by
  have := a6g (l := l) (a1r (t := p.1) (v := p.2) h)
  simpa only [Q5, List.foldl_cons] using this
theorem b2q {x : List Int × List Int} {t v : Int} (h : x.1.length = x.2.length) (h1 : inR t 10 17 = true) (h2 : unb x t = true) : C9 (x.1 ++ [t], x.2 ++ [v]) t = v := by
 have e := a1W (b := (x.1 ++ [t], x.2 ++ [v])) (t := t) (g := x.1.length) h1 (by simp) (by simp [h]) (by simp) (by
  intro y hy
  simp only [unb, h, Nat.min_self, Bool.not_eq_true', List.any_eq_false] at h2
  rw [List.take_append_of_le_length (Nat.le_refl _), List.take_length] at hy
  have := h2 y (by rw [← h, List.take_length]; exact hy)
  simpa using this)
 rw [← e]
 simp [h]
theorem a6S {x : List Int × List Int} {t v : Int} (h : (inR t 10 17 && unb x t) = false) : J2 x t v = x := by unfold J2; rw [h]; simp
theorem a4z {x : List Int × List Int} {t v : Int} (h : (inR t 10 17 && unb x t) = true) : J2 x t v = (x.1 ++ [t], x.2 ++ [v]) := by unfold J2; rw [h]; simp
def a7j (b : List Int × List Int) (a : Int × List Int) (a6 : List (Int × List Int)) : List (List Int × List Int) := (a6.filter (a2l b a)).map (R4 b a)
def a0F (l : List (List Int × List Int)) (a : Int × List Int) (a6 : List (Int × List Int)) : List (List Int × List Int) := l.flatMap fun b => a7j b a a6
theorem b1e {b : List Int × List Int} {a : Int × List Int} {a6 : List (Int × List Int)} : (a7j b a a6).length ≤ a6.length := by
 unfold a7j; rw [List.length_map]; exact List.length_filter_le _ _
theorem a6s {a : Int × List Int} {a6 : List (Int × List Int)} : ∀ {l : List (List Int × List Int)}, (a0F l a a6).length ≤ l.length * a6.length
 | [] => by simp [a0F]
 | b :: l => by
  have h1 := a6s (a := a) (a6 := a6) (l := l)
  have h2 := b1e (b := b) (a := a) (a6 := a6)
  simp only [a0F, List.flatMap_cons, List.length_append, List.length_cons, Nat.succ_mul] at h1 ⊢; omega
theorem b1y {n k : Nat} {a : Int × List Int} {a6 : List (Int × List Int)} {l : List (List Int × List Int)} (ha : a.2.length ≤ k) (h : ∀ b ∈ l, b.1.length ≤ n ∧ b.2.length ≤ n) : ∀ b ∈ a0F l a a6, b.1.length ≤ n + k ∧ b.2.length ≤ n + k := by
 intro b hb
 simp only [a0F, a7j, List.mem_flatMap, List.mem_map] at hb
 obtain ⟨x, hx, f, _, rfl⟩ := hb
 have h1 := h x hx
 have h2 := a5F (l := a.2.zip f.2) (x := x)
 have h3 : (a.2.zip f.2).length ≤ a.2.length := by simp; omega
 unfold R4; omega
def H3 (v7 : List (Int × List Int)) (a6 : List (Int × List Int)) : List (List Int × List Int) := v7.foldl (fun l a => a0F l a a6) [([], [])]
theorem a9d {a6 : List (Int × List Int)} : H3 [] a6 = [([], [])] := rfl
theorem a8N {v7 a6 : List (Int × List Int)} {a : Int × List Int} : H3 (v7 ++ [a]) a6 = a0F (H3 v7 a6) a a6 := by
 simp [H3]
theorem a5y {a6 : List (Int × List Int)} (hf : a6.length ≤ 24) : ∀ {n : Nat} {v7 : List (Int × List Int)}, v7.length = n → (∀ a ∈ v7, a.2.length ≤ 3) → (H3 v7 a6).length ≤ 24 ^ n ∧ ∀ b ∈ H3 v7 a6, b.1.length ≤ 3 * n ∧ b.2.length ≤ 3 * n
 | 0, v7, hn, _ => by
  obtain rfl := List.length_eq_zero_iff.1 hn
  simp [a9d]
 | n + 1, v7, hn, h => by
  have h0 : v7 ≠ [] := by intro e; subst e; simp at hn
  rw [← List.dropLast_concat_getLast h0] at hn h ⊢
  rw [List.length_append] at hn
  have ih := a5y hf (n := n) (v7 := v7.dropLast) (by simpa using hn) (fun a ha => h a (by simp [ha]))
  rw [a8N]
  have h1 := a6s (a := v7.getLast h0) (a6 := a6) (l := H3 v7.dropLast a6)
  have h2 := Nat.mul_le_mul ih.1 hf
  have h3 := b1y (a6 := a6) (h (v7.getLast h0) (by simp)) ih.2
  exact ⟨by rw [Nat.pow_succ]; omega, fun b hb => by have := h3 b hb; omega⟩
theorem b0U {a6 v7 : List (Int × List Int)} (hf : a6.length ≤ 24) (hn : v7.length ≤ 4) (h : ∀ a ∈ v7, a.2.length ≤ 3) : (H3 v7 a6).length ≤ 331776 ∧ ∀ b ∈ H3 v7 a6, b.1.length ≤ 12 ∧ b.2.length ≤ 12 := by
 have h1 := a5y hf rfl h
 have h2 : 24 ^ v7.length ≤ 24 ^ 4 := Nat.pow_le_pow_right (by decide) hn
 exact ⟨by omega, fun b hb => by have := h1.2 b hb; omega⟩
def b5R (l : List (List Int)) (t : List Int) : Bool := l.any fun x => decide (x = t)
def ltT (a b : List Int) : Bool := decide (C4 a b < 0)
def b3h (l : List (List Int)) (t : List Int) : List (List Int) := R7 (b5R l t) (ltT t) t l
def b5J (h : List Int) (l : List (List Int × List Int)) : List (List Int) := l.foldl (fun out b => b3h out (h.map (C9 b))) []
def b5S (s : List Int) (q : List Int × List (Int × List Int)) (a6 : List (Int × List Int)) : List (List Int) := if z7 s q && r7 s a6 then b5J q.1 (H3 q.2 a6) else []
end Go.Proofs.YtfnbilpemdgkkaaGreatDoor

namespace Go.Proofs.YtfnbilpemdgkkaaGreatDoor
set_option linter.unusedVariables false
set_option linter.unusedSimpArgs false
def nxt (u : List Int) : Nat → Nat → Nat
 | 0, v => v
 | n + 1, v => if L6 u (v : Int) then nxt u n (v + 1) else v
def K9 (u : List Int) (v : Nat) : Nat := nxt u 11 v
theorem b2s {u : List Int} (hu : ∀ x ∈ u, 0 ≤ x ∧ x ≤ 9) {v : Nat} (h : L6 u (v : Int) = true) : v ≤ 9 := by
 have := (hu _ (a0M.1 h)).2; omega
def fzN (u : List Int) : Nat → Nat
 | 0 => 0
 | g + 1 => K9 u (fzN u g) + 1
def a5Z (u : List Int) (n : Nat) : Bool := (List.range n).all fun i => decide (K9 u (fzN u i) ≤ 9)
def a2j (u : List Int) (n : Nat) : List Int := (List.range n).map fun i => (K9 u (fzN u i) : Int)
theorem b1f {u : List Int} {n : Nat} : (a2j u n).length = n := by simp [a2j]
theorem a9K {u : List Int} {n : Nat} (h : ∀ i, i < n → K9 u (fzN u i) ≤ 9) : a5Z u n = true := by
 rw [a5Z, List.all_eq_true]
 intro i hi
 rw [decide_eq_true_eq]
 exact h i (List.mem_range.1 hi)
def D9 (v7 : List (Int × List Int)) : List Int := y4 (fun t => inR t 10 17) v7
def b1J (v7 : List (Int × List Int)) : List Int := y4 (fun t => inR t 0 9) v7
def a4s (v7 : List (Int × List Int)) (b : List Int × List Int) : List (Int × List Int) := v7.foldl (fun out a => s7 out (N6 a b)) []
def fzB (u : List Int) (v7 : List (Int × List Int)) : Bool := a5Z u (D9 v7).length
def fzV (u : List Int) (v7 : List (Int × List Int)) : List Int := cond (fzB u v7) (D9 v7) []
def fzX (u : List Int) (v7 : List (Int × List Int)) : List Int := cond (fzB u v7) (a2j u (D9 v7).length) []
def fzF (u : List Int) (v7 : List (Int × List Int)) : List (Int × List Int) := cond (fzB u v7) (a4s v7 (D9 v7, a2j u (D9 v7).length)) []
theorem b2N {v7 : List (Int × List Int)} : ∀ x ∈ b1J v7, 0 ≤ x ∧ x ≤ 9 := by
 intro x hx
 unfold b1J y4 at hx
 rw [a3m, List.mem_filter] at hx
 have := hx.2
 simpa [inR] using this
theorem b2x {v7 : List (Int × List Int)} : ∀ x ∈ D9 v7, 10 ≤ x ∧ x ≤ 17 := by
 intro x hx
 unfold D9 y4 at hx
 rw [a3m, List.mem_filter] at hx
 have := hx.2
 simpa [inR] using this
end Go.Proofs.YtfnbilpemdgkkaaGreatDoor
