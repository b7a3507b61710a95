import Derived.Test.YtbedienpleiamaaGreatBc
import Derived.Lib.SlicesCompact
namespace Go.Proofs.YtbedienpleiamaaGreat
open Go.RowKit
set_option linter.unusedVariables false
def FnP2 {α : Type} (P : Program) (w : World) (L : List Nat) (g : FuncId) (caps : List Value) (E : Enc α) (val : List Value → Value) (p : α → α → Bool) : Prop :=
 a3l P g ∧ ∀ w', Keep w L w' → ∀ cs x ds y, Ro w' [] E cs x → Ro w' [] E ds y → Calls P g (val cs :: val ds :: caps).toArray w' fun e w'' => e = .returned (.bool (p x y)) ∧ Ext w' w''
section
variable {P : Program} {α : Type} {E : Enc α} {w w0 : World} {L L0 Lp : List Nat} {pre rest : List HP} {g : FuncId} {caps : List Value} {val : List Value → Value} {p : α → α → Bool}
end
section
variable {P : Program} {Q : Exit → Act → World → Prop} {n : Nat} {w0 : World} {L0 : List Nat} {fr : Fr} {H : List HP} {d : Nat} {ty : TypeId} {pos : String} {af : Array Edge} {g : Option (Nat × Bool)}
end
section
variable {P : Program} {w : World} {L : List Nat} {g : FuncId} {caps : List Value} {RR : World → List Nat → Prop}
theorem b1z {p : (Int × List Int) → (Int × List Int) → Bool} (tr : ∀ {x0 : Int} {ax1 : Option Addr} {mx1 cx1 : Nat} {x1 : List Int} {y0 : Int} {ay1 : Option Addr} {my1 cy1 : Nat} {y1 : List Int}, Tr P g (.agg #[.int .i64 x0, .slice ax1 mx1 cx1] :: .agg #[.int .i64 y0, .slice ay1 my1 cy1] :: caps) (fun w L => (I64 x0 ∧ Ro w L eIs [.slice ax1 mx1 cx1] x1 ∧ I64 y0 ∧ Ro w L eIs [.slice ay1 my1 cy1] y1) ∧ RR w L) [] (κ := Unit) (fun _ => True) (fun _ => .bool (p (x0, x1) (y0, y1))) (fun _ => [])) (hR : ∀ w', Keep w L w' → RR w' []) : FnP2 P w L g caps G0 a2X p :=
 ⟨(tr (x0 := 0) (x1 := []) (ax1 := none) (mx1 := 0) (cx1 := 0) (y0 := 0) (y1 := []) (ay1 := none) (my1 := 0) (cy1 := 0)).1, fun w' k cs x ds y hx hy => by obtain ⟨a0, c0, rfl, h0, h1⟩ := M4 hx; obtain ⟨b0, e0, rfl, k0, k1⟩ := M4 hy; exact Tr.bool tr ⟨⟨h0, h1, k0, k1⟩, hR w' k⟩⟩
theorem b1A {p : (Int × List Int) → (Int × List Int) → Bool} (tr : ∀ {x0 : Int} {ax1 : Option Addr} {mx1 cx1 : Nat} {x1 : List Int} {y0 : Int} {ay1 : Option Addr} {my1 cy1 : Nat} {y1 : List Int}, Tr P g (.agg #[.int .i64 x0, .slice ax1 mx1 cx1] :: .agg #[.int .i64 y0, .slice ay1 my1 cy1] :: caps) (fun w L => (I64 x0 ∧ Ro w L eIs [.slice ax1 mx1 cx1] x1 ∧ I64 y0 ∧ Ro w L eIs [.slice ay1 my1 cy1] y1) ∧ RR w L) [] (κ := Unit) (fun _ => True) (fun _ => .bool (p (x0, x1) (y0, y1))) (fun _ => [])) (hR : ∀ w', Keep w L w' → RR w' []) : FnP2 P w L g caps N3 a2X p :=
 ⟨(tr (x0 := 0) (x1 := []) (ax1 := none) (mx1 := 0) (cx1 := 0) (y0 := 0) (y1 := []) (ay1 := none) (my1 := 0) (cy1 := 0)).1, fun w' k cs x ds y hx hy => by obtain ⟨a0, c0, rfl, h0, h1⟩ := J0 hx; obtain ⟨b0, e0, rfl, k0, k1⟩ := J0 hy; exact Tr.bool tr ⟨⟨h0, h1, k0, k1⟩, hR w' k⟩⟩
end
end Go.Proofs.YtbedienpleiamaaGreat

namespace Go.Proofs.YtbedienpleiamaaGreat
open Go.RowKit
set_option linter.unusedVariables false
def owd {α : Type} (e : TypeId) (E : Enc α) (a : Option Addr) (m c : Nat) (xs : List α) (j : Nat) : HP where
 holds w L := ∃ c1 c2 L1 L2, L = L1 ++ L2 ∧ m = xs.length ∧ m ≤ maxLen ∧ c1.length = j * E.k ∧ B4 E w c2 (xs.drop j) L2 true ∧ (row e E.k a m c (c1 ++ c2)).holds w L1
 stable := by
  rintro w w' L ⟨c1, c2, L1, L2, rfl, h1, h2, h3, h4, h5⟩ hb
  exact ⟨c1, c2, L1, L2, rfl, h1, h2, h3, h4.stable fun b h => hb b (by simp [h]), (row e E.k a m c _).stable h5 fun b h => hb b (by simp [h])⟩
 inh := by
  rintro w L ⟨c1, c2, L1, L2, rfl, h1, h2, h3, h4, h5⟩ b hb
  rcases List.mem_append.1 hb with hb | hb
  ·exact (row e E.k a m c _).inh h5 b hb
  ·exact h4.inh b hb
def owt {α : Type} (e : TypeId) (E : Enc α) (a : Option Addr) (m c : Nat) (xs : List α) (j : Nat) (ce : List Value) : HP where
 holds w L := ∃ c1 c2 L1 L2, L = L1 ++ L2 ∧ m = xs.length ∧ m ≤ maxLen ∧ j < xs.length ∧ ce.length = E.k ∧ c1.length = j * E.k ∧ B4 E w c2 (xs.drop (j + 1)) L2 true ∧ (row e E.k a m c (c1 ++ (ce ++ c2))).holds w L1
 stable := by
  rintro w w' L ⟨c1, c2, L1, L2, rfl, h1, h2, h0, h6, h3, h4, h5⟩ hb
  exact ⟨c1, c2, L1, L2, rfl, h1, h2, h0, h6, h3, h4.stable fun b h => hb b (by simp [h]), (row e E.k a m c _).stable h5 fun b h => hb b (by simp [h])⟩
 inh := by
  rintro w L ⟨c1, c2, L1, L2, rfl, h1, h2, h0, h6, h3, h4, h5⟩ b hb
  rcases List.mem_append.1 hb with hb | hb
  ·exact (row e E.k a m c _).inh h5 b hb
  ·exact h4.inh b hb
section
variable {n : Nat} {w0 : World} {L0 : List Nat} {fr : Fr} {H R : List HP} {G : Act → World → Prop} {α : Type} {E : Enc α} {e : TypeId} {a : Option Addr} {m c : Nat} {xs : List α} {j : Nat}
theorem a7M (h : Ent n w0 L0 fr (owd e E a m c xs 0 :: R) G) : Ent n w0 L0 fr (ow (Enc.sl e E) [.slice a m c] xs :: R) G := fun ac w h1 h2 => by
 obtain ⟨L, ⟨Lo, LR, rfl, ho, hR⟩, hn, hst⟩ := h2
 obtain ⟨ccs, L1, L2, rfl, g1, g2, g3, g4⟩ := V5 ho
 exact h ac w h1 ⟨(L1 ++ L2) ++ LR, ⟨L1 ++ L2, LR, rfl, ⟨[], ccs, L1, L2, rfl, g1, g2, by simp, g3, g4⟩, hR⟩, hn, hst⟩
theorem a7K (hj : j < xs.length) (h : ∀ ce, Ent n w0 L0 fr (owt e E a m c xs j ce :: ow E ce xs[j] :: R) G) : Ent n w0 L0 fr (owd e E a m c xs j :: R) G := fun ac w h1 h2 => by
 obtain ⟨L, ⟨Lo, LR, rfl, ⟨c1, c2, L1, L2, rfl, g1, g2, g3, g4, g5⟩, hR⟩, hn, hst⟩ := h2
 rw [List.drop_eq_getElem_cons hj] at g4
 obtain ⟨d1, d2, N1, N2, rfl, rfl, k1, k2⟩ := g4
 have hperm : (L1 ++ (N1 ++ N2) ++ LR).Perm ((L1 ++ N2) ++ (N1 ++ LR)) := by
  simp only [List.append_assoc]
  refine List.Perm.append_left L1 ?_
  rw [← List.append_assoc, ← List.append_assoc]
  exact (List.perm_append_comm).append_right LR
 exact h d1 ac w h1 ⟨(L1 ++ N2) ++ (N1 ++ LR), ⟨_, _, rfl, ⟨c1, d2, L1, N2, rfl, g1, g2, hj, E.len k1, g3, k2, g5⟩, N1, LR, rfl, k1, hR⟩, hperm.nodup_iff.1 hn, hst.sublist fun b hb => hperm.mem_iff.2 hb⟩
theorem a5l {ce : List Value} (h : Ent n w0 L0 fr (owd e E a m c xs (j + 1) :: R) G) : Ent n w0 L0 fr (owt e E a m c xs j ce :: R) G := fun ac w h1 h2 => by
 obtain ⟨L, ⟨Lo, LR, rfl, ⟨c1, c2, L1, L2, rfl, g1, g2, g0, g6, g3, g4, g5⟩, hR⟩, hn, hst⟩ := h2
 exact h ac w h1 ⟨(L1 ++ L2) ++ LR, ⟨L1 ++ L2, LR, rfl, ⟨c1 ++ ce, c2, L1, L2, rfl, g1, g2, by rw [List.length_append, g3, g6, Nat.succ_mul], g4, by rw [List.append_assoc]; exact g5⟩, hR⟩, hn, hst⟩
theorem Has.owt {ce : List Value} {b o : Nat} (ha : a = some ⟨b, o, none⟩) (hm : Go.Proofs.YtbedienpleiamaaGreat.owt e E a m c xs j ce ∈ H) : Has w0 L0 H b (o + j * E.k) ce := fun w h => by
 obtain ⟨L', c1, c2, L1, L2, _, g1, g2, hj, g6, g3, g4, h0, g8⟩ := h.mem hm
 rcases g8 with ⟨_, h, _⟩ | ⟨g', cur, h2, h3, h4, h5, h6, h7, _⟩
 ·omega
 rw [ha] at h2; cases h2
 intro i v hi
 have hi' : (c1 ++ (ce ++ c2))[j * E.k + i]? = some v := by
  rw [← g3, List.getElem?_append_right (by omega), show c1.length + i - c1.length = i from by omega]
  rw [List.getElem?_append_left (by exact (List.getElem?_eq_some_iff.1 hi).1)]; exact hi
 rw [← h7, List.getElem?_take] at hi'
 split at hi'
 ·simpa [World.cell?, h3] using hi'
 ·cases hi'
theorem a7c (hm : owd e E a m c xs j ∈ H) (hlt : 0 < m) (h : ∀ b, a = some ⟨b, 0, none⟩ → Ent n w0 L0 fr H G) : Ent n w0 L0 fr H G := fun ac w h1 h2 => by
 obtain ⟨L, hL⟩ := h2.mem hm
 obtain ⟨c1, c2, L1, L2, _, g1, g2, _, _, g4⟩ := hL
 rcases g4.2 with ⟨_, h0, _⟩ | ⟨g, cur, h3, _⟩
 ·omega
 ·exact h g h3 ac w h1 h2
end
theorem Q3.has {w1 w0 : World} {L1 L0 : List Nat} {b off : Nat} {cs : List Value} (h : Q3 w1 L1 w0 L0) (k : ∀ H, Has w0 L0 H b off cs) : ∀ H, Has w1 L1 H b off cs := fun H w hw => k H w (h H w hw)
theorem frB {a b : Bool} (h : a = b) : some (Value.bool a) = some (Value.bool b) := by rw [h]
end Go.Proofs.YtbedienpleiamaaGreat

namespace Go.Proofs.YtbedienpleiamaaGreat
set_option linter.unusedVariables false
def L7 (a b : Int) : Int := if a < b then -1 else if b < a then 1 else 0
def G3 : List Int → List Int → Int
 | [], [] => 0
 | [], _ :: _ => -1
 | _ :: _, [] => 1
 | a :: l, b :: m => if L7 a b ≠ 0 then L7 a b else G3 l m
def orI : List Int → Int
 | [] => 0
 | x :: l => if x ≠ 0 then x else orI l
def I8 (a b : Int × List Int) : Int := if L7 a.1 b.1 ≠ 0 then L7 a.1 b.1 else G3 a.2 b.2
theorem a6q {a b : Int} : I64 (L7 a b) := by unfold L7 I64; split; omega; split <;> omega
theorem a6H : ∀ {l m : List Int}, I64 (G3 l m)
 | [], [] => by unfold G3 I64; omega
 | [], _ :: _ => by unfold G3 I64; omega
 | _ :: _, [] => by unfold G3 I64; omega
 | a :: l, b :: m => by unfold G3; split; exact a6q; exact a6H
theorem a5A {a b : Int} : L7 a b = 0 ↔ a = b := by unfold L7; grind
theorem a5C : ∀ {l m : List Int}, G3 l m = 0 ↔ l = m
 | [], [] => by simp [G3]
 | [], _ :: _ => by simp [G3]
 | _ :: _, [] => by simp [G3]
 | a :: l, b :: m => by
  have := a5A (a := a) (b := b)
  have h2 := a5C (l := l) (m := m)
  unfold G3; grind
theorem a3k {a b : Int × List Int} : I8 a b = 0 ↔ a = b := by
 have h1 := a5A (a := a.1) (b := b.1)
 have h2 := a5C (l := a.2) (m := b.2)
 unfold I8
 rcases a with ⟨a1, a2⟩; rcases b with ⟨b1, b2⟩
 grind
def eqP {α : Type} (p : α → α → Bool) : List α → List α → Bool
 | [], [] => true
 | a :: l, b :: m => p a b && eqP p l m
 | _, _ => false
theorem a2i {α : Type} {p : α → α → Bool} : ∀ {l m : List α}, eqP p l m = true → l.length = m.length
 | [], [], _ => rfl
 | [], _ :: _, h => by simp [eqP] at h
 | _ :: _, [], h => by simp [eqP] at h
 | a :: l, b :: m, h => by
  simp only [eqP, Bool.and_eq_true] at h
  simp [a2i h.2]
theorem a7F {α : Type} [DecidableEq α] : ∀ {l m : List α}, eqP (fun z y => decide (z = y)) l m = decide (l = m)
 | [], [] => by simp [eqP]
 | [], _ :: _ => by simp [eqP]
 | _ :: _, [] => by simp [eqP]
 | a :: l, b :: m => by simp [eqP, a7F (l := l) (m := m)]
theorem a3f {l m : List (Int × List Int)} : eqP (fun z y => decide (I8 z y = 0)) l m = decide (l = m) := by
 rw [← a7F]
 congr 1
 funext z y
 simp [a3k]
end Go.Proofs.YtbedienpleiamaaGreat

namespace Go.Proofs.YtbedienpleiamaaGreat
set_option linter.unusedVariables false
def F5 (l : List (Int × List Int)) (f : Int × List Int) : Bool := l.any fun z => decide (I8 z f = 0)
def B2 (a : Int × List Int) (b : List Int × List Int) : Int × List Int := (a.1, a.2.map (u6 b))
def O5 (q : List Int × List (Int × List Int)) (f0 : List (Int × List Int)) (head : List Int) (b : List Int × List Int) : Bool :=
 decide (b.1.length = b.2.length) && (decide (q.1.map (u6 b) = head) && !q.2.any fun a => !F5 f0 (B2 a b))
theorem Ro.i64A {w : World} {L : List Nat} {e : TypeId} {a : Option Addr} {m c : Nat} {xs : List (Int × List Int)} (h : Ro w L (Enc.sl e (Enc.pair Enc.int (Enc.sl tI Enc.int))) [.slice a m c] xs) : ∀ x ∈ xs, I64 x.1 ∧ ∀ y ∈ x.2, I64 y := by
 intro x hx
 obtain ⟨i, hi, rfl⟩ := List.getElem_of_mem hx
 obtain ⟨_, _, ci, _, h1, _⟩ := h.elem i hi
 obtain ⟨c1, c2, rfl, h2, h3⟩ := h1.pair
 obtain ⟨a', c', rfl⟩ := h3.sl
 exact ⟨h2.int.2, h3.i64⟩
theorem a7Z {b : List Int × List Int} {l : List (Int × List Int)} (h : ∀ x ∈ l, I64 x.1 ∧ ∀ y ∈ x.2, I64 y) (h1 : ∀ x ∈ b.1, I64 x) (h2 : ∀ x ∈ b.2, I64 x) : ∀ x ∈ l, ∀ y ∈ x.2, I64 (u6 b y) := fun x hx y hy => a2E ((h x hx).2 y hy) h2
theorem b0z {α : Type} {t : α → Nat} {l : List α} {n : Nat} (h : E7 t l ≤ n) : ∀ x ∈ l, t x ≤ n := by
 intro x hx
 obtain ⟨i, hi, rfl⟩ := List.getElem_of_mem hx
 exact Nat.le_trans (a9n hi) h
theorem U1 {l : List (Int × List Int)} {n : Nat} (h : E7 (fun x => x.2.length) l ≤ n) : ∀ x ∈ l, x.2.length ≤ n := b0z h
end Go.Proofs.YtbedienpleiamaaGreat

namespace Go.Proofs.YtbedienpleiamaaGreat
set_option linter.unusedVariables false
def I0 {α : Type} (r : α → α → Bool) : List α → Bool
 | a :: b :: l => r a b && I0 r (b :: l)
 | _ => true
theorem a8C {α : Type} {l : List α} {g : Nat} (h : g < l.length) (h0 : 0 < g) : l.drop (g - 1) = l[g - 1] :: l[g] :: l.drop (g + 1) := by
 rw [List.drop_eq_getElem_cons (by omega), show g - 1 + 1 = g by omega, List.drop_eq_getElem_cons h]
def ltB (a b : Int) : Bool := decide (a < b)
theorem X1 {α : Type} {r : α → α → Bool} {l : List α} {g : Nat} (h : g < l.length) (h0 : 0 < g) : I0 r (l.drop (g - 1)) = (r l[g - 1] l[g] && I0 r (l.drop g)) := by
 rw [a8C h h0, I0, ← List.drop_eq_getElem_cons h]
theorem X3 {α : Type} {r : α → α → Bool} {l : List α} {g : Nat} (h : g = 0) : I0 r (l.drop (g - 1)) = I0 r (l.drop g) := by subst h; rfl
theorem Y9 {α : Type} {r : α → α → Bool} {l : List α} {g : Nat} (h : l.length ≤ g) : I0 r (l.drop (g - 1)) = true := by
 have : (l.drop (g - 1)).length ≤ 1 := by simp; omega
 match l.drop (g - 1), this with
 | [], _ => rfl
 | [x], _ => rfl
 | x :: y :: z, h => simp at h
def b2a (m : Int × List Int × Int × Int × Int) (ar : Int) : Bool :=
 I0 ltB m.2.1 && (a9V m.2.1 ar && (inR m.2.2.1 0 9 && (inR m.2.2.2.1 0 99 && inR m.2.2.2.2 1 99)))
def b1h (s : List Int) (m : Int × List Int × Int × Int × Int) : Bool := J8 s m.1 && b2a m (at0 s m.1)
def Y8 (s : List Int) (l : List (Int × List Int × Int × Int × Int)) : Bool := I1 s && (decide ((l.length : Int) ≤ 5) && !l.any fun m => !b1h s m)
def a3F (v : List Int) : Bool := I0 ltB v && a0d v
def b3a (l : List (Int × List Int)) (a : Int × List Int) : Bool := l.any fun z => decide (z = a)
def O1 (S0 : List Int) : Nat → List (List Int)
 | 0 => [[]]
 | n + 1 => (O1 S0 n).flatMap fun l => S0.map fun v => l ++ [v]
def W5 (S0 : List Int) (log : List (Int × List Int)) (i : Int) (k : Nat) : List (Int × List Int) :=
 ((O1 S0 k).filter fun v => !b3a log (i, v)).map fun v => (i, v)
def S7 (S0 : List Int) (log : List (Int × List Int)) : List (Int × List Int × Int × Int × Int) → Int → List (Int × List Int)
 | [], _ => []
 | m :: l, i => (if m.2.2.1 ≠ 0 then [] else W5 S0 log i m.2.1.length) ++ S7 S0 log l (i + 1)
def X5 (s : List Int) (l : List (Int × List Int × Int × Int × Int)) (S0 : List Int) (log : List (Int × List Int)) : List (Int × List Int) :=
 if Y8 s l && a3F S0 then S7 S0 log l 0 else []
theorem a2y {α : Type} {c : α → Nat} {n : Nat} : ∀ {l : List α}, (∀ x ∈ l, c x ≤ n) → B6 c l ≤ l.length * n
 | [], _ => by simp [B6]
 | x :: l, h => by
  have h1 := a2y (c := c) (n := n) (l := l) fun y hy => h y (by simp [hy])
  have h2 := h x (by simp)
  simp only [B6, List.map_cons, List.sum_cons, List.length_cons, Nat.succ_mul] at h1 ⊢; omega
end Go.Proofs.YtbedienpleiamaaGreat

namespace Go.Proofs.YtbedienpleiamaaGreat
set_option linter.unusedVariables false
def I2 {α : Type} (p : α → Bool) (f : α) : List α → List α
 | [] => []
 | x :: l => if p x then f :: x :: l else x :: I2 p f l
def N9 {α : Type} (has : Bool) (p : α → Bool) (f : α) (l : List α) : List α := if has then l else if l.any p then I2 p f l else l ++ [f]
section
variable {α : Type} {p q : α → Bool} {f : α}
theorem P0 : ∀ {l : List α}, l.any p = false → I2 p f l = l
 | [], _ => rfl
 | x :: l, h => by
  simp only [List.any_cons, Bool.or_eq_false_iff] at h
  simp [I2, h.1, P0 h.2]
theorem M5 : ∀ {l : List α} {y : α}, I2 p f (l ++ [y]) = if l.any p then I2 p f l ++ [y] else if p y then l ++ [f, y] else l ++ [y]
 | [], y => by simp [I2]
 | x :: l, y => by
  have h := M5 (l := l) (y := y)
  simp only [List.cons_append, I2, List.any_cons, h]
  cases p x <;> cases l.any p <;> cases p y <;> simp
theorem a2D : ∀ {l : List α}, (I2 p f l).length ≤ l.length + 1
 | [] => by simp [I2]
 | x :: l => by
  have := a2D (l := l)
  simp only [I2]; split <;> simp <;> omega
theorem a1f {h : Bool} {l : List α} : (N9 h p f l).length ≤ l.length + 1 := by
 have := a2D (p := p) (f := f) (l := l)
 unfold N9; split; omega; split; omega; simp
theorem Y3 {h : Bool} {l : List α} {y : α} (hy : y ∈ N9 h p f l) : y ∈ l ∨ y = f := by
 have ins : ∀ {l : List α}, y ∈ I2 p f l → y ∈ l ∨ y = f := by
  intro l
  induction l with
  | nil => simp [I2]
  | cons x l ih =>
   intro h
   simp only [I2] at h
   split at h
   ·simp only [List.mem_cons] at h ⊢; rcases h with h | h | h <;> simp [h]
   ·simp only [List.mem_cons] at h ⊢
    rcases h with h | h
    ·simp [h]
    ·rcases ih h with h | h <;> simp [h]
 unfold N9 at hy
 split at hy
 ·exact .inl hy
 ·split at hy
  ·exact ins hy
  ·simpa using hy
theorem a9s {l : List α} (hpq : ∀ y ∈ l, p y = q y) : N9 false p f l = l.take (if H3 q l < 0 then l.length else (H3 q l).toNat) ++ f :: l.drop (if H3 q l < 0 then l.length else (H3 q l).toNat) := by
 have ha : l.any p = l.any q := by
  induction l with
  | nil => rfl
  | cons x l ih => simp [List.any_cons, hpq x (by simp), ih fun y hy => hpq y (by simp [hy])]
 unfold N9 H3
 rw [ha]
 by_cases h : l.any q = true
 ·simp only [h, if_true, Bool.false_eq_true, if_false]
  rw [if_neg (by omega), Int.toNat_natCast]
  clear ha
  induction l with
  | nil => simp at h
  | cons x l ih =>
   simp only [I2, List.findIdx_cons, hpq x (by simp)]
   cases hq : q x with
   | true => simp
   | false =>
    simp only [List.any_cons, hq, Bool.false_or] at h
    simp [ih (fun y hy => hpq y (by simp [hy])) h]
 ·simp [h]
end
def G2 (l : List Int) (x : Int) : Bool := l.any fun y => decide (y = x)
def K8 (l : List Int) (x : Int) : List Int := N9 (G2 l x) (fun y => decide (x < y)) x l
def G6 (l : List Int) : List Int := l.foldl K8 []
theorem a7z : ∀ {a b : List Int}, a.Pairwise (· < ·) → b.Pairwise (· < ·) → (∀ x, x ∈ a ↔ x ∈ b) → a = b
 | [], [], _, _, _ => rfl
 | [], y :: b, _, _, h => by have := (h y).2 (by simp); simp at this
 | x :: a, [], _, _, h => by have := (h x).1 (by simp); simp at this
 | x :: a, y :: b, ha, hb, h => by
  rw [List.pairwise_cons] at ha hb
  have e : x = y := by
   have h1 := (h x).1 (by simp)
   have h2 := (h y).2 (by simp)
   simp only [List.mem_cons] at h1 h2
   rcases h1 with h1 | h1
   ·exact h1
   ·rcases h2 with h2 | h2
    ·exact h2.symm
    ·have := hb.1 x h1; have := ha.1 y h2; omega
  subst e
  rw [a7z ha.2 hb.2 fun z => ?_]
  have := h z
  simp only [List.mem_cons] at this
  constructor
  ·intro hz
   rcases this.1 (.inr hz) with e | e
   ·have := ha.1 z hz; omega
   ·exact e
  ·intro hz
   rcases this.2 (.inr hz) with e | e
   ·have := hb.1 z hz; omega
   ·exact e
theorem a8u {l : List Int} {x : Int} (h : l.Pairwise (· < ·)) : (K8 l x).Pairwise (· < ·) ∧ ∀ y, y ∈ K8 l x ↔ y ∈ l ∨ y = x := by
 have ins : ∀ {l : List Int}, l.Pairwise (· < ·) → x ∉ l → (if (l.any fun y => decide (x < y)) then I2 (fun y => decide (x < y)) x l else l ++ [x]).Pairwise (· < ·) ∧ ∀ y, y ∈ (if (l.any fun y => decide (x < y)) then I2 (fun y => decide (x < y)) x l else l ++ [x]) ↔ y ∈ l ∨ y = x := by
  intro l
  induction l with
  | nil => intro _ _; simp
  | cons z l ih =>
   intro h hx
   rw [List.pairwise_cons] at h
   simp only [List.mem_cons, not_or] at hx
   have ih' := ih h.2 hx.2
   by_cases hz : x < z
   ·simp only [List.any_cons, hz, decide_true, Bool.true_or, if_true, I2]
    refine ⟨?_, fun y => by simp only [List.mem_cons]; constructor <;> (intro h; rcases h with h | h | h) <;> simp [h]⟩
    rw [List.pairwise_cons, List.pairwise_cons]
    refine ⟨fun y hy => ?_, h⟩
    simp only [List.mem_cons] at hy
    rcases hy with rfl | hy
    ·exact hz
    ·have := h.1 y hy; omega
   ·simp only [List.any_cons, hz, decide_false, Bool.false_or, I2, Bool.false_eq_true, if_false]
    have e : (if (l.any fun y => decide (x < y)) then z :: I2 (fun y => decide (x < y)) x l else z :: l ++ [x]) = z :: (if (l.any fun y => decide (x < y)) then I2 (fun y => decide (x < y)) x l else l ++ [x]) := by split <;> simp
    rw [e]
    refine ⟨?_, fun y => by rw [List.mem_cons, ih'.2 y, List.mem_cons, or_assoc]⟩
    rw [List.pairwise_cons]
    refine ⟨fun y hy => ?_, ih'.1⟩
    rcases (ih'.2 y).1 hy with hy | rfl
    ·exact h.1 y hy
    ·omega
 unfold K8 N9 G2
 by_cases hx : x ∈ l
 ·have : (l.any fun y => decide (y = x)) = true := List.any_eq_true.2 ⟨x, hx, by simp⟩
  rw [if_pos this]
  exact ⟨h, fun y => ⟨.inl, fun e => by rcases e with e | rfl; exact e; exact hx⟩⟩
 ·have : ¬ (l.any fun y => decide (y = x)) = true := fun e => by
   obtain ⟨y, hy, e⟩ := List.any_eq_true.1 e
   simp at e; subst e; exact hx hy
  rw [if_neg this]
  exact ins h hx
theorem W1 : ∀ {l s : List Int}, s.Pairwise (· < ·) → (l.foldl K8 s).Pairwise (· < ·) ∧ ∀ y, y ∈ l.foldl K8 s ↔ y ∈ s ∨ y ∈ l
 | [], s, h => ⟨h, by simp⟩
 | x :: l, s, h => by
  have h1 := a8u (x := x) h
  have h2 := W1 (l := l) h1.1
  refine ⟨h2.1, fun y => ?_⟩
  rw [List.foldl_cons, h2.2 y, h1.2 y, List.mem_cons, or_assoc]
theorem a9q {l : List Int} : (G6 l).Pairwise (· < ·) := (W1 .nil).1
theorem a2z {l : List Int} {y : Int} : y ∈ G6 l ↔ y ∈ l := by rw [G6, (W1 .nil).2 y]; simp
theorem a3S {l : List Int} : (G6 l).length ≤ l.length := by
 have : ∀ {l s : List Int}, (l.foldl K8 s).length ≤ s.length + l.length := by
  intro l
  induction l with
  | nil => intro s; simp
  | cons x l ih => intro s; have := ih (s := K8 s x); have h2 := a1f (h := G2 s x) (p := fun y => decide (x < y)) (f := x) (l := s); simp only [List.foldl_cons, List.length_cons]; unfold K8 at *; omega
 have h := this (l := l) (s := [])
 simpa [G6] using h
theorem a5a {d : List Int} (hd : d.Pairwise (· ≤ ·)) : (Lib.compact d).Pairwise (· < ·) ∧ ∀ y, y ∈ Lib.compact d ↔ y ∈ d := by
 have hle : ∀ i j, (hij : i ≤ j) → (hj : j < d.length) → d[i]'(by omega) ≤ d[j]'hj := by
  intro i j hij hj
  rcases Nat.lt_or_eq_of_le hij with h | h
  ·exact List.pairwise_iff_getElem.1 hd i j (by omega) hj h
  ·subst h; exact Int.le_refl _
 have hget : ∀ i, (h : i < d.length) → d.toArray[i]! = d[i] := by intro i h; simp [h]
 have key : ∀ m, m ≤ d.length → (Lib.compactUpTo d.toArray m).Pairwise (· < ·) ∧ ∀ y, y ∈ Lib.compactUpTo d.toArray m ↔ y ∈ d.take m := by
  intro m
  induction m with
  | zero => intro _; simp [Lib.compactUpTo]
  | succ m ih =>
   intro hm
   obtain ⟨h1, h2⟩ := ih (by omega)
   have hmem : ∀ y, y ∈ d.take (m + 1) ↔ y ∈ d.take m ∨ y = d[m] := by
    intro y; rw [List.take_succ_eq_append_getElem (show m < d.length by omega), List.mem_append, List.mem_singleton]
   rw [Lib.compactUpTo_succ, hget m (by omega)]
   by_cases hk : Lib.keeps d.toArray m = true
   ·rw [if_pos hk]
    refine ⟨List.pairwise_append.2 ⟨h1, by simp, fun a ha b hb => ?_⟩, fun y => by rw [List.mem_append, h2 y, hmem y]; simp⟩
    simp only [List.mem_singleton] at hb
    subst hb
    rw [h2 a, List.mem_take_iff_getElem] at ha
    obtain ⟨i, hi, rfl⟩ := ha
    have hi' : i < m := by omega
    have e1 := hle i (m - 1) (by omega) (by omega)
    have e2 := hle (m - 1) m (by omega) (by omega)
    have e3 : d[m - 1]'(by omega) ≠ d[m] := by
     intro e
     have := Lib.keeps_neg (d := d.toArray) (m := m) (by omega) (by rw [hget m (by omega), hget (m - 1) (by omega), e])
     rw [this] at hk; cases hk
    omega
   ·rw [if_neg hk, List.append_nil]
    refine ⟨h1, fun y => ?_⟩
    rw [h2 y, hmem y]
    refine ⟨.inl, fun h => h.elim id ?_⟩
    rintro rfl
    have h0 : 0 < m := by
     rcases Nat.eq_zero_or_pos m with e | e
     ·subst e; exact absurd (Lib.keeps_lt_one d.toArray 0 (by omega)) hk
     ·exact e
    have e3 : d[m - 1]'(by omega) = d[m] := by
     refine Classical.byContradiction fun e => hk (Lib.keeps_pos ?_)
     rw [hget m (by omega), hget (m - 1) (by omega)]
     exact fun e' => e e'.symm
    rw [List.mem_take_iff_getElem]
    exact ⟨m - 1, by omega, e3⟩
 have := key d.length (Nat.le_refl _)
 simpa [Lib.compact] using this
theorem T7 {l : List Int} : Lib.compact (l.mergeSort fun x y => decide (x ≤ y)) = G6 l := by
 have hs : (l.mergeSort fun x y => decide (x ≤ y)).Pairwise (· ≤ ·) := by
  have := List.pairwise_mergeSort (le := fun x y : Int => decide (x ≤ y)) (by intro a b c; simp only [decide_eq_true_eq]; omega) (by intro a b; simp only [Bool.or_eq_true, decide_eq_true_eq]; omega) l
  exact this.imp fun h => by simpa using h
 have h := a5a hs
 refine a7z h.1 a9q fun x => ?_
 rw [h.2 x, a2z]
 exact (List.mergeSort_perm l _).mem_iff
end Go.Proofs.YtbedienpleiamaaGreat

namespace Go.Proofs.YtbedienpleiamaaGreat
set_option linter.unusedVariables false
theorem b0d {P : Program} {f : FuncId} {args : List Value} {RR RR' : World → List Nat → Prop} {pre : List HP} {κ : Type} {φ : κ → Prop} {ret : κ → Value} {post : κ → List HP} (h : Tr P f args RR pre φ ret post) (hR : ∀ w L, RR' w L → RR w L) : Tr P f args RR' pre φ ret post :=
 ⟨h.1, fun w L hr hs hn => h.2 w L (hR w L hr) hs hn⟩
theorem O3 {l m : List Int} : G6 (l ++ m) = m.foldl K8 (G6 l) := by unfold G6; rw [List.foldl_append]
theorem N8 {l : List Int} {x : Int} : G6 (l ++ [x]) = K8 (G6 l) x := by rw [O3]; rfl
theorem Y7 {l : List Int} {x : Int} : G2 l x = true ↔ x ∈ l := by
 unfold G2
 rw [List.any_eq_true]
 constructor
 ·rintro ⟨y, hy, e⟩; simp at e; subst e; exact hy
 ·intro h; exact ⟨x, h, by simp⟩
def c6 (is : Int → Bool) (l6 : List (Int × List Int)) : List Int := G6 ((l6.flatMap fun a => a.2).filter is)
theorem a4b : ∀ {l : List (Int × List Int)}, (l.flatMap fun a => a.2).length = B6 (fun x => x.2.length) l
 | [] => rfl
 | a :: l => by simp only [List.flatMap_cons, List.length_append, a4b (l := l), B6, List.map_cons, List.sum_cons]
theorem a8n {is : Int → Bool} {l6 : List (Int × List Int)} {g : Nat} (hz : E7 (fun x => x.2.length) l6 ≤ 1048576) : (((l6.take g).flatMap fun a => a.2).filter is).length ≤ 1048576 := by
 have h1 := List.length_filter_le is ((l6.take g).flatMap fun a => a.2)
 have h2 := a5c (t := fun x : Int × List Int => x.2.length) (l := l6) (g := g)
 rw [a4b] at h1
 unfold E7 at hz; omega
theorem a2w {is : Int → Bool} {l6 : List (Int × List Int)} {g h : Nat} (hz : E7 (fun x => x.2.length) l6 ≤ 1048576) (hg : g < l6.length) : (((l6.take g).flatMap fun a => a.2).filter is ++ (l6[g].2.take h).filter is).length ≤ 1048576 := by
 have h1 := List.length_filter_le is ((l6.take g).flatMap fun a => a.2)
 have h2 := a5c (t := fun x : Int × List Int => x.2.length) (l := l6) (g := g + 1)
 have h3 := List.length_filter_le is (l6[g].2.take h)
 have h4 := List.length_take_le' h l6[g].2
 rw [a5K hg] at h2
 rw [a4b] at h1
 rw [List.length_append]
 unfold E7 at hz; omega
def R8 (t : Int) : Bool := inR t 0 9 || inR t 10 17
def K3 (s : List Int) (a : Int × List Int) : Bool := J8 s a.1 && (decide ((a.2.length : Int) = at0 s a.1) && !a.2.any fun t => !R8 t)
def V3 (q : List Int × List (Int × List Int)) : Bool := decide ((q.1.length : Int) ≤ 3) && !q.1.any fun t => !G2 (c6 (fun t => inR t 10 17) q.2) t
def w3 (s : List Int) (q : List Int × List (Int × List Int)) : Bool := I1 s && (inR (q.2.length : Int) 1 4 && ((!q.2.any fun a => !K3 s a) && V3 q))
def b2X (s : List Int) (u : List (List Int × List (Int × List Int))) (q : List Int × List (Int × List Int)) : Bool := !w3 s q || decide ((q.1.length : Int) ≠ ((u.getD 0 ([], [])).1.length : Int))
def a4Y (s : List Int) (u : List (List Int × List (Int × List Int))) : Bool := inR (u.length : Int) 1 3 && !u.any (b2X s u)
def b3k (s : List Int) (g : (List Int × List (Int × List Int)) × List (Int × List Int)) : Bool :=
 w3 s g.1 && (decide ((g.2.length : Int) ≤ 4) && ((!g.2.any fun a => !K3 s a) && !(c6 (fun t => inR t 10 17) g.2).any fun t => !G2 (c6 (fun t => inR t 10 17) g.1.2) t))
end Go.Proofs.YtbedienpleiamaaGreat

namespace Go.Proofs.YtbedienpleiamaaGreat
set_option linter.unusedVariables false
def ltF (a b : Int × List Int) : Bool := decide (I8 a b < 0)
def D1 (l : List (Int × List Int)) (f : Int × List Int) : List (Int × List Int) := N9 (F5 l f) (ltF f) f l
theorem a6Q {a b : Int} : L7 a b = - L7 b a := by unfold L7; grind
theorem a6L : ∀ {l m : List Int}, G3 l m = - G3 m l
 | [], [] => by simp [G3]
 | [], _ :: _ => by simp [G3]
 | _ :: _, [] => by simp [G3]
 | a :: l, b :: m => by
  have h1 := a6Q (a := a) (b := b)
  have h2 := a6L (l := l) (m := m)
  unfold G3; grind
theorem a9r {a b : Int × List Int} : I8 a b = - I8 b a := by
 have h1 := a6Q (a := a.1) (b := b.1)
 have h2 := a6L (l := a.2) (m := b.2)
 unfold I8; grind
theorem a3Y {l : List (Int × List Int)} {f : Int × List Int} (h : F5 l f = true) : D1 l f = l := by simp [D1, N9, h]
theorem a3X {l : List (Int × List Int)} {f : Int × List Int} (h : F5 l f = false) : D1 l f = l.take (if H3 (fun z => decide (0 < I8 z f)) l < 0 then l.length else (H3 (fun z => decide (0 < I8 z f)) l).toNat) ++ f :: l.drop (if H3 (fun z => decide (0 < I8 z f)) l < 0 then l.length else (H3 (fun z => decide (0 < I8 z f)) l).toNat) := by
 rw [D1, h]
 refine a9s fun y _ => ?_
 have := a9r (a := f) (b := y)
 rw [ltF, decide_eq_decide]; omega
theorem a5L {α : Type} {p : α → Bool} {s : List α} : H3 p s ≤ s.length ∧ -1 ≤ H3 p s := by
 unfold H3
 split
 ·have := List.findIdx_le_length (p := p) (xs := s); omega
 ·omega
def G8 {α : Type} (h : Bool) (p : α → Bool) (f : α) (l : List α) : List α := if h then l else I2 p f l
theorem a3U {α : Type} {h : Bool} {p : α → Bool} {f : α} {l : List α} : (G8 h p f l).length ≤ l.length + 1 := by
 have := a2D (p := p) (f := f) (l := l)
 unfold G8; split <;> omega
theorem D2 {α : Type} {h : Bool} {p : α → Bool} {f : α} : G8 h p f [] = [] := by unfold G8; cases h <;> rfl
theorem C6 {α : Type} {h : Bool} {p : α → Bool} {f : α} {l : List α} {y : α} : G8 h p f (l ++ [y]) = if (h || l.any p) = true then G8 h p f l ++ [y] else if p y = true then G8 h p f l ++ [f, y] else G8 h p f l ++ [y] := by
 unfold G8
 cases h
 ·simp only [Bool.false_eq_true, if_false, Bool.false_or, M5]
  cases ha : l.any p
  ·simp [P0 ha]
  ·simp
 ·simp
theorem C5 {α : Type} {h : Bool} {p : α → Bool} {f : α} {l : List α} : N9 h p f l = if (h || l.any p) = true then G8 h p f l else G8 h p f l ++ [f] := by
 unfold G8 N9
 cases h
 ·cases ha : l.any p
  ·simp [P0 ha]
  ·simp
 ·simp
theorem B9 {α : Type} {p : α → Bool} {l : List α} {g : Nat} (h : g < l.length) : (l.take (g + 1)).any p = ((l.take g).any p || p l[g]) := by
 rw [List.take_succ_eq_append_getElem h, List.any_append]; simp
theorem M7 {f : Int × List Int} {a : Int} {b : List Int} : ltF f (a, b) = decide (I8 f (a, b) < 0) := rfl
def a1W (s : List Int) (l : List (Int × List Int)) (g : Nat) : Bool := (l.drop g).all (H4 s) && I0 ltF (l.drop (g - 1))
def J6 (s : List Int) (l : List (Int × List Int)) : Bool := a1W s l 0 && (I1 s && decide ((l.length : Int) ≤ 24))
def b1R (f0 : List (Int × List Int)) (f : Int × List Int) (out : List (Int × List Int)) (r : Int × Int × List Int) : List (Int × List Int) :=
 if f.1 = r.1 then (if F5 f0 (r.2.1, Y1 r.2.2 f.2) then out else D1 out (r.2.1, Y1 r.2.2 f.2)) else out
def b1O (l : List (Int × Int × List Int)) (f0 : List (Int × List Int)) (out : List (Int × List Int)) (f : Int × List Int) : List (Int × List Int) := l.foldl (b1R f0 f) out
def a7P (l : List (Int × Int × List Int)) (f0 : List (Int × List Int)) : List (Int × List Int) := f0.foldl (b1O l f0) []
end Go.Proofs.YtbedienpleiamaaGreat

namespace Go.Proofs.YtbedienpleiamaaGreat
set_option linter.unusedVariables false
set_option linter.unusedSimpArgs false
theorem a3Q {s : List Int} {l : List (Int × List Int)} (h : J6 s l = true) : l.length ≤ 24 ∧ ∀ f ∈ l, H4 s f = true := by
 simp only [J6, a1W, List.drop_zero, Bool.and_eq_true, decide_eq_true_eq, List.all_eq_true] at h
 exact ⟨by omega, h.1.1⟩
theorem a8c {s : List Int} {f : Int × List Int} (h : H4 s f = true) : f.2.length ≤ 3 := by
 simp only [H4, Bool.and_eq_true, decide_eq_true_eq] at h
 have := Y0 h.1
 simp only [at0] at h; omega
theorem a7V {v : List Int} (h : a0d v = true) : ∀ x ∈ v, 0 ≤ x ∧ x ≤ 9 := by
 simp only [a0d, Bool.not_eq_true', List.any_eq_false, Bool.not_eq_true] at h
 intro x hx
 have := h x hx
 simp [inR] at this; omega
def b3K (s : List Int) (l : List (Int × Int × List Int)) (f0 : List (Int × List Int)) : List (Int × List Int) := if a2k s l && J6 s f0 then a7P l f0 else []
def a3y (l : List (Int × Int × List Int)) (f0 : List (Int × List Int)) : Nat → List (Int × List Int)
 | 0 => f0
 | n + 1 => (a7P l (a3y l f0 n)).foldl D1 (a3y l f0 n)
def b1k (l : List (Int × Int × List Int)) (f0 : List (Int × List Int)) : List (Int × List Int) := a3y l f0 6001
theorem a1i : ∀ {n : Nat} {l : List Nat}, l.Nodup → (∀ x ∈ l, x < n) → l.length ≤ n
 | 0, l, _, h => by
  cases l with
  | nil => simp
  | cons x l => exact absurd (h x (by simp)) (by omega)
 | n + 1, l, hd, h => by
  by_cases hm : n ∈ l
  ·have h1 := a1i (n := n) (l := l.erase n) (hd.erase n) fun x hx => by
    have h2 := (hd.mem_erase_iff).1 hx
    have := h x h2.2; omega
   rw [List.length_erase_of_mem hm] at h1; omega
  ·have h1 := a1i (n := n) (l := l) hd fun x hx => by
    have h2 := h x hx
    have : x ≠ n := fun e => hm (e ▸ hx)
    omega
   omega
def a0E : List Int → Nat
 | [] => 0
 | v :: l => (v.toNat + 1) + 11 * a0E l
theorem a5r : ∀ {a b : List Int}, (∀ x ∈ a, 0 ≤ x ∧ x ≤ 9) → (∀ x ∈ b, 0 ≤ x ∧ x ≤ 9) → a0E a = a0E b → a = b
 | [], [], _, _, _ => rfl
 | [], y :: b, _, _, h => by simp [a0E] at h; omega
 | x :: a, [], _, _, h => by simp [a0E] at h
 | x :: a, y :: b, ha, hb, h => by
  have h1 := ha x (by simp)
  have h2 := hb y (by simp)
  simp only [a0E] at h
  rw [a5r (a := a) (b := b) (fun z hz => ha z (by simp [hz])) (fun z hz => hb z (by simp [hz])) (by omega), show x = y by omega]
theorem a6X : ∀ {n : Nat} {a : List Int}, (∀ x ∈ a, 0 ≤ x ∧ x ≤ 9) → a.length ≤ n → a0E a < 11 ^ n
 | n, [], _, _ => by simp [a0E]; exact Nat.pow_pos (by decide)
 | 0, x :: a, _, h => by simp at h
 | n + 1, x :: a, ha, h => by
  have h1 := a6X (n := n) (a := a) (fun z hz => ha z (by simp [hz])) (by simpa using h)
  have h2 := ha x (by simp)
  simp only [a0E, Nat.pow_succ]; omega
def a8b (f : Int × List Int) : Nat := f.1.toNat + 4 * a0E f.2
theorem a2x {s : List Int} {f : Int × List Int} (h : H4 s f = true) : 0 ≤ f.1 ∧ f.1 < 4 := by
 simp only [H4, Bool.and_eq_true, decide_eq_true_eq] at h
 have h1 := Y0 h.1
 have h2 := h.1
 simp only [J8, I1, inR, Bool.and_eq_true, decide_eq_true_eq] at h2
 omega
theorem a1T {s : List Int} {f : Int × List Int} (h : H4 s f = true) : ∀ x ∈ f.2, 0 ≤ x ∧ x ≤ 9 := by
 simp only [H4, Bool.and_eq_true] at h
 exact a7V h.2.2
theorem a8Q {s : List Int} {D : List (Int × List Int)} (hd : D.Nodup) (h : ∀ f ∈ D, H4 s f = true) : D.length ≤ 5324 := by
 have h1 : (D.map a8b).Nodup := by
  unfold List.Nodup at hd ⊢
  rw [List.pairwise_map]
  refine List.Pairwise.imp_of_mem (fun {a b} ha hb hab e => hab ?_) hd
  have ra := a2x (h a ha)
  have rb := a2x (h b hb)
  simp only [a8b] at e
  have e2 := a5r (a1T (h a ha)) (a1T (h b hb)) (by omega)
  exact Prod.ext (by omega) e2
 have h2 := a1i (n := 5324) h1 fun x hx => by
  obtain ⟨f, hf, rfl⟩ := List.mem_map.1 hx
  have r := a2x (h f hf)
  have c := a6X (n := 3) (a1T (h f hf)) (a8c (h f hf))
  unfold a8b; omega
 simpa using h2
theorem a4a {α : Type} {p : α → Bool} {f y : α} : ∀ {l : List α}, y ∈ l → y ∈ I2 p f l
 | x :: l, h => by
  simp only [I2]
  simp only [List.mem_cons] at h
  split
  ·simp [h]
  ·rcases h with h | h
   ·simp [h]
   ·simp [a4a h]
theorem a3d {α : Type} {p : α → Bool} {f : α} : ∀ {l : List α}, l.any p = true → f ∈ I2 p f l
 | x :: l, h => by
  simp only [I2]
  split
  ·simp
  ·rename_i h1
   simp only [List.any_cons, h1, Bool.false_or] at h
   simp [a3d h]
theorem a2v {l : List (Int × List Int)} {f y : Int × List Int} (h : y ∈ l) : y ∈ D1 l f := by
 unfold D1 N9
 split
 ·exact h
 ·split
  ·exact a4a h
  ·simp [h]
theorem a2t {l : List (Int × List Int)} {f : Int × List Int} : F5 l f = true ↔ f ∈ l := by
 unfold F5
 rw [List.any_eq_true]
 constructor
 ·rintro ⟨x, hx, e⟩
  rw [decide_eq_true_eq, a3k] at e
  exact e ▸ hx
 ·intro h
  exact ⟨f, h, by rw [decide_eq_true_eq, a3k]⟩
theorem a5G {l : List (Int × List Int)} {f : Int × List Int} (h : F5 l f = false) : f ∈ D1 l f := by
 unfold D1 N9
 rw [h]
 simp only [Bool.false_eq_true, if_false]
 split
 ·rename_i h1; exact a3d h1
 ·simp
def b2W (s : List Int) (x D : List (Int × List Int)) : Prop := D.Nodup ∧ (∀ f ∈ D, f ∈ x) ∧ x.length ≤ 24 + D.length ∧ ∀ f ∈ x, H4 s f = true
def b3X (l : List (Int × Int × List Int)) (f0 : List (Int × List Int)) (n : Nat) : Prop := ∃ s, a2k s l = true ∧ ∃ D, b2W s (a3y l f0 n) D ∧ n ≤ D.length
theorem a9d {m x : List (Int × List Int)} : (m.foldl D1 x).length ≤ x.length + m.length := by
 induction m generalizing x with
 | nil => simp
 | cons f m ih =>
  have h1 := ih (x := D1 x f)
  have h2 := a1f (h := F5 x f) (p := ltF f) (f := f) (l := x)
  simp only [List.foldl_cons, List.length_cons]
  unfold D1 at h1 ⊢; omega
def b3B (s : List Int) (l : List (Int × Int × List Int)) (f0 : List (Int × List Int)) : List (Int × List Int) := if a2k s l && J6 s f0 then b1k l f0 else []
end Go.Proofs.YtbedienpleiamaaGreat

namespace Go.Proofs.YtbedienpleiamaaGreat
set_option linter.unusedVariables false
set_option linter.unusedSimpArgs false
def unb (b : List Int × List Int) (t : Int) : Bool := !(b.1.take (min b.1.length b.2.length)).any fun x => decide (x = t)
theorem b0s {α : Type} {p : α → Bool} {s : List α} : H3 p s < 0 ↔ s.any p = false := by
 unfold H3
 by_cases h : s.any p = true
 ·rw [if_pos h]; simp [h]
 ·rw [if_neg h]; simp at h; simp; exact h
theorem y4 {b : List Int × List Int} {t : Int} : unb b t = decide (H3 (fun x => decide (x = t)) (b.1.take (min b.1.length b.2.length)) < 0) := by
 rw [unb, Bool.eq_iff_iff, decide_eq_true_eq, b0s]; simp
theorem a0b {V W : List Int} {p : Int → Bool} {g : Nat} (h : g < V.length) (h2 : g < W.length) : ((V.take (min V.length W.length)).drop g).any p = (p V[g] || ((V.take (min V.length W.length)).drop (g + 1)).any p) := by
 rw [List.drop_eq_getElem_cons (by simp; omega)]
 simp
theorem a1U {V W : List Int} {p : Int → Bool} {g : Nat} (h : ¬ (g < V.length ∧ g < W.length)) : ((V.take (min V.length W.length)).drop g).any p = false := by
 rw [List.drop_eq_nil_of_le (by simp; omega)]; rfl
def B7 (x : List Int × List Int) (t v : Int) : List Int × List Int := if inR t 10 17 && unb x t then (x.1 ++ [t], x.2 ++ [v]) else x
def z6 (b : List Int × List Int) (l : List (Int × Int)) : List Int × List Int := l.foldl (fun x p => B7 x p.1 p.2) b
def okV (b : List Int × List Int) : List (Int × Int) → Bool
 | [] => true
 | p :: l => decide (u6 (B7 b p.1 p.2) p.1 = p.2) && okV (B7 b p.1 p.2) l
def r6 (b : List Int × List Int) (a f : Int × List Int) : Bool := decide (a.1 = f.1) && (decide (a.2.length = f.2.length) && (decide (b.1.length = b.2.length) && okV b (a.2.zip f.2)))
def r9 (b : List Int × List Int) (a f : Int × List Int) : List Int × List Int := z6 b (a.2.zip f.2)
theorem x6 {b : List Int × List Int} {t v : List Int} {g : Nat} (h : g < t.length) (h2 : g < v.length) : z6 b ((t.zip v).take (g + 1)) = B7 (z6 b ((t.zip v).take g)) t[g] v[g] := by
 unfold z6
 rw [List.take_succ_eq_append_getElem (by simp; omega), List.foldl_append]
 simp
theorem w4 {b : List Int × List Int} {t v : List Int} {g : Nat} (h : g < t.length) (h2 : g < v.length) : okV b ((t.zip v).drop g) = (decide (u6 (B7 b t[g] v[g]) t[g] = v[g]) && okV (B7 b t[g] v[g]) ((t.zip v).drop (g + 1))) := by
 rw [List.drop_eq_getElem_cons (by simp; omega)]
 simp [okV]
theorem y5 {b : List Int × List Int} {t v : List Int} {g : Nat} (h : t.length ≤ g) : okV b ((t.zip v).drop g) = true := by
 rw [List.drop_eq_nil_of_le (by simp; omega)]; rfl
theorem B5 {b : List Int × List Int} {t v : List Int} {g : Nat} (h : t.length ≤ g) : z6 b ((t.zip v).take g) = z6 b (t.zip v) := by
 rw [List.take_of_length_le (by simp; omega)]
theorem a9I {x : List Int × List Int} {t v : Int} : (B7 x t v).1.length ≤ x.1.length + 1 ∧ (B7 x t v).2.length ≤ x.2.length + 1 := by
 unfold B7; split <;> simp
theorem a1X {x : List Int × List Int} {t v : Int} (h : x.1.length = x.2.length) : (B7 x t v).1.length = (B7 x t v).2.length := by
 unfold B7; split <;> simp [h]
theorem a3p : ∀ {l : List (Int × Int)} {x : List Int × List Int}, (z6 x l).1.length ≤ x.1.length + l.length ∧ (z6 x l).2.length ≤ x.2.length + l.length
 | [], x => by simp [z6]
 | p :: l, x => by
  have h1 := a3p (l := l) (x := B7 x p.1 p.2)
  have h2 := a9I (x := x) (t := p.1) (v := p.2)
  simp only [z6, List.foldl_cons, List.length_cons] at h1 ⊢; omega
theorem a2r : ∀ {l : List (Int × Int)} {x : List Int × List Int}, x.1.length = x.2.length → (z6 x l).1.length = (z6 x l).2.length
 | [], x, h => h
 | p :: l, x, h => by
  have := a2r (l := l) (a1X (t := p.1) (v := p.2) h)
  simpa only [z6, List.foldl_cons] using this
theorem a8x {b : List Int × List Int} {t v : List Int} {g : Nat} : (z6 b ((t.zip v).take g)).1.length ≤ b.1.length + t.length ∧ (z6 b ((t.zip v).take g)).2.length ≤ b.2.length + t.length := by
 have h := a3p (l := (t.zip v).take g) (x := b)
 have h2 : ((t.zip v).take g).length ≤ t.length := by simp; omega
 omega
theorem a7y {x : List Int × List Int} {t v : Int} (h : x.1.length = x.2.length) (h1 : inR t 10 17 = true) (h2 : unb x t = true) : u6 (x.1 ++ [t], x.2 ++ [v]) t = v := by
 have e := a1o (b := (x.1 ++ [t], x.2 ++ [v])) (t := t) (g := x.1.length) h1 (by simp) (by simp [h]) (by simp) (by
  intro y hy
  simp only [unb, h, Nat.min_self, Bool.not_eq_true', List.any_eq_false] at h2
  rw [List.take_append_of_le_length (Nat.le_refl _), List.take_length] at hy
  have := h2 y (by rw [← h, List.take_length]; exact hy)
  simpa using this)
 rw [← e]
 simp [h]
theorem a4M {x : List Int × List Int} {t v : Int} (h : (inR t 10 17 && unb x t) = false) : B7 x t v = x := by unfold B7; rw [h]; simp
theorem a3A {x : List Int × List Int} {t v : Int} (h : (inR t 10 17 && unb x t) = true) : B7 x t v = (x.1 ++ [t], x.2 ++ [v]) := by unfold B7; rw [h]; simp
theorem H1 {x : List Int × List Int} {t v : Int} (h : x.1.length = x.2.length) : decide (u6 (B7 x t v) t = v) = (inR t 10 17 && unb x t || decide (u6 x t = v)) := by
 cases hc : inR t 10 17 && unb x t with
 | false => rw [a4M hc]; simp
 | true =>
  rw [a3A hc]
  rw [Bool.and_eq_true] at hc
  rw [a7y h hc.1 hc.2]; simp
def I5 (b : List Int × List Int) (a : Int × List Int) (f0 : List (Int × List Int)) : List (List Int × List Int) := (f0.filter (r6 b a)).map (r9 b a)
def E5 (l : List (List Int × List Int)) (a : Int × List Int) (f0 : List (Int × List Int)) : List (List Int × List Int) := l.flatMap fun b => I5 b a f0
theorem P6 {b : List Int × List Int} {a : Int × List Int} : I5 b a [] = [] := rfl
theorem N7 {b : List Int × List Int} {a f : Int × List Int} {l : List (Int × List Int)} : I5 b a (l ++ [f]) = if r6 b a f then I5 b a l ++ [r9 b a f] else I5 b a l := by
 unfold I5
 cases h : r6 b a f <;> simp [List.filter_append, h]
theorem P7 {a : Int × List Int} {f0 : List (Int × List Int)} : E5 [] a f0 = [] := rfl
theorem N6 {l : List (List Int × List Int)} {b : List Int × List Int} {a : Int × List Int} {f0 : List (Int × List Int)} : E5 (l ++ [b]) a f0 = E5 l a f0 ++ I5 b a f0 := by
 simp [E5]
theorem a6C {b : List Int × List Int} {a : Int × List Int} {f0 : List (Int × List Int)} : (I5 b a f0).length ≤ f0.length := by
 unfold I5; rw [List.length_map]; exact List.length_filter_le _ _
theorem a6m {a : Int × List Int} {f0 : List (Int × List Int)} : ∀ {l : List (List Int × List Int)}, (E5 l a f0).length ≤ l.length * f0.length
 | [] => by simp [E5]
 | b :: l => by
  have h1 := a6m (a := a) (f0 := f0) (l := l)
  have h2 := a6C (b := b) (a := a) (f0 := f0)
  simp only [E5, List.flatMap_cons, List.length_append, List.length_cons, Nat.succ_mul] at h1 ⊢; omega
theorem a6p {n k : Nat} {a : Int × List Int} {f0 : List (Int × List Int)} {l : List (List Int × List Int)} (ha : a.2.length ≤ k) (h : ∀ b ∈ l, b.1.length ≤ n ∧ b.2.length ≤ n) : ∀ b ∈ E5 l a f0, b.1.length ≤ n + k ∧ b.2.length ≤ n + k := by
 intro b hb
 simp only [E5, I5, List.mem_flatMap, List.mem_map] at hb
 obtain ⟨x, hx, f, _, rfl⟩ := hb
 have h1 := h x hx
 have h2 := a3p (l := a.2.zip f.2) (x := x)
 have h3 : (a.2.zip f.2).length ≤ a.2.length := by simp; omega
 unfold r9; omega
def j7 (l6 : List (Int × List Int)) (f0 : List (Int × List Int)) : List (List Int × List Int) := l6.foldl (fun l a => E5 l a f0) [([], [])]
theorem U2 {f0 : List (Int × List Int)} : j7 [] f0 = [([], [])] := rfl
theorem R7 {l6 f0 : List (Int × List Int)} {a : Int × List Int} : j7 (l6 ++ [a]) f0 = E5 (j7 l6 f0) a f0 := by
 simp [j7]
theorem a5p {f0 : List (Int × List Int)} (hf : f0.length ≤ 24) : ∀ {n : Nat} {l6 : List (Int × List Int)}, l6.length = n → (∀ a ∈ l6, a.2.length ≤ 3) → (j7 l6 f0).length ≤ 24 ^ n ∧ ∀ b ∈ j7 l6 f0, b.1.length ≤ 3 * n ∧ b.2.length ≤ 3 * n
 | 0, l6, hn, _ => by
  obtain rfl := List.length_eq_zero_iff.1 hn
  simp [U2]
 | n + 1, l6, hn, h => by
  have h0 : l6 ≠ [] := by intro e; subst e; simp at hn
  rw [← List.dropLast_concat_getLast h0] at hn h ⊢
  rw [List.length_append] at hn
  have ih := a5p hf (n := n) (l6 := l6.dropLast) (by simpa using hn) (fun a ha => h a (by simp [ha]))
  rw [R7]
  have h1 := a6m (a := l6.getLast h0) (f0 := f0) (l := j7 l6.dropLast f0)
  have h2 := Nat.mul_le_mul ih.1 hf
  have h3 := a6p (f0 := f0) (h (l6.getLast h0) (by simp)) ih.2
  exact ⟨by rw [Nat.pow_succ]; omega, fun b hb => by have := h3 b hb; omega⟩
theorem a3W {f0 l6 : List (Int × List Int)} (hf : f0.length ≤ 24) (hn : l6.length ≤ 4) (h : ∀ a ∈ l6, a.2.length ≤ 3) : (j7 l6 f0).length ≤ 331776 ∧ ∀ b ∈ j7 l6 f0, b.1.length ≤ 12 ∧ b.2.length ≤ 12 := by
 have h1 := a5p hf rfl h
 have h2 : 24 ^ l6.length ≤ 24 ^ 4 := Nat.pow_le_pow_right (by decide) hn
 exact ⟨by omega, fun b hb => by have := h1.2 b hb; omega⟩
def L9 (l : List (List Int)) (t : List Int) : Bool := l.any fun x => decide (x = t)
def ltT (a b : List Int) : Bool := decide (G3 a b < 0)
def M9 (l : List (List Int)) (t : List Int) : List (List Int) := N9 (L9 l t) (ltT t) t l
theorem a9H {l : List (List Int)} {t : List Int} : (M9 l t).length ≤ l.length + 1 := a1f
def L8 (h : List Int) (l : List (List Int × List Int)) : List (List Int) := l.foldl (fun out b => M9 out (h.map (u6 b))) []
theorem a1Z {h : List Int} : L8 h [] = [] := rfl
theorem a1d {h : List Int} {l : List (List Int × List Int)} {b : List Int × List Int} : L8 h (l ++ [b]) = M9 (L8 h l) (h.map (u6 b)) := by simp [L8]
theorem a4f {h : List Int} : ∀ {l : List (List Int × List Int)} {out : List (List Int)}, (l.foldl (fun out b => M9 out (h.map (u6 b))) out).length ≤ out.length + l.length ∧ ((∀ t ∈ out, t.length ≤ h.length) → ∀ t ∈ l.foldl (fun out b => M9 out (h.map (u6 b))) out, t.length ≤ h.length)
 | [], out => by simp
 | b :: l, out => by
  have h1 := a4f (h := h) (l := l) (out := M9 out (h.map (u6 b)))
  have h2 := a9H (l := out) (t := h.map (u6 b))
  refine ⟨by simp only [List.foldl_cons, List.length_cons]; omega, fun ho => h1.2 fun t ht => ?_⟩
  rcases Y3 ht with ht | rfl
  ·exact ho t ht
  ·simp
theorem b0t {h : List Int} {l : List (List Int × List Int)} : (L8 h l).length ≤ l.length := by have := (a4f (h := h) (l := l) (out := [])).1; simpa [L8] using this
theorem a8F {h : List Int} {l : List (List Int × List Int)} : ∀ t ∈ L8 h l, t.length ≤ h.length := (a4f (h := h) (l := l) (out := [])).2 (by simp)
theorem D4 {s : List Int} {q : List Int × List (Int × List Int)} (h : w3 s q = true) : q.2.length ≤ 4 ∧ q.1.length ≤ 3 ∧ ∀ a ∈ q.2, a.2.length ≤ 3 := by
 simp only [w3, V3, inR, Bool.and_eq_true, decide_eq_true_eq, Bool.not_eq_true', List.any_eq_false, Bool.not_eq_true] at h
 refine ⟨by omega, by omega, fun a ha => ?_⟩
 have h1 := h.2.2.1 a ha
 have h1 : K3 s a = true := by simpa using h1
 simp only [K3, Bool.and_eq_true, decide_eq_true_eq] at h1
 have := Y0 h1.1
 simp only [at0] at h1; omega
def a0v (s : List Int) (q : List Int × List (Int × List Int)) (f0 : List (Int × List Int)) : List (List Int) := if w3 s q && J6 s f0 then L8 q.1 (j7 q.2 f0) else []
end Go.Proofs.YtbedienpleiamaaGreat

namespace Go.Proofs.YtbedienpleiamaaGreat
set_option linter.unusedVariables false
set_option linter.unusedSimpArgs false
def nxt (u : List Int) : Nat → Nat → Nat
 | 0, v => v
 | n + 1, v => if G2 u (v : Int) then nxt u n (v + 1) else v
def E6 (u : List Int) (v : Nat) : Nat := nxt u 11 v
theorem a3E {u : List Int} (hu : ∀ x ∈ u, 0 ≤ x ∧ x ≤ 9) {v : Nat} (h : G2 u (v : Int) = true) : v ≤ 9 := by
 have := (hu _ (Y7.1 h)).2; omega
theorem a6w {u : List Int} (hu : ∀ x ∈ u, 0 ≤ x ∧ x ≤ 9) : ∀ {n v : Nat}, 10 ≤ v + n → nxt u (n + 1) v = nxt u n v
 | 0, v, h => by
  simp only [nxt]
  split
  ·rename_i h1; have := a3E hu h1; omega
  ·rfl
 | n + 1, v, h => by
  have ih := a6w hu (n := n) (v := v + 1) (by omega)
  show (if G2 u (v : Int) then nxt u (n + 1) (v + 1) else v) = (if G2 u (v : Int) then nxt u n (v + 1) else v)
  rw [ih]
theorem a5M {u : List Int} (hu : ∀ x ∈ u, 0 ≤ x ∧ x ≤ 9) {v : Nat} (h : G2 u (v : Int) = true) : E6 u (v + 1) = E6 u v := by
 have h1 : E6 u v = nxt u 10 (v + 1) := by unfold E6; rw [nxt, if_pos h]
 rw [h1]
 exact a6w hu (by omega)
theorem a4y {u : List Int} {v : Nat} (h : G2 u (v : Int) = false) : E6 u v = v := by
 unfold E6; rw [nxt, if_neg (by simp [h])]
theorem a5D {u u' : List Int} (h : ∀ x, G2 u x = G2 u' x) : ∀ {n v : Nat}, nxt u n v = nxt u' n v
 | 0, v => rfl
 | n + 1, v => by rw [nxt, nxt, h, a5D h]
theorem a1R {u u' : List Int} (h : ∀ x, G2 u x = G2 u' x) : E6 u = E6 u' := funext fun _ => a5D h
def fzN (u : List Int) : Nat → Nat
 | 0 => 0
 | g + 1 => E6 u (fzN u g) + 1
theorem a2W {u u' : List Int} (h : ∀ x, G2 u x = G2 u' x) : ∀ {n : Nat}, fzN u n = fzN u' n
 | 0 => rfl
 | n + 1 => by rw [fzN, fzN, a1R h, a2W h]
def a0T (u : List Int) (n : Nat) : Bool := (List.range n).all fun i => decide (E6 u (fzN u i) ≤ 9)
def C4 (u : List Int) (n : Nat) : List Int := (List.range n).map fun i => (E6 u (fzN u i) : Int)
theorem F8 {u : List Int} : C4 u 0 = [] := rfl
theorem F7 {u : List Int} {n : Nat} : C4 u (n + 1) = C4 u n ++ [(E6 u (fzN u n) : Int)] := by
 unfold C4; rw [List.range_succ, List.map_append]; rfl
theorem a0u {u : List Int} {n : Nat} : (C4 u n).length = n := by simp [C4]
theorem a6R {u : List Int} {i n : Nat} (h : i < n) (h2 : ¬ E6 u (fzN u i) ≤ 9) : a0T u n = false := by
 rw [← Bool.not_eq_true, a0T, List.all_eq_true]
 intro e
 have := e i (List.mem_range.2 h)
 rw [decide_eq_true_eq] at this
 exact h2 this
theorem a3e {u : List Int} {n : Nat} (h : ∀ i, i < n → E6 u (fzN u i) ≤ 9) : a0T u n = true := by
 rw [a0T, List.all_eq_true]
 intro i hi
 rw [decide_eq_true_eq]
 exact h i (List.mem_range.1 hi)
theorem a8p {u : List Int} {g : Nat} (h : ∀ i, i < g → E6 u (fzN u i) ≤ 9) : fzN u g ≤ 10 := by
 cases g with
 | zero => simp [fzN]
 | succ g => have := h g (by omega); simp only [fzN]; omega
theorem a7B {u : List Int} {g : Nat} (h : ∀ i, i < g → E6 u (fzN u i) ≤ 9) (h1 : E6 u (fzN u g) ≤ 9) : ∀ i, i < g + 1 → E6 u (fzN u i) ≤ 9 := by
 intro i hi
 rcases Nat.lt_succ_iff_lt_or_eq.1 hi with h2 | rfl
 ·exact h i h2
 ·exact h1
def w8 (l6 : List (Int × List Int)) : List Int := c6 (fun t => inR t 10 17) l6
def b0a (l6 : List (Int × List Int)) : List Int := c6 (fun t => inR t 0 9) l6
def K6 (l6 : List (Int × List Int)) (b : List Int × List Int) : List (Int × List Int) := l6.foldl (fun out a => D1 out (B2 a b)) []
theorem G7 {b : List Int × List Int} : K6 [] b = [] := rfl
theorem F9 {l6 : List (Int × List Int)} {a : Int × List Int} {b : List Int × List Int} : K6 (l6 ++ [a]) b = D1 (K6 l6 b) (B2 a b) := by simp [K6]
theorem a6U : ∀ {l6 out : List (Int × List Int)} {b : List Int × List Int}, (l6.foldl (fun out a => D1 out (B2 a b)) out).length ≤ out.length + l6.length
 | [], out, b => by simp
 | a :: l6, out, b => by
  have h1 := a6U (l6 := l6) (out := D1 out (B2 a b)) (b := b)
  have h2 := a1f (h := F5 out (B2 a b)) (p := ltF (B2 a b)) (f := B2 a b) (l := out)
  simp only [List.foldl_cons, List.length_cons]
  unfold D1 at h1 ⊢; omega
theorem a5e {l6 : List (Int × List Int)} {b : List Int × List Int} : (K6 l6 b).length ≤ l6.length := by
 have := a6U (l6 := l6) (out := []) (b := b); simpa [K6] using this
theorem a7p {n : Nat} : ∀ {l6 out : List (Int × List Int)} {b : List Int × List Int}, (∀ a ∈ l6, a.2.length ≤ n) → (∀ f ∈ out, f.2.length ≤ n) → ∀ f ∈ l6.foldl (fun out a => D1 out (B2 a b)) out, f.2.length ≤ n
 | [], out, b, _, h => h
 | a :: l6, out, b, ha, h => by
  refine a7p (l6 := l6) (out := D1 out (B2 a b)) (fun x hx => ha x (by simp [hx])) fun f hf => ?_
  rcases Y3 hf with hf | rfl
  ·exact h f hf
  ·simp only [B2, List.length_map]; exact ha a (by simp)
theorem b1f {n : Nat} {l6 : List (Int × List Int)} {b : List Int × List Int} (h : ∀ a ∈ l6, a.2.length ≤ n) : ∀ f ∈ K6 l6 b, f.2.length ≤ n := a7p h (by simp)
theorem b0w {n g : Nat} {l6 : List (Int × List Int)} {b : List Int × List Int} (h : ∀ a ∈ l6, a.2.length ≤ n) : ∀ f ∈ K6 (l6.take g) b, f.2.length ≤ n := b1f fun a ha => h a (List.mem_of_mem_take ha)
def fzB (u : List Int) (l6 : List (Int × List Int)) : Bool := a0T u (w8 l6).length
def fzV (u : List Int) (l6 : List (Int × List Int)) : List Int := cond (fzB u l6) (w8 l6) []
def fzX (u : List Int) (l6 : List (Int × List Int)) : List Int := cond (fzB u l6) (C4 u (w8 l6).length) []
def fzF (u : List Int) (l6 : List (Int × List Int)) : List (Int × List Int) := cond (fzB u l6) (K6 l6 (w8 l6, C4 u (w8 l6).length)) []
theorem a0x {l6 : List (Int × List Int)} : ∀ x ∈ b0a l6, 0 ≤ x ∧ x ≤ 9 := by
 intro x hx
 unfold b0a c6 at hx
 rw [a2z, List.mem_filter] at hx
 have := hx.2
 simpa [inR] using this
theorem a3w {l6 : List (Int × List Int)} : ∀ x ∈ w8 l6, 10 ≤ x ∧ x ≤ 17 := by
 intro x hx
 unfold w8 c6 at hx
 rw [a2z, List.mem_filter] at hx
 have := hx.2
 simpa [inR] using this
theorem a3c {u u' : List Int} (h : ∀ x, G2 u x = G2 u' x) {n : Nat} : a0T u n = a0T u' n ∧ C4 u n = C4 u' n := by
 constructor
 ·unfold a0T; congr 1; funext i; rw [a1R h, a2W h]
 ·unfold C4; congr 1; funext i; rw [a1R h, a2W h]
theorem a9h {u u' : List Int} (h : ∀ x, x ∈ u ↔ x ∈ u') : ∀ x, G2 u x = G2 u' x := by
 intro x
 rw [Bool.eq_iff_iff, Y7, Y7, h]
end Go.Proofs.YtbedienpleiamaaGreat
