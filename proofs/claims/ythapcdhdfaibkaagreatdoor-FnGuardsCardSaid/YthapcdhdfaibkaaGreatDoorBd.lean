import Derived.Test.YthapcdhdfaibkaaGreatDoorBc
import Derived.Lib.SlicesCompact
namespace Go.Proofs.YthapcdhdfaibkaaGreatDoor
open Go.RowKit
set_option linter.all false
def FnP2 {α : Type} (P : Program) (w : World) (L : List Nat) (g : FuncId) (caps : List Value) (E : Enc α) (val : List Value → Value) (p : α → α → Bool) : Prop :=
 a4Q P g ∧ ∀ w', Keep w L w' → ∀ cs x ds y, Ro w' [] E cs x → Ro w' [] E ds y → Calls P g (val cs :: val ds :: caps).toArray w' fun e w'' => e = .returned (.bool (p x y)) ∧ Ext w' w''
section
variable {P : Program} {α : Type} {E : Enc α} {w w0 : World} {L L0 Lp : List Nat} {pre rest : List HP} {g : FuncId} {caps : List Value} {val : List Value → Value} {p : α → α → Bool}
end
section
variable {P : Program} {Q : Exit → Act → World → Prop} {n : Nat} {w0 : World} {L0 : List Nat} {fr : Fr} {H : List HP} {d : Nat} {ty : TypeId} {pos : String} {af : Array Edge} {g : Option (Nat × Bool)}
end
section
variable {P : Program} {w : World} {L : List Nat} {g : FuncId} {caps : List Value} {RR : World → List Nat → Prop}
theorem c0x {p : IL → IL → Bool} (tr : ∀ {x0 : Int} {ax1 : Option Addr} {mx1 cx1 : Nat} {x1 : List Int} {y0 : Int} {ay1 : Option Addr} {my1 cy1 : Nat} {y1 : List Int}, Tr P g (.agg #[.int .i64 x0, .slice ax1 mx1 cx1] :: .agg #[.int .i64 y0, .slice ay1 my1 cy1] :: caps) (fun w L => (I64 x0 ∧ Ro w L eIs [.slice ax1 mx1 cx1] x1 ∧ I64 y0 ∧ Ro w L eIs [.slice ay1 my1 cy1] y1) ∧ RR w L) [] (κ := Unit) (fun _ => True) (fun _ => .bool (p (x0, x1) (y0, y1))) (fun _ => [])) (hR : ∀ w', Keep w L w' → RR w' []) : FnP2 P w L g caps J8 a0P p :=
 ⟨(tr (x0 := 0) (x1 := []) (ax1 := none) (mx1 := 0) (cx1 := 0) (y0 := 0) (y1 := []) (ay1 := none) (my1 := 0) (cy1 := 0)).1, fun w' k cs x ds y hx hy => by obtain ⟨a0, c0, rfl, h0, h1⟩ := W4 hx; obtain ⟨b0, e0, rfl, k0, k1⟩ := W4 hy; exact Tr.bool tr ⟨⟨h0, h1, k0, k1⟩, hR w' k⟩⟩
theorem b9j {p : IL → IL → Bool} (tr : ∀ {x0 : Int} {ax1 : Option Addr} {mx1 cx1 : Nat} {x1 : List Int} {y0 : Int} {ay1 : Option Addr} {my1 cy1 : Nat} {y1 : List Int}, Tr P g (.agg #[.int .i64 x0, .slice ax1 mx1 cx1] :: .agg #[.int .i64 y0, .slice ay1 my1 cy1] :: caps) (fun w L => (I64 x0 ∧ Ro w L eIs [.slice ax1 mx1 cx1] x1 ∧ I64 y0 ∧ Ro w L eIs [.slice ay1 my1 cy1] y1) ∧ RR w L) [] (κ := Unit) (fun _ => True) (fun _ => .bool (p (x0, x1) (y0, y1))) (fun _ => [])) (hR : ∀ w', Keep w L w' → RR w' []) : FnP2 P w L g caps T3 a0P p :=
 ⟨(tr (x0 := 0) (x1 := []) (ax1 := none) (mx1 := 0) (cx1 := 0) (y0 := 0) (y1 := []) (ay1 := none) (my1 := 0) (cy1 := 0)).1, fun w' k cs x ds y hx hy => by obtain ⟨a0, c0, rfl, h0, h1⟩ := X7 hx; obtain ⟨b0, e0, rfl, k0, k1⟩ := X7 hy; exact Tr.bool tr ⟨⟨h0, h1, k0, k1⟩, hR w' k⟩⟩
theorem c0w {p : IL → IL → Bool} (tr : ∀ {x0 : Int} {ax1 : Option Addr} {mx1 cx1 : Nat} {x1 : List Int} {y0 : Int} {ay1 : Option Addr} {my1 cy1 : Nat} {y1 : List Int}, Tr P g (.agg #[.int .i64 x0, .slice ax1 mx1 cx1] :: .agg #[.int .i64 y0, .slice ay1 my1 cy1] :: caps) (fun w L => (I64 x0 ∧ Ro w L eIs [.slice ax1 mx1 cx1] x1 ∧ I64 y0 ∧ Ro w L eIs [.slice ay1 my1 cy1] y1) ∧ RR w L) [] (κ := Unit) (fun _ => True) (fun _ => .bool (p (x0, x1) (y0, y1))) (fun _ => [])) (hR : ∀ w', Keep w L w' → RR w' []) : FnP2 P w L g caps a1d a0P p :=
 ⟨(tr (x0 := 0) (x1 := []) (ax1 := none) (mx1 := 0) (cx1 := 0) (y0 := 0) (y1 := []) (ay1 := none) (my1 := 0) (cy1 := 0)).1, fun w' k cs x ds y hx hy => by obtain ⟨a0, c0, rfl, h0, h1⟩ := L5 hx; obtain ⟨b0, e0, rfl, k0, k1⟩ := L5 hy; exact Tr.bool tr ⟨⟨h0, h1, k0, k1⟩, hR w' k⟩⟩
theorem c1B {p : List Int → List Int → Bool} (tr : ∀ {ax : Option Addr} {mx cx : Nat} {x : List Int} {ay : Option Addr} {my cy : Nat} {y : List Int}, Tr P g (.slice ax mx cx :: .slice ay my cy :: caps) (fun w L => (Ro w L eIs [.slice ax mx cx] x ∧ Ro w L eIs [.slice ay my cy] y) ∧ RR w L) [] (κ := Unit) (fun _ => True) (fun _ => .bool (p x y)) (fun _ => [])) (hR : ∀ w', Keep w L w' → RR w' []) : FnP2 P w L g caps eIs a7s p :=
 ⟨(tr (ax := none) (mx := 0) (cx := 0) (x := []) (ay := none) (my := 0) (cy := 0) (y := [])).1, fun w' k cs x ds y hx hy => by obtain ⟨a, c, rfl⟩ := hx.sl; obtain ⟨b, e, rfl⟩ := hy.sl; exact (tr (x := x) (y := y)).bool ⟨⟨hx, hy⟩, hR w' k⟩⟩
end
end Go.Proofs.YthapcdhdfaibkaaGreatDoor

namespace Go.Proofs.YthapcdhdfaibkaaGreatDoor
open Go.RowKit
set_option linter.all false
def owd {α : Type} (e : TypeId) (E : Enc α) (a : Option Addr) (m c : Nat) (xs : List α) (j : Nat) : HP where
 holds w L := ∃ c1 c2 L1 L2, L = L1 ++ L2 ∧ m = xs.length ∧ m ≤ maxLen ∧ c1.length = j * E.k ∧ D8 E w c2 (xs.drop j) L2 true ∧ (row e E.k a m c (c1 ++ c2)).holds w L1
 stable := by
  rintro w w' L ⟨c1, c2, L1, L2, rfl, h1, h2, h3, h4, h5⟩ hb
  exact ⟨c1, c2, L1, L2, rfl, h1, h2, h3, h4.stable fun b h => hb b (by simp [h]), (row e E.k a m c _).stable h5 fun b h => hb b (by simp [h])⟩
 inh := by
  rintro w L ⟨c1, c2, L1, L2, rfl, h1, h2, h3, h4, h5⟩ b hb
  rcases List.mem_append.1 hb with hb | hb
  ·exact (row e E.k a m c _).inh h5 b hb
  ·exact h4.inh b hb
def owt {α : Type} (e : TypeId) (E : Enc α) (a : Option Addr) (m c : Nat) (xs : List α) (j : Nat) (ce : List Value) : HP where
 holds w L := ∃ c1 c2 L1 L2, L = L1 ++ L2 ∧ m = xs.length ∧ m ≤ maxLen ∧ j < xs.length ∧ ce.length = E.k ∧ c1.length = j * E.k ∧ D8 E w c2 (xs.drop (j + 1)) L2 true ∧ (row e E.k a m c (c1 ++ (ce ++ c2))).holds w L1
 stable := by
  rintro w w' L ⟨c1, c2, L1, L2, rfl, h1, h2, h0, h6, h3, h4, h5⟩ hb
  exact ⟨c1, c2, L1, L2, rfl, h1, h2, h0, h6, h3, h4.stable fun b h => hb b (by simp [h]), (row e E.k a m c _).stable h5 fun b h => hb b (by simp [h])⟩
 inh := by
  rintro w L ⟨c1, c2, L1, L2, rfl, h1, h2, h0, h6, h3, h4, h5⟩ b hb
  rcases List.mem_append.1 hb with hb | hb
  ·exact (row e E.k a m c _).inh h5 b hb
  ·exact h4.inh b hb
section
variable {n : Nat} {w0 : World} {L0 : List Nat} {fr : Fr} {H R : List HP} {G : Act → World → Prop} {α : Type} {E : Enc α} {e : TypeId} {a : Option Addr} {m c : Nat} {xs : List α} {j : Nat}
theorem a8b (h : Ent n w0 L0 fr (owd e E a m c xs 0 :: R) G) : Ent n w0 L0 fr (ow (Enc.sl e E) [.slice a m c] xs :: R) G := fun ac w h1 h2 => by
 obtain ⟨L, ⟨Lo, LR, rfl, ho, hR⟩, hn, hst⟩ := h2
 obtain ⟨ccs, L1, L2, rfl, g1, g2, g3, g4⟩ := a1l ho
 exact h ac w h1 ⟨(L1 ++ L2) ++ LR, ⟨L1 ++ L2, LR, rfl, ⟨[], ccs, L1, L2, rfl, g1, g2, by simp, g3, g4⟩, hR⟩, hn, hst⟩
theorem a8e (hj : j < xs.length) (h : ∀ ce, Ent n w0 L0 fr (owt e E a m c xs j ce :: ow E ce xs[j] :: R) G) : Ent n w0 L0 fr (owd e E a m c xs j :: R) G := fun ac w h1 h2 => by
 obtain ⟨L, ⟨Lo, LR, rfl, ⟨c1, c2, L1, L2, rfl, g1, g2, g3, g4, g5⟩, hR⟩, hn, hst⟩ := h2
 rw [List.drop_eq_getElem_cons hj] at g4
 obtain ⟨d1, d2, N1, N2, rfl, rfl, k1, k2⟩ := g4
 have hperm : (L1 ++ (N1 ++ N2) ++ LR).Perm ((L1 ++ N2) ++ (N1 ++ LR)) := by
  simp only [List.append_assoc]
  refine List.Perm.append_left L1 ?_
  rw [← List.append_assoc, ← List.append_assoc]
  exact (List.perm_append_comm).append_right LR
 exact h d1 ac w h1 ⟨(L1 ++ N2) ++ (N1 ++ LR), ⟨_, _, rfl, ⟨c1, d2, L1, N2, rfl, g1, g2, hj, E.len k1, g3, k2, g5⟩, N1, LR, rfl, k1, hR⟩, hperm.nodup_iff.1 hn, hst.sublist fun b hb => hperm.mem_iff.2 hb⟩
theorem a1N {ce : List Value} (h : Ent n w0 L0 fr (owd e E a m c xs (j + 1) :: R) G) : Ent n w0 L0 fr (owt e E a m c xs j ce :: R) G := fun ac w h1 h2 => by
 obtain ⟨L, ⟨Lo, LR, rfl, ⟨c1, c2, L1, L2, rfl, g1, g2, g0, g6, g3, g4, g5⟩, hR⟩, hn, hst⟩ := h2
 exact h ac w h1 ⟨(L1 ++ L2) ++ LR, ⟨L1 ++ L2, LR, rfl, ⟨c1 ++ ce, c2, L1, L2, rfl, g1, g2, by rw [List.length_append, g3, g6, Nat.succ_mul], g4, by rw [List.append_assoc]; exact g5⟩, hR⟩, hn, hst⟩
theorem Has.owt {ce : List Value} {b o : Nat} (ha : a = some ⟨b, o, none⟩) (hm : Go.Proofs.YthapcdhdfaibkaaGreatDoor.owt e E a m c xs j ce ∈ H) : Has w0 L0 H b (o + j * E.k) ce := fun w h => by
 obtain ⟨L', c1, c2, L1, L2, _, g1, g2, hj, g6, g3, g4, h0, g8⟩ := h.mem hm
 rcases g8 with ⟨_, h, _⟩ | ⟨g', cur, h2, h3, h4, h5, h6, h7, _⟩
 ·omega
 rw [ha] at h2; cases h2
 intro i v hi
 have hi' : (c1 ++ (ce ++ c2))[j * E.k + i]? = some v := by
  rw [← g3, List.getElem?_append_right (by omega), show c1.length + i - c1.length = i from by omega]
  rw [List.getElem?_append_left (by exact (List.getElem?_eq_some_iff.1 hi).1)]; exact hi
 rw [← h7, List.getElem?_take] at hi'
 split at hi'
 ·simpa [World.cell?, h3] using hi'
 ·cases hi'
theorem a6A (hm : owd e E a m c xs j ∈ H) (hlt : 0 < m) (h : ∀ b, a = some ⟨b, 0, none⟩ → Ent n w0 L0 fr H G) : Ent n w0 L0 fr H G := fun ac w h1 h2 => by
 obtain ⟨L, hL⟩ := h2.mem hm
 obtain ⟨c1, c2, L1, L2, _, g1, g2, _, _, g4⟩ := hL
 rcases g4.2 with ⟨_, h0, _⟩ | ⟨g, cur, h3, _⟩
 ·omega
 ·exact h g h3 ac w h1 h2
end
theorem a0D.has {w1 w0 : World} {L1 L0 : List Nat} {b off : Nat} {cs : List Value} (h : a0D w1 L1 w0 L0) (k : ∀ H, Has w0 L0 H b off cs) : ∀ H, Has w1 L1 H b off cs := fun H w hw => k H w (h H w hw)
theorem frB {a b : Bool} (h : a = b) : some (Value.bool a) = some (Value.bool b) := by rw [h]
end Go.Proofs.YthapcdhdfaibkaaGreatDoor

namespace Go.Proofs.YthapcdhdfaibkaaGreatDoor
set_option linter.all false
def V0 (a b : Int) : Int := if a < b then -1 else if b < a then 1 else 0
def K5 : List Int → List Int → Int
 | [], [] => 0
 | [], _ :: _ => -1
 | _ :: _, [] => 1
 | a :: l, b :: m => if V0 a b ≠ 0 then V0 a b else K5 l m
def orI : List Int → Int
 | [] => 0
 | x :: l => if x ≠ 0 then x else orI l
def T7 (a b : IL) : Int := if V0 a.1 b.1 ≠ 0 then V0 a.1 b.1 else K5 a.2 b.2
theorem b2U {a b : Int} : I64 (V0 a b) := by unfold V0 I64; split; omega; split <;> omega
theorem b2c : ∀ {l m : List Int}, I64 (K5 l m)
 | [], [] => by unfold K5 I64; omega
 | [], _ :: _ => by unfold K5 I64; omega
 | _ :: _, [] => by unfold K5 I64; omega
 | a :: l, b :: m => by unfold K5; split; exact b2U; exact b2c
theorem b0P {a b : Int} : V0 a b = 0 ↔ a = b := by unfold V0; grind
theorem a5c : ∀ {l m : List Int}, K5 l m = 0 ↔ l = m
 | [], [] => by simp [K5]
 | [], _ :: _ => by simp [K5]
 | _ :: _, [] => by simp [K5]
 | a :: l, b :: m => by
  have := b0P (a := a) (b := b)
  have h2 := a5c (l := l) (m := m)
  unfold K5; grind
theorem a3M {a b : IL} : T7 a b = 0 ↔ a = b := by
 have h1 := b0P (a := a.1) (b := b.1)
 have h2 := a5c (l := a.2) (m := b.2)
 unfold T7
 rcases a with ⟨a1, a2⟩; rcases b with ⟨b1, b2⟩
 grind
def eqP {α : Type} (p : α → α → Bool) : List α → List α → Bool
 | [], [] => true
 | a :: l, b :: m => p a b && eqP p l m
 | _, _ => false
end Go.Proofs.YthapcdhdfaibkaaGreatDoor

namespace Go.Proofs.YthapcdhdfaibkaaGreatDoor
set_option linter.all false
def N9 (l : List IL) (f : IL) : Bool := l.any fun z => decide (T7 z f = 0)
def O8 (a : IL) (b : List Int × List Int) : IL := (a.1, a.2.map (F6 b))
def c2N (q : List Int × List IL) (d6 : List IL) (head : List Int) (b : List Int × List Int) : Bool :=
 decide (b.1.length = b.2.length) && (decide (q.1.map (F6 b) = head) && !q.2.any fun a => !N9 d6 (O8 a b))
theorem Ro.i64A {w : World} {L : List Nat} {e : TypeId} {a : Option Addr} {m c : Nat} {xs : List IL} (h : Ro w L (Enc.sl e (Enc.pair Enc.int (Enc.sl tI Enc.int))) [.slice a m c] xs) : ∀ x ∈ xs, I64 x.1 ∧ ∀ y ∈ x.2, I64 y := by
 intro x hx
 obtain ⟨i, hi, rfl⟩ := List.getElem_of_mem hx
 obtain ⟨_, _, ci, _, h1, _⟩ := h.elem i hi
 obtain ⟨c1, c2, rfl, h2, h3⟩ := h1.pair
 obtain ⟨a', c', rfl⟩ := h3.sl
 exact ⟨h2.int.2, h3.i64⟩
theorem b8I {α : Type} {t : α → Nat} {l : List α} {n : Nat} (h : O1 t l ≤ n) : ∀ x ∈ l, t x ≤ n := by
 intro x hx
 obtain ⟨i, hi, rfl⟩ := List.getElem_of_mem hx
 exact Nat.le_trans (b6y hi) h
theorem a7j {l : List IL} {n : Nat} (h : O1 (fun x => x.2.length) l ≤ n) : ∀ x ∈ l, x.2.length ≤ n := b8I h
end Go.Proofs.YthapcdhdfaibkaaGreatDoor

namespace Go.Proofs.YthapcdhdfaibkaaGreatDoor
set_option linter.all false
def G3 {α : Type} (r : α → α → Bool) : List α → Bool
 | a :: b :: l => r a b && G3 r (b :: l)
 | _ => true
theorem b5q {α : Type} {l : List α} {g : Nat} (h : g < l.length) (h0 : 0 < g) : l.drop (g - 1) = l[g - 1] :: l[g] :: l.drop (g + 1) := by
 rw [List.drop_eq_getElem_cons (by omega), show g - 1 + 1 = g by omega, List.drop_eq_getElem_cons h]
def ltB (a b : Int) : Bool := decide (a < b)
theorem K0 {α : Type} {r : α → α → Bool} {l : List α} {g : Nat} (h : g < l.length) (h0 : 0 < g) : G3 r (l.drop (g - 1)) = (r l[g - 1] l[g] && G3 r (l.drop g)) := by
 rw [b5q h h0, G3, ← List.drop_eq_getElem_cons h]
theorem J9 {α : Type} {r : α → α → Bool} {l : List α} {g : Nat} (h : g = 0) : G3 r (l.drop (g - 1)) = G3 r (l.drop g) := by subst h; rfl
theorem L9 {α : Type} {r : α → α → Bool} {l : List α} {g : Nat} (h : l.length ≤ g) : G3 r (l.drop (g - 1)) = true := by
 have : (l.drop (g - 1)).length ≤ 1 := by simp; omega
 match l.drop (g - 1), this with
 | [], _ => rfl
 | [x], _ => rfl
 | x :: y :: z, h => simp at h
def a0T (m : Int × List Int × Int × Int × Int) (ar : Int) : Bool :=
 G3 ltB m.2.1 && (a0m m.2.1 ar && (inR m.2.2.1 0 9 && (inR m.2.2.2.1 0 99 && inR m.2.2.2.2 1 99)))
def V3 (s : List Int) (m : Int × List Int × Int × Int × Int) : Bool := P2 s m.1 && a0T m (at0 s m.1)
def J3 (s : List Int) (l : List (Int × List Int × Int × Int × Int)) : Bool := U9 s && (decide ((l.length : Int) ≤ 5) && !l.any fun m => !V3 s m)
def a7W (v : List Int) : Bool := G3 ltB v && V4 v
def W6 (l : List IL) (a : IL) : Bool := l.any fun z => decide (z = a)
def M5 (N8 : List Int) : Nat → List (List Int)
 | 0 => [[]]
 | n + 1 => (M5 N8 n).flatMap fun l => N8.map fun v => l ++ [v]
def V6 (N8 : List Int) (log : List IL) (i : Int) (k : Nat) : List IL :=
 ((M5 N8 k).filter fun v => !W6 log (i, v)).map fun v => (i, v)
def U1 (N8 : List Int) (log : List IL) : List (Int × List Int × Int × Int × Int) → Int → List IL
 | [], _ => []
 | m :: l, i => (if m.2.2.1 ≠ 0 then [] else V6 N8 log i m.2.1.length) ++ U1 N8 log l (i + 1)
def W3 (s : List Int) (l : List (Int × List Int × Int × Int × Int)) (N8 : List Int) (log : List IL) : List IL :=
 if J3 s l && a7W N8 then U1 N8 log l 0 else []
theorem b1o : ∀ {l : List Int} {a b : Int}, G3 ltB l = true → (∀ x ∈ l, a ≤ x ∧ x ≤ b) → a ≤ b + 1 → (l.length : Int) ≤ b - a + 1
 | [], _, _, _, _, _ => by simp; omega
 | [x], a, b, _, h, _ => by have := h x (by simp); simp; omega
 | x :: y :: l, a, b, hc, h, hab => by
  simp only [G3, ltB, Bool.and_eq_true, decide_eq_true_eq] at hc
  have hx := h x (by simp)
  have hge : ∀ z ∈ y :: l, x + 1 ≤ z := by
   have : ∀ {l : List Int} {y : Int}, G3 ltB (y :: l) = true → ∀ z ∈ y :: l, y ≤ z := by
    intro l
    induction l with
    | nil => intro y _ z hz; simp at hz; omega
    | cons u l ih =>
     intro y hc z hz
     simp only [G3, ltB, Bool.and_eq_true, decide_eq_true_eq] at hc
     rcases List.mem_cons.1 hz with rfl | hz
     ·omega
     ·have := ih hc.2 z hz; omega
   intro z hz
   have := this hc.2 z hz; omega
  have := b1o (l := y :: l) (a := x + 1) (b := b) hc.2 (fun z hz => ⟨hge z hz, (h z (by simp only [List.mem_cons] at hz ⊢; exact .inr hz)).2⟩) (by omega)
  simp only [List.length_cons] at this ⊢; omega
theorem b4S {s : List Int} {m : Int × List Int × Int × Int × Int} (h : V3 s m = true) : m.2.1.length ≤ 3 := by
 simp only [V3, a0T, a0m, Bool.and_eq_true, Bool.not_eq_true', List.any_eq_false] at h
 have h1 := a0N h.1
 have := b1o (a := 0) (b := at0 s m.1 - 1) h.2.1 (fun x hx => by have := h.2.2.1 x hx; simpa [inR] using this) (by simp only [at0]; omega)
 simp only [at0] at this; omega
theorem a0H {s : List Int} {l : List (Int × List Int × Int × Int × Int)} (h : J3 s l = true) : (∀ m ∈ l, m.2.1.length ≤ 3) ∧ l.length ≤ 5 := by
 simp only [J3, Bool.and_eq_true, Bool.not_eq_true', List.any_eq_false, decide_eq_true_eq] at h
 refine ⟨fun m hm => b4S (s := s) ?_, by omega⟩
 have := h.2.2 m hm
 simpa using this
theorem a8x {α : Type} {c : α → Nat} {n : Nat} : ∀ {l : List α}, (∀ x ∈ l, c x ≤ n) → H2 c l ≤ l.length * n
 | [], _ => by simp [H2]
 | x :: l, h => by
  have h1 := a8x (c := c) (n := n) (l := l) fun y hy => h y (by simp [hy])
  have h2 := h x (by simp)
  simp only [H2, List.map_cons, List.sum_cons, List.length_cons, Nat.succ_mul] at h1 ⊢; omega
end Go.Proofs.YthapcdhdfaibkaaGreatDoor

namespace Go.Proofs.YthapcdhdfaibkaaGreatDoor
set_option linter.all false
def R9 {α : Type} (p : α → Bool) (f : α) : List α → List α
 | [] => []
 | x :: l => if p x then f :: x :: l else x :: R9 p f l
def X4 {α : Type} (has : Bool) (p : α → Bool) (f : α) (l : List α) : List α := if has then l else if l.any p then R9 p f l else l ++ [f]
section
variable {α : Type} {p q : α → Bool} {f : α}
theorem a0u : ∀ {l : List α}, l.any p = false → R9 p f l = l
 | [], _ => rfl
 | x :: l, h => by
  simp only [List.any_cons, Bool.or_eq_false_iff] at h
  simp [R9, h.1, a0u h.2]
theorem Y3 : ∀ {l : List α} {y : α}, R9 p f (l ++ [y]) = if l.any p then R9 p f l ++ [y] else if p y then l ++ [f, y] else l ++ [y]
 | [], y => by simp [R9]
 | x :: l, y => by
  have h := Y3 (l := l) (y := y)
  simp only [List.cons_append, R9, List.any_cons, h]
  cases p x <;> cases l.any p <;> cases p y <;> simp
theorem a6d : ∀ {l : List α}, (R9 p f l).length ≤ l.length + 1
 | [] => by simp [R9]
 | x :: l => by
  have := a6d (l := l)
  simp only [R9]; split <;> simp <;> omega
theorem a4p {h : Bool} {l : List α} : (X4 h p f l).length ≤ l.length + 1 := by
 have := a6d (p := p) (f := f) (l := l)
 unfold X4; split; omega; split; omega; simp
theorem a6n {h : Bool} {l : List α} {y : α} (hy : y ∈ X4 h p f l) : y ∈ l ∨ y = f := by
 have ins : ∀ {l : List α}, y ∈ R9 p f l → y ∈ l ∨ y = f := by
  intro l
  induction l with
  | nil => simp [R9]
  | cons x l ih =>
   intro h
   simp only [R9] at h
   split at h
   ·simp only [List.mem_cons] at h ⊢; rcases h with h | h | h <;> simp [h]
   ·simp only [List.mem_cons] at h ⊢
    rcases h with h | h
    ·simp [h]
    ·rcases ih h with h | h <;> simp [h]
 unfold X4 at hy
 split at hy
 ·exact .inl hy
 ·split at hy
  ·exact ins hy
  ·simpa using hy
theorem b2I {l : List α} (hpq : ∀ y ∈ l, p y = q y) : X4 false p f l = l.take (if J0 q l < 0 then l.length else (J0 q l).toNat) ++ f :: l.drop (if J0 q l < 0 then l.length else (J0 q l).toNat) := by
 have ha : l.any p = l.any q := by
  induction l with
  | nil => rfl
  | cons x l ih => simp [List.any_cons, hpq x (by simp), ih fun y hy => hpq y (by simp [hy])]
 unfold X4 J0
 rw [ha]
 by_cases h : l.any q = true
 ·simp only [h, if_true, Bool.false_eq_true, if_false]
  rw [if_neg (by omega), Int.toNat_natCast]
  clear ha
  induction l with
  | nil => simp at h
  | cons x l ih =>
   simp only [R9, List.findIdx_cons, hpq x (by simp)]
   cases hq : q x with
   | true => simp
   | false =>
    simp only [List.any_cons, hq, Bool.false_or] at h
    simp [ih (fun y hy => hpq y (by simp [hy])) h]
 ·simp [h]
end
def I8 (l : List Int) (x : Int) : Bool := l.any fun y => decide (y = x)
def R5 (l : List Int) (x : Int) : List Int := X4 (I8 l x) (fun y => decide (x < y)) x l
def a0w (l : List Int) : List Int := l.foldl R5 []
theorem b3V : ∀ {a b : List Int}, a.Pairwise (· < ·) → b.Pairwise (· < ·) → (∀ x, x ∈ a ↔ x ∈ b) → a = b
 | [], [], _, _, _ => rfl
 | [], y :: b, _, _, h => by have := (h y).2 (by simp); simp at this
 | x :: a, [], _, _, h => by have := (h x).1 (by simp); simp at this
 | x :: a, y :: b, ha, hb, h => by
  rw [List.pairwise_cons] at ha hb
  have e : x = y := by
   have h1 := (h x).1 (by simp)
   have h2 := (h y).2 (by simp)
   simp only [List.mem_cons] at h1 h2
   rcases h1 with h1 | h1
   ·exact h1
   ·rcases h2 with h2 | h2
    ·exact h2.symm
    ·have := hb.1 x h1; have := ha.1 y h2; omega
  subst e
  rw [b3V ha.2 hb.2 fun z => ?_]
  have := h z
  simp only [List.mem_cons] at this
  constructor
  ·intro hz
   rcases this.1 (.inr hz) with e | e
   ·have := ha.1 z hz; omega
   ·exact e
  ·intro hz
   rcases this.2 (.inr hz) with e | e
   ·have := hb.1 z hz; omega
   ·exact e
theorem b5z {l : List Int} {x : Int} (h : l.Pairwise (· < ·)) : (R5 l x).Pairwise (· < ·) ∧ ∀ y, y ∈ R5 l x ↔ y ∈ l ∨ y = x := by
 have ins : ∀ {l : List Int}, l.Pairwise (· < ·) → x ∉ l → (if (l.any fun y => decide (x < y)) then R9 (fun y => decide (x < y)) x l else l ++ [x]).Pairwise (· < ·) ∧ ∀ y, y ∈ (if (l.any fun y => decide (x < y)) then R9 (fun y => decide (x < y)) x l else l ++ [x]) ↔ y ∈ l ∨ y = x := by
  intro l
  induction l with
  | nil => intro _ _; simp
  | cons z l ih =>
   intro h hx
   rw [List.pairwise_cons] at h
   simp only [List.mem_cons, not_or] at hx
   have ih' := ih h.2 hx.2
   by_cases hz : x < z
   ·simp only [List.any_cons, hz, decide_true, Bool.true_or, if_true, R9]
    refine ⟨?_, fun y => by simp only [List.mem_cons]; constructor <;> (intro h; rcases h with h | h | h) <;> simp [h]⟩
    rw [List.pairwise_cons, List.pairwise_cons]
    refine ⟨fun y hy => ?_, h⟩
    simp only [List.mem_cons] at hy
    rcases hy with rfl | hy
    ·exact hz
    ·have := h.1 y hy; omega
   ·simp only [List.any_cons, hz, decide_false, Bool.false_or, R9, Bool.false_eq_true, if_false]
    have e : (if (l.any fun y => decide (x < y)) then z :: R9 (fun y => decide (x < y)) x l else z :: l ++ [x]) = z :: (if (l.any fun y => decide (x < y)) then R9 (fun y => decide (x < y)) x l else l ++ [x]) := by split <;> simp
    rw [e]
    refine ⟨?_, fun y => by rw [List.mem_cons, ih'.2 y, List.mem_cons, or_assoc]⟩
    rw [List.pairwise_cons]
    refine ⟨fun y hy => ?_, ih'.1⟩
    rcases (ih'.2 y).1 hy with hy | rfl
    ·exact h.1 y hy
    ·omega
 unfold R5 X4 I8
 by_cases hx : x ∈ l
 ·have : (l.any fun y => decide (y = x)) = true := List.any_eq_true.2 ⟨x, hx, by simp⟩
  rw [if_pos this]
  exact ⟨h, fun y => ⟨.inl, fun e => by rcases e with e | rfl; exact e; exact hx⟩⟩
 ·have : ¬ (l.any fun y => decide (y = x)) = true := fun e => by
   obtain ⟨y, hy, e⟩ := List.any_eq_true.1 e
   simp at e; subst e; exact hx hy
  rw [if_neg this]
  exact ins h hx
theorem a6Y : ∀ {l s : List Int}, s.Pairwise (· < ·) → (l.foldl R5 s).Pairwise (· < ·) ∧ ∀ y, y ∈ l.foldl R5 s ↔ y ∈ s ∨ y ∈ l
 | [], s, h => ⟨h, by simp⟩
 | x :: l, s, h => by
  have h1 := b5z (x := x) h
  have h2 := a6Y (l := l) h1.1
  refine ⟨h2.1, fun y => ?_⟩
  rw [List.foldl_cons, h2.2 y, h1.2 y, List.mem_cons, or_assoc]
theorem b7p {l : List Int} : (a0w l).Pairwise (· < ·) := (a6Y .nil).1
theorem a2L {l : List Int} {y : Int} : y ∈ a0w l ↔ y ∈ l := by rw [a0w, (a6Y .nil).2 y]; simp
theorem b2b {l : List Int} : (a0w l).length ≤ l.length := by
 have : ∀ {l s : List Int}, (l.foldl R5 s).length ≤ s.length + l.length := by
  intro l
  induction l with
  | nil => intro s; simp
  | cons x l ih => intro s; have := ih (s := R5 s x); have h2 := a4p (h := I8 s x) (p := fun y => decide (x < y)) (f := x) (l := s); simp only [List.foldl_cons, List.length_cons]; unfold R5 at *; omega
 have h := this (l := l) (s := [])
 simpa [a0w] using h
theorem b0c {d : List Int} (hd : d.Pairwise (· ≤ ·)) : (Lib.compact d).Pairwise (· < ·) ∧ ∀ y, y ∈ Lib.compact d ↔ y ∈ d := by
 have hle : ∀ i j, (hij : i ≤ j) → (hj : j < d.length) → d[i]'(by omega) ≤ d[j]'hj := by
  intro i j hij hj
  rcases Nat.lt_or_eq_of_le hij with h | h
  ·exact List.pairwise_iff_getElem.1 hd i j (by omega) hj h
  ·subst h; exact Int.le_refl _
 have hget : ∀ i, (h : i < d.length) → d.toArray[i]! = d[i] := by intro i h; simp [h]
 have key : ∀ m, m ≤ d.length → (Lib.compactUpTo d.toArray m).Pairwise (· < ·) ∧ ∀ y, y ∈ Lib.compactUpTo d.toArray m ↔ y ∈ d.take m := by
  intro m
  induction m with
  | zero => intro _; simp [Lib.compactUpTo]
  | succ m ih =>
   intro hm
   obtain ⟨h1, h2⟩ := ih (by omega)
   have hmem : ∀ y, y ∈ d.take (m + 1) ↔ y ∈ d.take m ∨ y = d[m] := by
    intro y; rw [List.take_succ_eq_append_getElem (show m < d.length by omega), List.mem_append, List.mem_singleton]
   rw [Lib.compactUpTo_succ, hget m (by omega)]
   by_cases hk : Lib.keeps d.toArray m = true
   ·rw [if_pos hk]
    refine ⟨List.pairwise_append.2 ⟨h1, by simp, fun a ha b hb => ?_⟩, fun y => by rw [List.mem_append, h2 y, hmem y]; simp⟩
    simp only [List.mem_singleton] at hb
    subst hb
    rw [h2 a, List.mem_take_iff_getElem] at ha
    obtain ⟨i, hi, rfl⟩ := ha
    have hi' : i < m := by omega
    have e1 := hle i (m - 1) (by omega) (by omega)
    have e2 := hle (m - 1) m (by omega) (by omega)
    have e3 : d[m - 1]'(by omega) ≠ d[m] := by
     intro e
     have := Lib.keeps_neg (d := d.toArray) (m := m) (by omega) (by rw [hget m (by omega), hget (m - 1) (by omega), e])
     rw [this] at hk; cases hk
    omega
   ·rw [if_neg hk, List.append_nil]
    refine ⟨h1, fun y => ?_⟩
    rw [h2 y, hmem y]
    refine ⟨.inl, fun h => h.elim id ?_⟩
    rintro rfl
    have h0 : 0 < m := by
     rcases Nat.eq_zero_or_pos m with e | e
     ·subst e; exact absurd (Lib.keeps_lt_one d.toArray 0 (by omega)) hk
     ·exact e
    have e3 : d[m - 1]'(by omega) = d[m] := by
     refine Classical.byContradiction fun e => hk (Lib.keeps_pos ?_)
     rw [hget m (by omega), hget (m - 1) (by omega)]
     exact fun e' => e e'.symm
    rw [List.mem_take_iff_getElem]
    exact ⟨m - 1, by omega, e3⟩
 have := key d.length (Nat.le_refl _)
 simpa [Lib.compact] using this
theorem a1p {l : List Int} : Lib.compact (l.mergeSort fun x y => decide (x ≤ y)) = a0w l := by
 have hs : (l.mergeSort fun x y => decide (x ≤ y)).Pairwise (· ≤ ·) := by
  have := List.pairwise_mergeSort (le := fun x y : Int => decide (x ≤ y)) (by intro a b c; simp only [decide_eq_true_eq]; omega) (by intro a b; simp only [Bool.or_eq_true, decide_eq_true_eq]; omega) l
  exact this.imp fun h => by simpa using h
 have h := b0c hs
 refine b3V h.1 b7p fun x => ?_
 rw [h.2 x, a2L]
 exact (List.mergeSort_perm l _).mem_iff
end Go.Proofs.YthapcdhdfaibkaaGreatDoor

namespace Go.Proofs.YthapcdhdfaibkaaGreatDoor
set_option linter.all false
theorem b7U {P : Program} {f : FuncId} {args : List Value} {RR RR' : World → List Nat → Prop} {pre : List HP} {κ : Type} {φ : κ → Prop} {ret : κ → Value} {post : κ → List HP} (h : Tr P f args RR pre φ ret post) (hR : ∀ w L, RR' w L → RR w L) : Tr P f args RR' pre φ ret post :=
 ⟨h.1, fun w L hr hs hn => h.2 w L (hR w L hr) hs hn⟩
theorem a2I {l m : List Int} : a0w (l ++ m) = m.foldl R5 (a0w l) := by unfold a0w; rw [List.foldl_append]
theorem a2U {l : List Int} {x : Int} : a0w (l ++ [x]) = R5 (a0w l) x := by rw [a2I]; rfl
theorem a2a {l : List Int} {x : Int} : I8 l x = true ↔ x ∈ l := by
 unfold I8
 rw [List.any_eq_true]
 constructor
 ·rintro ⟨y, hy, e⟩; simp at e; subst e; exact hy
 ·intro h; exact ⟨x, h, by simp⟩
def u7 (is : Int → Bool) (d9 : List IL) : List Int := a0w ((d9.flatMap fun a => a.2).filter is)
theorem a9d : ∀ {l : List IL}, (l.flatMap fun a => a.2).length = H2 (fun x => x.2.length) l
 | [] => rfl
 | a :: l => by simp only [List.flatMap_cons, List.length_append, a9d (l := l), H2, List.map_cons, List.sum_cons]
theorem b5Z {is : Int → Bool} {d9 : List IL} {g : Nat} (hz : O1 (fun x => x.2.length) d9 ≤ 1048576) : (((d9.take g).flatMap fun a => a.2).filter is).length ≤ 1048576 := by
 have h1 := List.length_filter_le is ((d9.take g).flatMap fun a => a.2)
 have h2 := b0z (t := fun x : IL => x.2.length) (l := d9) (g := g)
 rw [a9d] at h1
 unfold O1 at hz; omega
theorem a9A {is : Int → Bool} {d9 : List IL} {g h : Nat} (hz : O1 (fun x => x.2.length) d9 ≤ 1048576) (hg : g < d9.length) : (((d9.take g).flatMap fun a => a.2).filter is ++ (d9[g].2.take h).filter is).length ≤ 1048576 := by
 have h1 := List.length_filter_le is ((d9.take g).flatMap fun a => a.2)
 have h2 := b0z (t := fun x : IL => x.2.length) (l := d9) (g := g + 1)
 have h3 := List.length_filter_le is (d9[g].2.take h)
 have h4 := List.length_take_le' h d9[g].2
 rw [b1m hg] at h2
 rw [a9d] at h1
 rw [List.length_append]
 unfold O1 at hz; omega
def L6 (t : Int) : Bool := inR t 0 9 || inR t 10 17
def K3 (s : List Int) (a : IL) : Bool := P2 s a.1 && (decide ((a.2.length : Int) = at0 s a.1) && !a.2.any fun t => !L6 t)
def W2 (q : List Int × List IL) : Bool := decide ((q.1.length : Int) ≤ 3) && !q.1.any fun t => !I8 (u7 (fun t => inR t 10 17) q.2) t
def I3 (s : List Int) (q : List Int × List IL) : Bool := U9 s && (inR (q.2.length : Int) 1 4 && ((!q.2.any fun a => !K3 s a) && W2 q))
def c2n (s : List Int) (u : List (List Int × List IL)) (q : List Int × List IL) : Bool := !I3 s q || decide ((q.1.length : Int) ≠ ((u.getD 0 ([], [])).1.length : Int))
def b0i (s : List Int) (u : List (List Int × List IL)) : Bool := inR (u.length : Int) 1 3 && !u.any (c2n s u)
def P9 (s : List Int) (g : (List Int × List IL) × List IL) : Bool :=
 I3 s g.1 && (decide ((g.2.length : Int) ≤ 4) && ((!g.2.any fun a => !K3 s a) && !(u7 (fun t => inR t 10 17) g.2).any fun t => !I8 (u7 (fun t => inR t 10 17) g.1.2) t))
theorem b8e {l : List Int} {p : Int → Bool} : (a0w l).any p = l.any p := by
 rw [Bool.eq_iff_iff, List.any_eq_true, List.any_eq_true]
 constructor
 ·rintro ⟨x, h, e⟩; exact ⟨x, a2L.1 h, e⟩
 ·rintro ⟨x, h, e⟩; exact ⟨x, a2L.2 h, e⟩
theorem b3v {s v : List Int} : ∀ {l : List IL}, (l.any fun a => !K3 s a || a.2.any fun t => inR t 10 17 && !I8 v t) = ((l.any fun a => !K3 s a) || (u7 (fun t => inR t 10 17) l).any fun t => !I8 v t) := by
 intro l
 rw [u7, b8e]
 induction l with
 | nil => rfl
 | cons a l ih =>
  have h : ∀ m : List Int, (m.filter fun t => inR t 10 17).any (fun t => !I8 v t) = m.any fun t => inR t 10 17 && !I8 v t := by
   intro m
   induction m with
   | nil => rfl
   | cons x m ih => simp only [List.filter_cons, List.any_cons, ← ih]; cases inR x 10 17 <;> simp
  simp only [List.any_cons, ih, List.flatMap_cons, List.filter_append, List.any_append, h]
  cases K3 s a <;> cases (a.2.any fun t => inR t 10 17 && !I8 v t) <;> cases (l.any fun a => !K3 s a) <;> simp
end Go.Proofs.YthapcdhdfaibkaaGreatDoor

namespace Go.Proofs.YthapcdhdfaibkaaGreatDoor
set_option linter.all false
def ltF (a b : IL) : Bool := decide (T7 a b < 0)
def G8 (l : List IL) (f : IL) : List IL := X4 (N9 l f) (ltF f) f l
theorem b3b {a b : Int} : V0 a b = - V0 b a := by unfold V0; grind
theorem a5U : ∀ {l m : List Int}, K5 l m = - K5 m l
 | [], [] => by simp [K5]
 | [], _ :: _ => by simp [K5]
 | _ :: _, [] => by simp [K5]
 | a :: l, b :: m => by
  have h1 := b3b (a := a) (b := b)
  have h2 := a5U (l := l) (m := m)
  unfold K5; grind
theorem a8S {a b : IL} : T7 a b = - T7 b a := by
 have h1 := b3b (a := a.1) (b := b.1)
 have h2 := a5U (l := a.2) (m := b.2)
 unfold T7; grind
theorem a4x {l : List IL} {f : IL} (h : N9 l f = true) : G8 l f = l := by simp [G8, X4, h]
theorem a6p {l : List IL} {f : IL} (h : N9 l f = false) : G8 l f = l.take (if J0 (fun z => decide (0 < T7 z f)) l < 0 then l.length else (J0 (fun z => decide (0 < T7 z f)) l).toNat) ++ f :: l.drop (if J0 (fun z => decide (0 < T7 z f)) l < 0 then l.length else (J0 (fun z => decide (0 < T7 z f)) l).toNat) := by
 rw [G8, h]
 refine b2I fun y _ => ?_
 have := a8S (a := f) (b := y)
 rw [ltF, decide_eq_decide]; omega
theorem a0G {α : Type} {p : α → Bool} {s : List α} : J0 p s ≤ s.length ∧ -1 ≤ J0 p s := by
 unfold J0
 split
 ·have := List.findIdx_le_length (p := p) (xs := s); omega
 ·omega
def addS {α : Type} (h : Bool) (p : α → Bool) (f : α) (l : List α) : List α := if h then l else R9 p f l
theorem a8E {α : Type} {h : Bool} {p : α → Bool} {f : α} {l : List α} : (addS h p f l).length ≤ l.length + 1 := by
 have := a6d (p := p) (f := f) (l := l)
 unfold addS; split <;> omega
theorem J1 {α : Type} {h : Bool} {p : α → Bool} {f : α} : addS h p f [] = [] := by unfold addS; cases h <;> rfl
theorem H8 {α : Type} {h : Bool} {p : α → Bool} {f : α} {l : List α} {y : α} : addS h p f (l ++ [y]) = if (h || l.any p) = true then addS h p f l ++ [y] else if p y = true then addS h p f l ++ [f, y] else addS h p f l ++ [y] := by
 unfold addS
 cases h
 ·simp only [Bool.false_eq_true, if_false, Bool.false_or, Y3]
  cases ha : l.any p
  ·simp [a0u ha]
  ·simp
 ·simp
theorem H9 {α : Type} {h : Bool} {p : α → Bool} {f : α} {l : List α} : X4 h p f l = if (h || l.any p) = true then addS h p f l else addS h p f l ++ [f] := by
 unfold addS X4
 cases h
 ·cases ha : l.any p
  ·simp [a0u ha]
  ·simp
 ·simp
theorem E4 {α : Type} {p : α → Bool} {l : List α} {g : Nat} (h : g < l.length) : (l.take (g + 1)).any p = ((l.take g).any p || p l[g]) := by
 rw [List.take_succ_eq_append_getElem h, List.any_append]; simp
theorem Y5 {f : IL} {a : Int} {b : List Int} : ltF f (a, b) = decide (T7 f (a, b) < 0) := rfl
def a1F (s : List Int) (l : List IL) (g : Nat) : Bool := (l.drop g).all (O6 s) && G3 ltF (l.drop (g - 1))
def F1 (s : List Int) (l : List IL) : Bool := a1F s l 0 && (U9 s && decide ((l.length : Int) ≤ 24))
def c1i (d6 : List IL) (f : IL) (out : List IL) (r : Int × IL) : List IL :=
 if f.1 = r.1 then (if N9 d6 (r.2.1, vals r.2.2 f.2) then out else G8 out (r.2.1, vals r.2.2 f.2)) else out
def c0I (l : List (Int × IL)) (d6 : List IL) (out : List IL) (f : IL) : List IL := l.foldl (c1i d6 f) out
def b4N (l : List (Int × IL)) (d6 : List IL) : List IL := d6.foldl (c0I l d6) []
end Go.Proofs.YthapcdhdfaibkaaGreatDoor

namespace Go.Proofs.YthapcdhdfaibkaaGreatDoor
set_option linter.all false
theorem G4 {s : List Int} {l : List IL} (h : F1 s l = true) : l.length ≤ 24 ∧ ∀ f ∈ l, O6 s f = true := by
 simp only [F1, a1F, List.drop_zero, Bool.and_eq_true, decide_eq_true_eq, List.all_eq_true] at h
 exact ⟨by omega, h.1.1⟩
theorem W7 {s : List Int} {f : IL} (h : O6 s f = true) : f.2.length ≤ 3 := by
 simp only [O6, Bool.and_eq_true, decide_eq_true_eq] at h
 have := a0N h.1
 simp only [at0] at h; omega
theorem b4y {v : List Int} (h : V4 v = true) : ∀ x ∈ v, 0 ≤ x ∧ x ≤ 9 := by
 simp only [V4, Bool.not_eq_true', List.any_eq_false, Bool.not_eq_true] at h
 intro x hx
 have := h x hx
 simp [inR] at this; omega
theorem b5P {v : List Int} (h : ∀ x ∈ v, 0 ≤ x ∧ x ≤ 9) : V4 v = true := by
 simp only [V4, Bool.not_eq_true', List.any_eq_false, Bool.not_eq_true]
 intro x hx
 have := h x hx
 simp [inR]; omega
def c2S (s : List Int) (l : List (Int × IL)) (d6 : List IL) : List IL := if a5L s l && F1 s d6 then b4N l d6 else []
def a7S (l : List (Int × IL)) (d6 : List IL) : Nat → List IL
 | 0 => d6
 | n + 1 => (b4N l (a7S l d6 n)).foldl G8 (a7S l d6 n)
def b9n (l : List (Int × IL)) (d6 : List IL) : List IL := a7S l d6 6001
theorem a4y : ∀ {n : Nat} {l : List Nat}, l.Nodup → (∀ x ∈ l, x < n) → l.length ≤ n
 | 0, l, _, h => by
  cases l with
  | nil => simp
  | cons x l => exact absurd (h x (by simp)) (by omega)
 | n + 1, l, hd, h => by
  by_cases hm : n ∈ l
  ·have h1 := a4y (n := n) (l := l.erase n) (hd.erase n) fun x hx => by
    have h2 := (hd.mem_erase_iff).1 hx
    have := h x h2.2; omega
   rw [List.length_erase_of_mem hm] at h1; omega
  ·have h1 := a4y (n := n) (l := l) hd fun x hx => by
    have h2 := h x hx
    have : x ≠ n := fun e => hm (e ▸ hx)
    omega
   omega
def a3I : List Int → Nat
 | [] => 0
 | v :: l => (v.toNat + 1) + 11 * a3I l
theorem b0M : ∀ {a b : List Int}, (∀ x ∈ a, 0 ≤ x ∧ x ≤ 9) → (∀ x ∈ b, 0 ≤ x ∧ x ≤ 9) → a3I a = a3I b → a = b
 | [], [], _, _, _ => rfl
 | [], y :: b, _, _, h => by simp [a3I] at h; omega
 | x :: a, [], _, _, h => by simp [a3I] at h
 | x :: a, y :: b, ha, hb, h => by
  have h1 := ha x (by simp)
  have h2 := hb y (by simp)
  simp only [a3I] at h
  rw [b0M (a := a) (b := b) (fun z hz => ha z (by simp [hz])) (fun z hz => hb z (by simp [hz])) (by omega), show x = y by omega]
theorem b2y : ∀ {n : Nat} {a : List Int}, (∀ x ∈ a, 0 ≤ x ∧ x ≤ 9) → a.length ≤ n → a3I a < 11 ^ n
 | n, [], _, _ => by simp [a3I]; exact Nat.pow_pos (by decide)
 | 0, x :: a, _, h => by simp at h
 | n + 1, x :: a, ha, h => by
  have h1 := b2y (n := n) (a := a) (fun z hz => ha z (by simp [hz])) (by simpa using h)
  have h2 := ha x (by simp)
  simp only [a3I, Nat.pow_succ]; omega
def b4E (f : IL) : Nat := f.1.toNat + 4 * a3I f.2
theorem a6c {s : List Int} {f : IL} (h : O6 s f = true) : 0 ≤ f.1 ∧ f.1 < 4 := by
 simp only [O6, Bool.and_eq_true, decide_eq_true_eq] at h
 have h1 := a0N h.1
 have h2 := h.1
 simp only [P2, U9, inR, Bool.and_eq_true, decide_eq_true_eq] at h2
 omega
theorem a1j {s : List Int} {f : IL} (h : O6 s f = true) : ∀ x ∈ f.2, 0 ≤ x ∧ x ≤ 9 := by
 simp only [O6, Bool.and_eq_true] at h
 exact b4y h.2.2
theorem b0Q {s : List Int} {D : List IL} (hd : D.Nodup) (h : ∀ f ∈ D, O6 s f = true) : D.length ≤ 5324 := by
 have h1 : (D.map b4E).Nodup := by
  unfold List.Nodup at hd ⊢
  rw [List.pairwise_map]
  refine List.Pairwise.imp_of_mem (fun {a b} ha hb hab e => hab ?_) hd
  have ra := a6c (h a ha)
  have rb := a6c (h b hb)
  simp only [b4E] at e
  have e2 := b0M (a1j (h a ha)) (a1j (h b hb)) (by omega)
  exact Prod.ext (by omega) e2
 have h2 := a4y (n := 5324) h1 fun x hx => by
  obtain ⟨f, hf, rfl⟩ := List.mem_map.1 hx
  have r := a6c (h f hf)
  have c := b2y (n := 3) (a1j (h f hf)) (W7 (h f hf))
  unfold b4E; omega
 simpa using h2
theorem a8y {α : Type} {p : α → Bool} {f y : α} : ∀ {l : List α}, y ∈ l → y ∈ R9 p f l
 | x :: l, h => by
  simp only [R9]
  simp only [List.mem_cons] at h
  split
  ·simp [h]
  ·rcases h with h | h
   ·simp [h]
   ·simp [a8y h]
theorem a7u {α : Type} {p : α → Bool} {f : α} : ∀ {l : List α}, l.any p = true → f ∈ R9 p f l
 | x :: l, h => by
  simp only [R9]
  split
  ·simp
  ·rename_i h1
   simp only [List.any_cons, h1, Bool.false_or] at h
   simp [a7u h]
theorem b1W {l : List IL} {f y : IL} (h : y ∈ l) : y ∈ G8 l f := by
 unfold G8 X4
 split
 ·exact h
 ·split
  ·exact a8y h
  ·simp [h]
theorem a6t {l : List IL} {f : IL} : N9 l f = true ↔ f ∈ l := by
 unfold N9
 rw [List.any_eq_true]
 constructor
 ·rintro ⟨x, hx, e⟩
  rw [decide_eq_true_eq, a3M] at e
  exact e ▸ hx
 ·intro h
  exact ⟨f, h, by rw [decide_eq_true_eq, a3M]⟩
theorem b5g {l : List IL} {f : IL} (h : N9 l f = false) : f ∈ G8 l f := by
 unfold G8 X4
 rw [h]
 simp only [Bool.false_eq_true, if_false]
 split
 ·rename_i h1; exact a7u h1
 ·simp
def c1P (s : List Int) (x D : List IL) : Prop := D.Nodup ∧ (∀ f ∈ D, f ∈ x) ∧ x.length ≤ 24 + D.length ∧ ∀ f ∈ x, O6 s f = true
def c3g (l : List (Int × IL)) (d6 : List IL) (n : Nat) : Prop := ∃ s, a5L s l = true ∧ ∃ D, c1P s (a7S l d6 n) D ∧ n ≤ D.length
theorem b7i {m x : List IL} : (m.foldl G8 x).length ≤ x.length + m.length := by
 induction m generalizing x with
 | nil => simp
 | cons f m ih =>
  have h1 := ih (x := G8 x f)
  have h2 := a4p (h := N9 x f) (p := ltF f) (f := f) (l := x)
  simp only [List.foldl_cons, List.length_cons]
  unfold G8 at h1 ⊢; omega
def c2A (s : List Int) (l : List (Int × IL)) (d6 : List IL) : List IL := if a5L s l && F1 s d6 then b9n l d6 else []
end Go.Proofs.YthapcdhdfaibkaaGreatDoor

namespace Go.Proofs.YthapcdhdfaibkaaGreatDoor
set_option linter.all false
def unb (b : List Int × List Int) (t : Int) : Bool := !(b.1.take (min b.1.length b.2.length)).any fun x => decide (x = t)
theorem a9Z {α : Type} {p : α → Bool} {s : List α} : J0 p s < 0 ↔ s.any p = false := by
 unfold J0
 by_cases h : s.any p = true
 ·rw [if_pos h]; simp [h]
 ·rw [if_neg h]; simp at h; simp; exact h
theorem D1 {b : List Int × List Int} {t : Int} : unb b t = decide (J0 (fun x => decide (x = t)) (b.1.take (min b.1.length b.2.length)) < 0) := by
 rw [unb, Bool.eq_iff_iff, decide_eq_true_eq, a9Z]; simp
theorem a3p {V W : List Int} {p : Int → Bool} {g : Nat} (h : g < V.length) (h2 : g < W.length) : ((V.take (min V.length W.length)).drop g).any p = (p V[g] || ((V.take (min V.length W.length)).drop (g + 1)).any p) := by
 rw [List.drop_eq_getElem_cons (by simp; omega)]
 simp
theorem a5p {V W : List Int} {p : Int → Bool} {g : Nat} (h : ¬ (g < V.length ∧ g < W.length)) : ((V.take (min V.length W.length)).drop g).any p = false := by
 rw [List.drop_eq_nil_of_le (by simp; omega)]; rfl
def F5 (x : List Int × List Int) (t v : Int) : List Int × List Int := if inR t 10 17 && unb x t then (x.1 ++ [t], x.2 ++ [v]) else x
def I6 (b : List Int × List Int) (l : List (Int × Int)) : List Int × List Int := l.foldl (fun x p => F5 x p.1 p.2) b
def okV (b : List Int × List Int) : List (Int × Int) → Bool
 | [] => true
 | p :: l => decide (F6 (F5 b p.1 p.2) p.1 = p.2) && okV (F5 b p.1 p.2) l
def s7 (b : List Int × List Int) (a f : IL) : Bool := decide (a.1 = f.1) && (decide (a.2.length = f.2.length) && (decide (b.1.length = b.2.length) && okV b (a.2.zip f.2)))
def u9 (b : List Int × List Int) (a f : IL) : List Int × List Int := I6 b (a.2.zip f.2)
theorem D3 {b : List Int × List Int} {t v : List Int} {g : Nat} (h : g < t.length) (h2 : g < v.length) : I6 b ((t.zip v).take (g + 1)) = F5 (I6 b ((t.zip v).take g)) t[g] v[g] := by
 unfold I6
 rw [List.take_succ_eq_append_getElem (by simp; omega), List.foldl_append]
 simp
theorem B8 {b : List Int × List Int} {t v : List Int} {g : Nat} (h : g < t.length) (h2 : g < v.length) : okV b ((t.zip v).drop g) = (decide (F6 (F5 b t[g] v[g]) t[g] = v[g]) && okV (F5 b t[g] v[g]) ((t.zip v).drop (g + 1))) := by
 rw [List.drop_eq_getElem_cons (by simp; omega)]
 simp [okV]
theorem D2 {b : List Int × List Int} {t v : List Int} {g : Nat} (h : t.length ≤ g) : okV b ((t.zip v).drop g) = true := by
 rw [List.drop_eq_nil_of_le (by simp; omega)]; rfl
theorem F0 {b : List Int × List Int} {t v : List Int} {g : Nat} (h : t.length ≤ g) : I6 b ((t.zip v).take g) = I6 b (t.zip v) := by
 rw [List.take_of_length_le (by simp; omega)]
theorem b2B {x : List Int × List Int} {t v : Int} : (F5 x t v).1.length ≤ x.1.length + 1 ∧ (F5 x t v).2.length ≤ x.2.length + 1 := by
 unfold F5; split <;> simp
theorem a4d {x : List Int × List Int} {t v : Int} (h : x.1.length = x.2.length) : (F5 x t v).1.length = (F5 x t v).2.length := by
 unfold F5; split <;> simp [h]
theorem a7a : ∀ {l : List (Int × Int)} {x : List Int × List Int}, (I6 x l).1.length ≤ x.1.length + l.length ∧ (I6 x l).2.length ≤ x.2.length + l.length
 | [], x => by simp [I6]
 | p :: l, x => by
  have h1 := a7a (l := l) (x := F5 x p.1 p.2)
  have h2 := b2B (x := x) (t := p.1) (v := p.2)
  simp only [I6, List.foldl_cons, List.length_cons] at h1 ⊢; omega
theorem a6b : ∀ {l : List (Int × Int)} {x : List Int × List Int}, x.1.length = x.2.length → (I6 x l).1.length = (I6 x l).2.length
 | [], x, h => h
 | p :: l, x, h => by
  have := a6b (l := l) (a4d (t := p.1) (v := p.2) h)
  simpa only [I6, List.foldl_cons] using this
theorem b5f {b : List Int × List Int} {t v : List Int} {g : Nat} : (I6 b ((t.zip v).take g)).1.length ≤ b.1.length + t.length ∧ (I6 b ((t.zip v).take g)).2.length ≤ b.2.length + t.length := by
 have h := a7a (l := (t.zip v).take g) (x := b)
 have h2 : ((t.zip v).take g).length ≤ t.length := by simp; omega
 omega
theorem b3W {x : List Int × List Int} {t v : Int} (h : x.1.length = x.2.length) (h1 : inR t 10 17 = true) (h2 : unb x t = true) : F6 (x.1 ++ [t], x.2 ++ [v]) t = v := by
 have e := a6k (b := (x.1 ++ [t], x.2 ++ [v])) (t := t) (g := x.1.length) h1 (by simp) (by simp [h]) (by simp) (by
  intro y hy
  simp only [unb, h, Nat.min_self, Bool.not_eq_true', List.any_eq_false] at h2
  rw [List.take_append_of_le_length (Nat.le_refl _), List.take_length] at hy
  have := h2 y (by rw [← h, List.take_length]; exact hy)
  simpa using this)
 rw [← e]
 simp [h]
theorem a9O {x : List Int × List Int} {t v : Int} (h : (inR t 10 17 && unb x t) = false) : F5 x t v = x := by unfold F5; rw [h]; simp
theorem a7O {x : List Int × List Int} {t v : Int} (h : (inR t 10 17 && unb x t) = true) : F5 x t v = (x.1 ++ [t], x.2 ++ [v]) := by unfold F5; rw [h]; simp
theorem R7 {x : List Int × List Int} {t v : Int} (h : x.1.length = x.2.length) : decide (F6 (F5 x t v) t = v) = (inR t 10 17 && unb x t || decide (F6 x t = v)) := by
 cases hc : inR t 10 17 && unb x t with
 | false => rw [a9O hc]; simp
 | true =>
  rw [a7O hc]
  rw [Bool.and_eq_true] at hc
  rw [b3W h hc.1 hc.2]; simp
def Y0 (b : List Int × List Int) (a : IL) (d6 : List IL) : List (List Int × List Int) := (d6.filter (s7 b a)).map (u9 b a)
def J6 (l : List (List Int × List Int)) (a : IL) (d6 : List IL) : List (List Int × List Int) := l.flatMap fun b => Y0 b a d6
theorem a0z {b : List Int × List Int} {a : IL} : Y0 b a [] = [] := rfl
theorem a0i {b : List Int × List Int} {a f : IL} {l : List IL} : Y0 b a (l ++ [f]) = if s7 b a f then Y0 b a l ++ [u9 b a f] else Y0 b a l := by
 unfold Y0
 cases h : s7 b a f <;> simp [List.filter_append, h]
theorem a0y {a : IL} {d6 : List IL} : J6 [] a d6 = [] := rfl
theorem a0h {l : List (List Int × List Int)} {b : List Int × List Int} {a : IL} {d6 : List IL} : J6 (l ++ [b]) a d6 = J6 l a d6 ++ Y0 b a d6 := by
 simp [J6]
theorem a4r {b : List Int × List Int} {a : IL} {d6 : List IL} : (Y0 b a d6).length ≤ d6.length := by
 unfold Y0; rw [List.length_map]; exact List.length_filter_le _ _
theorem b2L {a : IL} {d6 : List IL} : ∀ {l : List (List Int × List Int)}, (J6 l a d6).length ≤ l.length * d6.length
 | [] => by simp [J6]
 | b :: l => by
  have h1 := b2L (a := a) (d6 := d6) (l := l)
  have h2 := a4r (b := b) (a := a) (d6 := d6)
  simp only [J6, List.flatMap_cons, List.length_append, List.length_cons, Nat.succ_mul] at h1 ⊢; omega
theorem b1V {n k : Nat} {a : IL} {d6 : List IL} {l : List (List Int × List Int)} (ha : a.2.length ≤ k) (h : ∀ b ∈ l, b.1.length ≤ n ∧ b.2.length ≤ n) : ∀ b ∈ J6 l a d6, b.1.length ≤ n + k ∧ b.2.length ≤ n + k := by
 intro b hb
 simp only [J6, Y0, List.mem_flatMap, List.mem_map] at hb
 obtain ⟨x, hx, f, _, rfl⟩ := hb
 have h1 := h x hx
 have h2 := a7a (l := a.2.zip f.2) (x := x)
 have h3 : (a.2.zip f.2).length ≤ a.2.length := by simp; omega
 unfold u9; omega
def H6 (d9 : List IL) (d6 : List IL) : List (List Int × List Int) := d9.foldl (fun l a => J6 l a d6) [([], [])]
theorem a1v {d6 : List IL} : H6 [] d6 = [([], [])] := rfl
theorem a1c {d9 d6 : List IL} {a : IL} : H6 (d9 ++ [a]) d6 = J6 (H6 d9 d6) a d6 := by
 simp [H6]
theorem b0L {d6 : List IL} (hf : d6.length ≤ 24) : ∀ {n : Nat} {d9 : List IL}, d9.length = n → (∀ a ∈ d9, a.2.length ≤ 3) → (H6 d9 d6).length ≤ 24 ^ n ∧ ∀ b ∈ H6 d9 d6, b.1.length ≤ 3 * n ∧ b.2.length ≤ 3 * n
 | 0, d9, hn, _ => by
  obtain rfl := List.length_eq_zero_iff.1 hn
  simp [a1v]
 | n + 1, d9, hn, h => by
  have h0 : d9 ≠ [] := by intro e; subst e; simp at hn
  rw [← List.dropLast_concat_getLast h0] at hn h ⊢
  rw [List.length_append] at hn
  have ih := b0L hf (n := n) (d9 := d9.dropLast) (by simpa using hn) (fun a ha => h a (by simp [ha]))
  rw [a1c]
  have h1 := b2L (a := d9.getLast h0) (d6 := d6) (l := H6 d9.dropLast d6)
  have h2 := Nat.mul_le_mul ih.1 hf
  have h3 := b1V (d6 := d6) (h (d9.getLast h0) (by simp)) ih.2
  exact ⟨by rw [Nat.pow_succ]; omega, fun b hb => by have := h3 b hb; omega⟩
theorem a4A {d6 d9 : List IL} (hf : d6.length ≤ 24) (hn : d9.length ≤ 4) (h : ∀ a ∈ d9, a.2.length ≤ 3) : (H6 d9 d6).length ≤ 331776 ∧ ∀ b ∈ H6 d9 d6, b.1.length ≤ 12 ∧ b.2.length ≤ 12 := by
 have h1 := b0L hf rfl h
 have h2 : 24 ^ d9.length ≤ 24 ^ 4 := Nat.pow_le_pow_right (by decide) hn
 exact ⟨by omega, fun b hb => by have := h1.2 b hb; omega⟩
def T0 (l : List (List Int)) (t : List Int) : Bool := l.any fun x => decide (x = t)
def ltT (a b : List Int) : Bool := decide (K5 a b < 0)
def U0 (l : List (List Int)) (t : List Int) : List (List Int) := X4 (T0 l t) (ltT t) t l
theorem a8z {l : List (List Int)} {t : List Int} (h : T0 l t = true) : U0 l t = l := by simp [U0, X4, h]
theorem a8G {l : List (List Int)} {f : List Int} (h : T0 l f = false) : U0 l f = l.take (if J0 (fun z => decide (0 < K5 z f)) l < 0 then l.length else (J0 (fun z => decide (0 < K5 z f)) l).toNat) ++ f :: l.drop (if J0 (fun z => decide (0 < K5 z f)) l < 0 then l.length else (J0 (fun z => decide (0 < K5 z f)) l).toNat) := by
 rw [U0, h]
 refine b2I fun y _ => ?_
 have := a5U (l := f) (m := y)
 rw [ltT, decide_eq_decide]; omega
theorem b7o {l : List (List Int)} {t : List Int} : (U0 l t).length ≤ l.length + 1 := a4p
def S2 (h : List Int) (l : List (List Int × List Int)) : List (List Int) := l.foldl (fun out b => U0 out (h.map (F6 b))) []
theorem a2X {h : List Int} : S2 h [] = [] := rfl
theorem a1Z {h : List Int} {l : List (List Int × List Int)} {b : List Int × List Int} : S2 h (l ++ [b]) = U0 (S2 h l) (h.map (F6 b)) := by simp [S2]
theorem a8X {h : List Int} : ∀ {l : List (List Int × List Int)} {out : List (List Int)}, (l.foldl (fun out b => U0 out (h.map (F6 b))) out).length ≤ out.length + l.length ∧ ((∀ t ∈ out, t.length ≤ h.length) → ∀ t ∈ l.foldl (fun out b => U0 out (h.map (F6 b))) out, t.length ≤ h.length)
 | [], out => by simp
 | b :: l, out => by
  have h1 := a8X (h := h) (l := l) (out := U0 out (h.map (F6 b)))
  have h2 := b7o (l := out) (t := h.map (F6 b))
  refine ⟨by simp only [List.foldl_cons, List.length_cons]; omega, fun ho => h1.2 fun t ht => ?_⟩
  rcases a6n ht with ht | rfl
  ·exact ho t ht
  ·simp
theorem b4d {h : List Int} {l : List (List Int × List Int)} : (S2 h l).length ≤ l.length := by have := (a8X (h := h) (l := l) (out := [])).1; simpa [S2] using this
theorem b2h {h : List Int} {l : List (List Int × List Int)} : ∀ t ∈ S2 h l, t.length ≤ h.length := (a8X (h := h) (l := l) (out := [])).2 (by simp)
theorem J7 {s : List Int} {q : List Int × List IL} (h : I3 s q = true) : q.2.length ≤ 4 ∧ q.1.length ≤ 3 ∧ ∀ a ∈ q.2, a.2.length ≤ 3 := by
 simp only [I3, W2, inR, Bool.and_eq_true, decide_eq_true_eq, Bool.not_eq_true', List.any_eq_false, Bool.not_eq_true] at h
 refine ⟨by omega, by omega, fun a ha => ?_⟩
 have h1 := h.2.2.1 a ha
 have h1 : K3 s a = true := by simpa using h1
 simp only [K3, Bool.and_eq_true, decide_eq_true_eq] at h1
 have := a0N h1.1
 simp only [at0] at h1; omega
def X6 (s : List Int) (q : List Int × List IL) (d6 : List IL) : List (List Int) := if I3 s q && F1 s d6 then S2 q.1 (H6 q.2 d6) else []
end Go.Proofs.YthapcdhdfaibkaaGreatDoor

namespace Go.Proofs.YthapcdhdfaibkaaGreatDoor
set_option linter.all false
def nxt (u : List Int) : Nat → Nat → Nat
 | 0, v => v
 | n + 1, v => if I8 u (v : Int) then nxt u n (v + 1) else v
def b4r (u : List Int) (v : Nat) : Nat := nxt u 11 v
def fzN (u : List Int) : Nat → Nat
 | 0 => 0
 | g + 1 => b4r u (fzN u g) + 1
def c0H (u : List Int) (n : Nat) : Bool := (List.range n).all fun i => decide (b4r u (fzN u i) ≤ 9)
def b6E (u : List Int) (n : Nat) : List Int := (List.range n).map fun i => (b4r u (fzN u i) : Int)
def a2Z (d9 : List IL) : List Int := u7 (fun t => inR t 10 17) d9
def c2R (d9 : List IL) : List Int := u7 (fun t => inR t 0 9) d9
def c1W (d9 : List IL) (b : List Int × List Int) : List IL := d9.foldl (fun out a => G8 out (O8 a b)) []
def fzB (u : List Int) (d9 : List IL) : Bool := c0H u (a2Z d9).length
def fzV (u : List Int) (d9 : List IL) : List Int := cond (fzB u d9) (a2Z d9) []
def fzX (u : List Int) (d9 : List IL) : List Int := cond (fzB u d9) (b6E u (a2Z d9).length) []
def fzF (u : List Int) (d9 : List IL) : List IL := cond (fzB u d9) (c1W d9 (a2Z d9, b6E u (a2Z d9).length)) []
end Go.Proofs.YthapcdhdfaibkaaGreatDoor
