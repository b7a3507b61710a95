import Derived.Test.YtlfhopooaejpfaaGreatBc
import Derived.Lib.SlicesCompact
namespace Go.Proofs.YtlfhopooaejpfaaGreat
open Go.RowKit
set_option linter.unusedVariables false
def FnP2 {α : Type} (P : Program) (w : World) (L : List Nat) (g : FuncId) (caps : List Value) (E : Enc α) (val : List Value → Value) (p : α → α → Bool) : Prop :=
 a4Q P g ∧ ∀ w', Keep w L w' → ∀ cs x ds y, Ro w' [] E cs x → Ro w' [] E ds y → Calls P g (val cs :: val ds :: caps).toArray w' fun e w'' => e = .returned (.bool (p x y)) ∧ Ext w' w''
section
variable {P : Program} {α : Type} {E : Enc α} {w w0 : World} {L L0 Lp : List Nat} {pre rest : List HP} {g : FuncId} {caps : List Value} {val : List Value → Value} {p : α → α → Bool}
end
section
variable {P : Program} {Q : Exit → Act → World → Prop} {n : Nat} {w0 : World} {L0 : List Nat} {fr : Fr} {H : List HP} {d : Nat} {ty : TypeId} {pos : String} {af : Array Edge} {g : Option (Nat × Bool)}
end
section
variable {P : Program} {w : World} {L : List Nat} {g : FuncId} {caps : List Value} {RR : World → List Nat → Prop}
theorem b6W {p : (Int × List Int) → (Int × List Int) → Bool} (tr : ∀ {x0 : Int} {ax1 : Option Addr} {mx1 cx1 : Nat} {x1 : List Int} {y0 : Int} {ay1 : Option Addr} {my1 cy1 : Nat} {y1 : List Int}, Tr P g (.agg #[.int .i64 x0, .slice ax1 mx1 cx1] :: .agg #[.int .i64 y0, .slice ay1 my1 cy1] :: caps) (fun w L => (I64 x0 ∧ Ro w L eIs [.slice ax1 mx1 cx1] x1 ∧ I64 y0 ∧ Ro w L eIs [.slice ay1 my1 cy1] y1) ∧ RR w L) [] (κ := Unit) (fun _ => True) (fun _ => .bool (p (x0, x1) (y0, y1))) (fun _ => [])) (hR : ∀ w', Keep w L w' → RR w' []) : FnP2 P w L g caps F0 a0o p :=
 ⟨(tr (x0 := 0) (x1 := []) (ax1 := none) (mx1 := 0) (cx1 := 0) (y0 := 0) (y1 := []) (ay1 := none) (my1 := 0) (cy1 := 0)).1, fun w' k cs x ds y hx hy => by obtain ⟨a0, c0, rfl, h0, h1⟩ := L4 hx; obtain ⟨b0, e0, rfl, k0, k1⟩ := L4 hy; exact Tr.bool tr ⟨⟨h0, h1, k0, k1⟩, hR w' k⟩⟩
theorem b6b {p : (Int × List Int) → (Int × List Int) → Bool} (tr : ∀ {x0 : Int} {ax1 : Option Addr} {mx1 cx1 : Nat} {x1 : List Int} {y0 : Int} {ay1 : Option Addr} {my1 cy1 : Nat} {y1 : List Int}, Tr P g (.agg #[.int .i64 x0, .slice ax1 mx1 cx1] :: .agg #[.int .i64 y0, .slice ay1 my1 cy1] :: caps) (fun w L => (I64 x0 ∧ Ro w L eIs [.slice ax1 mx1 cx1] x1 ∧ I64 y0 ∧ Ro w L eIs [.slice ay1 my1 cy1] y1) ∧ RR w L) [] (κ := Unit) (fun _ => True) (fun _ => .bool (p (x0, x1) (y0, y1))) (fun _ => [])) (hR : ∀ w', Keep w L w' → RR w' []) : FnP2 P w L g caps O3 a0o p :=
 ⟨(tr (x0 := 0) (x1 := []) (ax1 := none) (mx1 := 0) (cx1 := 0) (y0 := 0) (y1 := []) (ay1 := none) (my1 := 0) (cy1 := 0)).1, fun w' k cs x ds y hx hy => by obtain ⟨a0, c0, rfl, h0, h1⟩ := N0 hx; obtain ⟨b0, e0, rfl, k0, k1⟩ := N0 hy; exact Tr.bool tr ⟨⟨h0, h1, k0, k1⟩, hR w' k⟩⟩
theorem b6V {p : (Int × List Int) → (Int × List Int) → Bool} (tr : ∀ {x0 : Int} {ax1 : Option Addr} {mx1 cx1 : Nat} {x1 : List Int} {y0 : Int} {ay1 : Option Addr} {my1 cy1 : Nat} {y1 : List Int}, Tr P g (.agg #[.int .i64 x0, .slice ax1 mx1 cx1] :: .agg #[.int .i64 y0, .slice ay1 my1 cy1] :: caps) (fun w L => (I64 x0 ∧ Ro w L eIs [.slice ax1 mx1 cx1] x1 ∧ I64 y0 ∧ Ro w L eIs [.slice ay1 my1 cy1] y1) ∧ RR w L) [] (κ := Unit) (fun _ => True) (fun _ => .bool (p (x0, x1) (y0, y1))) (fun _ => [])) (hR : ∀ w', Keep w L w' → RR w' []) : FnP2 P w L g caps a0X a0o p :=
 ⟨(tr (x0 := 0) (x1 := []) (ax1 := none) (mx1 := 0) (cx1 := 0) (y0 := 0) (y1 := []) (ay1 := none) (my1 := 0) (cy1 := 0)).1, fun w' k cs x ds y hx hy => by obtain ⟨a0, c0, rfl, h0, h1⟩ := P1 hx; obtain ⟨b0, e0, rfl, k0, k1⟩ := P1 hy; exact Tr.bool tr ⟨⟨h0, h1, k0, k1⟩, hR w' k⟩⟩
theorem b7S {p : List Int → List Int → Bool} (tr : ∀ {ax : Option Addr} {mx cx : Nat} {x : List Int} {ay : Option Addr} {my cy : Nat} {y : List Int}, Tr P g (.slice ax mx cx :: .slice ay my cy :: caps) (fun w L => (Ro w L eIs [.slice ax mx cx] x ∧ Ro w L eIs [.slice ay my cy] y) ∧ RR w L) [] (κ := Unit) (fun _ => True) (fun _ => .bool (p x y)) (fun _ => [])) (hR : ∀ w', Keep w L w' → RR w' []) : FnP2 P w L g caps eIs a5d p :=
 ⟨(tr (ax := none) (mx := 0) (cx := 0) (x := []) (ay := none) (my := 0) (cy := 0) (y := [])).1, fun w' k cs x ds y hx hy => by obtain ⟨a, c, rfl⟩ := hx.sl; obtain ⟨b, e, rfl⟩ := hy.sl; exact (tr (x := x) (y := y)).bool ⟨⟨hx, hy⟩, hR w' k⟩⟩
end
end Go.Proofs.YtlfhopooaejpfaaGreat

namespace Go.Proofs.YtlfhopooaejpfaaGreat
open Go.RowKit
set_option linter.unusedVariables false
def owd {α : Type} (e : TypeId) (E : Enc α) (a : Option Addr) (m c : Nat) (xs : List α) (j : Nat) : HP where
 holds w L := ∃ c1 c2 L1 L2, L = L1 ++ L2 ∧ m = xs.length ∧ m ≤ maxLen ∧ c1.length = j * E.k ∧ C4 E w c2 (xs.drop j) L2 true ∧ (row e E.k a m c (c1 ++ c2)).holds w L1
 stable := by
  rintro w w' L ⟨c1, c2, L1, L2, rfl, h1, h2, h3, h4, h5⟩ hb
  exact ⟨c1, c2, L1, L2, rfl, h1, h2, h3, h4.stable fun b h => hb b (by simp [h]), (row e E.k a m c _).stable h5 fun b h => hb b (by simp [h])⟩
 inh := by
  rintro w L ⟨c1, c2, L1, L2, rfl, h1, h2, h3, h4, h5⟩ b hb
  rcases List.mem_append.1 hb with hb | hb
  ·exact (row e E.k a m c _).inh h5 b hb
  ·exact h4.inh b hb
def owt {α : Type} (e : TypeId) (E : Enc α) (a : Option Addr) (m c : Nat) (xs : List α) (j : Nat) (ce : List Value) : HP where
 holds w L := ∃ c1 c2 L1 L2, L = L1 ++ L2 ∧ m = xs.length ∧ m ≤ maxLen ∧ j < xs.length ∧ ce.length = E.k ∧ c1.length = j * E.k ∧ C4 E w c2 (xs.drop (j + 1)) L2 true ∧ (row e E.k a m c (c1 ++ (ce ++ c2))).holds w L1
 stable := by
  rintro w w' L ⟨c1, c2, L1, L2, rfl, h1, h2, h0, h6, h3, h4, h5⟩ hb
  exact ⟨c1, c2, L1, L2, rfl, h1, h2, h0, h6, h3, h4.stable fun b h => hb b (by simp [h]), (row e E.k a m c _).stable h5 fun b h => hb b (by simp [h])⟩
 inh := by
  rintro w L ⟨c1, c2, L1, L2, rfl, h1, h2, h0, h6, h3, h4, h5⟩ b hb
  rcases List.mem_append.1 hb with hb | hb
  ·exact (row e E.k a m c _).inh h5 b hb
  ·exact h4.inh b hb
section
variable {n : Nat} {w0 : World} {L0 : List Nat} {fr : Fr} {H R : List HP} {G : Act → World → Prop} {α : Type} {E : Enc α} {e : TypeId} {a : Option Addr} {m c : Nat} {xs : List α} {j : Nat}
theorem a7W (h : Ent n w0 L0 fr (owd e E a m c xs 0 :: R) G) : Ent n w0 L0 fr (ow (Enc.sl e E) [.slice a m c] xs :: R) G := fun ac w h1 h2 => by
 obtain ⟨L, ⟨Lo, LR, rfl, ho, hR⟩, hn, hst⟩ := h2
 obtain ⟨ccs, L1, L2, rfl, g1, g2, g3, g4⟩ := a0k ho
 exact h ac w h1 ⟨(L1 ++ L2) ++ LR, ⟨L1 ++ L2, LR, rfl, ⟨[], ccs, L1, L2, rfl, g1, g2, by simp, g3, g4⟩, hR⟩, hn, hst⟩
theorem a7V (hj : j < xs.length) (h : ∀ ce, Ent n w0 L0 fr (owt e E a m c xs j ce :: ow E ce xs[j] :: R) G) : Ent n w0 L0 fr (owd e E a m c xs j :: R) G := fun ac w h1 h2 => by
 obtain ⟨L, ⟨Lo, LR, rfl, ⟨c1, c2, L1, L2, rfl, g1, g2, g3, g4, g5⟩, hR⟩, hn, hst⟩ := h2
 rw [List.drop_eq_getElem_cons hj] at g4
 obtain ⟨d1, d2, N1, N2, rfl, rfl, k1, k2⟩ := g4
 have hperm : (L1 ++ (N1 ++ N2) ++ LR).Perm ((L1 ++ N2) ++ (N1 ++ LR)) := by
  simp only [List.append_assoc]
  refine List.Perm.append_left L1 ?_
  rw [← List.append_assoc, ← List.append_assoc]
  exact (List.perm_append_comm).append_right LR
 exact h d1 ac w h1 ⟨(L1 ++ N2) ++ (N1 ++ LR), ⟨_, _, rfl, ⟨c1, d2, L1, N2, rfl, g1, g2, hj, E.len k1, g3, k2, g5⟩, N1, LR, rfl, k1, hR⟩, hperm.nodup_iff.1 hn, hst.sublist fun b hb => hperm.mem_iff.2 hb⟩
theorem a2o {ce : List Value} (h : Ent n w0 L0 fr (owd e E a m c xs (j + 1) :: R) G) : Ent n w0 L0 fr (owt e E a m c xs j ce :: R) G := fun ac w h1 h2 => by
 obtain ⟨L, ⟨Lo, LR, rfl, ⟨c1, c2, L1, L2, rfl, g1, g2, g0, g6, g3, g4, g5⟩, hR⟩, hn, hst⟩ := h2
 exact h ac w h1 ⟨(L1 ++ L2) ++ LR, ⟨L1 ++ L2, LR, rfl, ⟨c1 ++ ce, c2, L1, L2, rfl, g1, g2, by rw [List.length_append, g3, g6, Nat.succ_mul], g4, by rw [List.append_assoc]; exact g5⟩, hR⟩, hn, hst⟩
theorem Has.owt {ce : List Value} {b o : Nat} (ha : a = some ⟨b, o, none⟩) (hm : Go.Proofs.YtlfhopooaejpfaaGreat.owt e E a m c xs j ce ∈ H) : Has w0 L0 H b (o + j * E.k) ce := fun w h => by
 obtain ⟨L', c1, c2, L1, L2, _, g1, g2, hj, g6, g3, g4, h0, g8⟩ := h.mem hm
 rcases g8 with ⟨_, h, _⟩ | ⟨g', cur, h2, h3, h4, h5, h6, h7, _⟩
 ·omega
 rw [ha] at h2; cases h2
 intro i v hi
 have hi' : (c1 ++ (ce ++ c2))[j * E.k + i]? = some v := by
  rw [← g3, List.getElem?_append_right (by omega), show c1.length + i - c1.length = i from by omega]
  rw [List.getElem?_append_left (by exact (List.getElem?_eq_some_iff.1 hi).1)]; exact hi
 rw [← h7, List.getElem?_take] at hi'
 split at hi'
 ·simpa [World.cell?, h3] using hi'
 ·cases hi'
theorem a6t (hm : owd e E a m c xs j ∈ H) (hlt : 0 < m) (h : ∀ b, a = some ⟨b, 0, none⟩ → Ent n w0 L0 fr H G) : Ent n w0 L0 fr H G := fun ac w h1 h2 => by
 obtain ⟨L, hL⟩ := h2.mem hm
 obtain ⟨c1, c2, L1, L2, _, g1, g2, _, _, g4⟩ := hL
 rcases g4.2 with ⟨_, h0, _⟩ | ⟨g, cur, h3, _⟩
 ·omega
 ·exact h g h3 ac w h1 h2
end
theorem P3.has {w1 w0 : World} {L1 L0 : List Nat} {b off : Nat} {cs : List Value} (h : P3 w1 L1 w0 L0) (k : ∀ H, Has w0 L0 H b off cs) : ∀ H, Has w1 L1 H b off cs := fun H w hw => k H w (h H w hw)
theorem frB {a b : Bool} (h : a = b) : some (Value.bool a) = some (Value.bool b) := by rw [h]
end Go.Proofs.YtlfhopooaejpfaaGreat

namespace Go.Proofs.YtlfhopooaejpfaaGreat
set_option linter.unusedVariables false
def M5 (a b : Int) : Int := if a < b then -1 else if b < a then 1 else 0
def G6 : List Int → List Int → Int
 | [], [] => 0
 | [], _ :: _ => -1
 | _ :: _, [] => 1
 | a :: l, b :: m => if M5 a b ≠ 0 then M5 a b else G6 l m
def orI : List Int → Int
 | [] => 0
 | x :: l => if x ≠ 0 then x else orI l
def K4 (a b : Int × List Int) : Int := if M5 a.1 b.1 ≠ 0 then M5 a.1 b.1 else G6 a.2 b.2
theorem b0u {a b : Int} : I64 (M5 a b) := by unfold M5 I64; split; omega; split <;> omega
theorem a9o : ∀ {l m : List Int}, I64 (G6 l m)
 | [], [] => by unfold G6 I64; omega
 | [], _ :: _ => by unfold G6 I64; omega
 | _ :: _, [] => by unfold G6 I64; omega
 | a :: l, b :: m => by unfold G6; split; exact b0u; exact a9o
theorem a7Z {a b : Int} : M5 a b = 0 ↔ a = b := by unfold M5; grind
theorem a2Y : ∀ {l m : List Int}, G6 l m = 0 ↔ l = m
 | [], [] => by simp [G6]
 | [], _ :: _ => by simp [G6]
 | _ :: _, [] => by simp [G6]
 | a :: l, b :: m => by
  have := a7Z (a := a) (b := b)
  have h2 := a2Y (l := l) (m := m)
  unfold G6; grind
theorem a1j {a b : Int × List Int} : K4 a b = 0 ↔ a = b := by
 have h1 := a7Z (a := a.1) (b := b.1)
 have h2 := a2Y (l := a.2) (m := b.2)
 unfold K4
 rcases a with ⟨a1, a2⟩; rcases b with ⟨b1, b2⟩
 grind
def eqP {α : Type} (p : α → α → Bool) : List α → List α → Bool
 | [], [] => true
 | a :: l, b :: m => p a b && eqP p l m
 | _, _ => false
theorem a3B {α : Type} {p : α → α → Bool} : ∀ {l m : List α}, eqP p l m = true → l.length = m.length
 | [], [], _ => rfl
 | [], _ :: _, h => by simp [eqP] at h
 | _ :: _, [], h => by simp [eqP] at h
 | a :: l, b :: m, h => by
  simp only [eqP, Bool.and_eq_true] at h
  simp [a3B h.2]
theorem b0T {α : Type} [DecidableEq α] : ∀ {l m : List α}, eqP (fun z y => decide (z = y)) l m = decide (l = m)
 | [], [] => by simp [eqP]
 | [], _ :: _ => by simp [eqP]
 | _ :: _, [] => by simp [eqP]
 | a :: l, b :: m => by simp [eqP, b0T (l := l) (m := m)]
theorem a4Y {l m : List (Int × List Int)} : eqP (fun z y => decide (K4 z y = 0)) l m = decide (l = m) := by
 rw [← b0T]
 congr 1
 funext z y
 simp [a1j]
end Go.Proofs.YtlfhopooaejpfaaGreat

namespace Go.Proofs.YtlfhopooaejpfaaGreat
set_option linter.unusedVariables false
def I2 (l : List (Int × List Int)) (f : Int × List Int) : Bool := l.any fun z => decide (K4 z f = 0)
def X5 (a : Int × List Int) (b : List Int × List Int) : Int × List Int := (a.1, a.2.map (B1 b))
def b4H (q : List Int × List (Int × List Int)) (d4 : List (Int × List Int)) (head : List Int) (b : List Int × List Int) : Bool :=
 decide (b.1.length = b.2.length) && (decide (q.1.map (B1 b) = head) && !q.2.any fun a => !I2 d4 (X5 a b))
theorem Ro.i64A {w : World} {L : List Nat} {e : TypeId} {a : Option Addr} {m c : Nat} {xs : List (Int × List Int)} (h : Ro w L (Enc.sl e (Enc.pair Enc.int (Enc.sl tI Enc.int))) [.slice a m c] xs) : ∀ x ∈ xs, I64 x.1 ∧ ∀ y ∈ x.2, I64 y := by
 intro x hx
 obtain ⟨i, hi, rfl⟩ := List.getElem_of_mem hx
 obtain ⟨_, _, ci, _, h1, _⟩ := h.elem i hi
 obtain ⟨c1, c2, rfl, h2, h3⟩ := h1.pair
 obtain ⟨a', c', rfl⟩ := h3.sl
 exact ⟨h2.int.2, h3.i64⟩
end Go.Proofs.YtlfhopooaejpfaaGreat

namespace Go.Proofs.YtlfhopooaejpfaaGreat
set_option linter.unusedVariables false
def G4 {α : Type} (r : α → α → Bool) : List α → Bool
 | a :: b :: l => r a b && G4 r (b :: l)
 | _ => true
theorem b2J {α : Type} {l : List α} {g : Nat} (h : g < l.length) (h0 : 0 < g) : l.drop (g - 1) = l[g - 1] :: l[g] :: l.drop (g + 1) := by
 rw [List.drop_eq_getElem_cons (by omega), show g - 1 + 1 = g by omega, List.drop_eq_getElem_cons h]
def ltB (a b : Int) : Bool := decide (a < b)
theorem G3 {α : Type} {r : α → α → Bool} {l : List α} {g : Nat} (h : g < l.length) (h0 : 0 < g) : G4 r (l.drop (g - 1)) = (r l[g - 1] l[g] && G4 r (l.drop g)) := by
 rw [b2J h h0, G4, ← List.drop_eq_getElem_cons h]
theorem G2 {α : Type} {r : α → α → Bool} {l : List α} {g : Nat} (h : g = 0) : G4 r (l.drop (g - 1)) = G4 r (l.drop g) := by subst h; rfl
theorem H4 {α : Type} {r : α → α → Bool} {l : List α} {g : Nat} (h : l.length ≤ g) : G4 r (l.drop (g - 1)) = true := by
 have : (l.drop (g - 1)).length ≤ 1 := by simp; omega
 match l.drop (g - 1), this with
 | [], _ => rfl
 | [x], _ => rfl
 | x :: y :: z, h => simp at h
def W5 (m : Int × List Int × Int × Int × Int) (ar : Int) : Bool :=
 G4 ltB m.2.1 && (T9 m.2.1 ar && (inR m.2.2.1 0 9 && (inR m.2.2.2.1 0 99 && inR m.2.2.2.2 1 99)))
def M9 (s : List Int) (m : Int × List Int × Int × Int × Int) : Bool := J5 s m.1 && W5 m (at0 s m.1)
def G5 (s : List Int) (l : List (Int × List Int × Int × Int × Int)) : Bool := M7 s && (decide ((l.length : Int) ≤ 5) && !l.any fun m => !M9 s m)
def a5r (v : List Int) : Bool := G4 ltB v && O7 v
def V4 (l : List (Int × List Int)) (a : Int × List Int) : Bool := l.any fun z => decide (z = a)
def M0 (I4 : List Int) : Nat → List (List Int)
 | 0 => [[]]
 | n + 1 => (M0 I4 n).flatMap fun l => I4.map fun v => l ++ [v]
def V1 (I4 : List Int) (log : List (Int × List Int)) (i : Int) (k : Nat) : List (Int × List Int) :=
 ((M0 I4 k).filter fun v => !V4 log (i, v)).map fun v => (i, v)
def S8 (I4 : List Int) (log : List (Int × List Int)) : List (Int × List Int × Int × Int × Int) → Int → List (Int × List Int)
 | [], _ => []
 | m :: l, i => (if m.2.2.1 ≠ 0 then [] else V1 I4 log i m.2.1.length) ++ S8 I4 log l (i + 1)
def W0 (s : List Int) (l : List (Int × List Int × Int × Int × Int)) (I4 : List Int) (log : List (Int × List Int)) : List (Int × List Int) :=
 if G5 s l && a5r I4 then S8 I4 log l 0 else []
theorem a8t : ∀ {l : List Int} {a b : Int}, G4 ltB l = true → (∀ x ∈ l, a ≤ x ∧ x ≤ b) → a ≤ b + 1 → (l.length : Int) ≤ b - a + 1
 | [], _, _, _, _, _ => by simp; omega
 | [x], a, b, _, h, _ => by have := h x (by simp); simp; omega
 | x :: y :: l, a, b, hc, h, hab => by
  simp only [G4, ltB, Bool.and_eq_true, decide_eq_true_eq] at hc
  have hx := h x (by simp)
  have hge : ∀ z ∈ y :: l, x + 1 ≤ z := by
   have : ∀ {l : List Int} {y : Int}, G4 ltB (y :: l) = true → ∀ z ∈ y :: l, y ≤ z := by
    intro l
    induction l with
    | nil => intro y _ z hz; simp at hz; omega
    | cons u l ih =>
     intro y hc z hz
     simp only [G4, ltB, Bool.and_eq_true, decide_eq_true_eq] at hc
     rcases List.mem_cons.1 hz with rfl | hz
     ·omega
     ·have := ih hc.2 z hz; omega
   intro z hz
   have := this hc.2 z hz; omega
  have := a8t (l := y :: l) (a := x + 1) (b := b) hc.2 (fun z hz => ⟨hge z hz, (h z (by simp only [List.mem_cons] at hz ⊢; exact .inr hz)).2⟩) (by omega)
  simp only [List.length_cons] at this ⊢; omega
theorem b1Q {s : List Int} {m : Int × List Int × Int × Int × Int} (h : M9 s m = true) : m.2.1.length ≤ 3 := by
 simp only [M9, W5, T9, Bool.and_eq_true, Bool.not_eq_true', List.any_eq_false] at h
 have h1 := Y4 h.1
 have := a8t (a := 0) (b := at0 s m.1 - 1) h.2.1 (fun x hx => by have := h.2.2.1 x hx; simpa [inR] using this) (by simp only [at0]; omega)
 simp only [at0] at this; omega
theorem a0t {s : List Int} {l : List (Int × List Int × Int × Int × Int)} (h : G5 s l = true) : (∀ m ∈ l, m.2.1.length ≤ 3) ∧ l.length ≤ 5 := by
 simp only [G5, Bool.and_eq_true, Bool.not_eq_true', List.any_eq_false, decide_eq_true_eq] at h
 refine ⟨fun m hm => b1Q (s := s) ?_, by omega⟩
 have := h.2.2 m hm
 simpa using this
theorem a5Z {α : Type} {c : α → Nat} {n : Nat} : ∀ {l : List α}, (∀ x ∈ l, c x ≤ n) → C7 c l ≤ l.length * n
 | [], _ => by simp [C7]
 | x :: l, h => by
  have h1 := a5Z (c := c) (n := n) (l := l) fun y hy => h y (by simp [hy])
  have h2 := h x (by simp)
  simp only [C7, List.map_cons, List.sum_cons, List.length_cons, Nat.succ_mul] at h1 ⊢; omega
end Go.Proofs.YtlfhopooaejpfaaGreat

namespace Go.Proofs.YtlfhopooaejpfaaGreat
set_option linter.unusedVariables false
def J4 {α : Type} (p : α → Bool) (f : α) : List α → List α
 | [] => []
 | x :: l => if p x then f :: x :: l else x :: J4 p f l
def P4 {α : Type} (has : Bool) (p : α → Bool) (f : α) (l : List α) : List α := if has then l else if l.any p then J4 p f l else l ++ [f]
section
variable {α : Type} {p q : α → Bool} {f : α}
theorem U5 : ∀ {l : List α}, l.any p = false → J4 p f l = l
 | [], _ => rfl
 | x :: l, h => by
  simp only [List.any_cons, Bool.or_eq_false_iff] at h
  simp [J4, h.1, U5 h.2]
theorem P9 : ∀ {l : List α} {y : α}, J4 p f (l ++ [y]) = if l.any p then J4 p f l ++ [y] else if p y then l ++ [f, y] else l ++ [y]
 | [], y => by simp [J4]
 | x :: l, y => by
  have h := P9 (l := l) (y := y)
  simp only [List.cons_append, J4, List.any_cons, h]
  cases p x <;> cases l.any p <;> cases p y <;> simp
theorem a3Q : ∀ {l : List α}, (J4 p f l).length ≤ l.length + 1
 | [] => by simp [J4]
 | x :: l => by
  have := a3Q (l := l)
  simp only [J4]; split <;> simp <;> omega
theorem a2E {h : Bool} {l : List α} : (P4 h p f l).length ≤ l.length + 1 := by
 have := a3Q (p := p) (f := f) (l := l)
 unfold P4; split; omega; split; omega; simp
theorem a2t {h : Bool} {l : List α} {y : α} (hy : y ∈ P4 h p f l) : y ∈ l ∨ y = f := by
 have ins : ∀ {l : List α}, y ∈ J4 p f l → y ∈ l ∨ y = f := by
  intro l
  induction l with
  | nil => simp [J4]
  | cons x l ih =>
   intro h
   simp only [J4] at h
   split at h
   ·simp only [List.mem_cons] at h ⊢; rcases h with h | h | h <;> simp [h]
   ·simp only [List.mem_cons] at h ⊢
    rcases h with h | h
    ·simp [h]
    ·rcases ih h with h | h <;> simp [h]
 unfold P4 at hy
 split at hy
 ·exact .inl hy
 ·split at hy
  ·exact ins hy
  ·simpa using hy
theorem a9X {l : List α} (hpq : ∀ y ∈ l, p y = q y) : P4 false p f l = l.take (if H3 q l < 0 then l.length else (H3 q l).toNat) ++ f :: l.drop (if H3 q l < 0 then l.length else (H3 q l).toNat) := by
 have ha : l.any p = l.any q := by
  induction l with
  | nil => rfl
  | cons x l ih => simp [List.any_cons, hpq x (by simp), ih fun y hy => hpq y (by simp [hy])]
 unfold P4 H3
 rw [ha]
 by_cases h : l.any q = true
 ·simp only [h, if_true, Bool.false_eq_true, if_false]
  rw [if_neg (by omega), Int.toNat_natCast]
  clear ha
  induction l with
  | nil => simp at h
  | cons x l ih =>
   simp only [J4, List.findIdx_cons, hpq x (by simp)]
   cases hq : q x with
   | true => simp
   | false =>
    simp only [List.any_cons, hq, Bool.false_or] at h
    simp [ih (fun y hy => hpq y (by simp [hy])) h]
 ·simp [h]
end
def G7 (l : List Int) (x : Int) : Bool := l.any fun y => decide (y = x)
def I7 (l : List Int) (x : Int) : List Int := P4 (G7 l x) (fun y => decide (x < y)) x l
def P7 (l : List Int) : List Int := l.foldl I7 []
theorem b0Q : ∀ {a b : List Int}, a.Pairwise (· < ·) → b.Pairwise (· < ·) → (∀ x, x ∈ a ↔ x ∈ b) → a = b
 | [], [], _, _, _ => rfl
 | [], y :: b, _, _, h => by have := (h y).2 (by simp); simp at this
 | x :: a, [], _, _, h => by have := (h x).1 (by simp); simp at this
 | x :: a, y :: b, ha, hb, h => by
  rw [List.pairwise_cons] at ha hb
  have e : x = y := by
   have h1 := (h x).1 (by simp)
   have h2 := (h y).2 (by simp)
   simp only [List.mem_cons] at h1 h2
   rcases h1 with h1 | h1
   ·exact h1
   ·rcases h2 with h2 | h2
    ·exact h2.symm
    ·have := hb.1 x h1; have := ha.1 y h2; omega
  subst e
  rw [b0Q ha.2 hb.2 fun z => ?_]
  have := h z
  simp only [List.mem_cons] at this
  constructor
  ·intro hz
   rcases this.1 (.inr hz) with e | e
   ·have := ha.1 z hz; omega
   ·exact e
  ·intro hz
   rcases this.2 (.inr hz) with e | e
   ·have := hb.1 z hz; omega
   ·exact e
theorem b3n {l : List Int} {x : Int} (h : l.Pairwise (· < ·)) : (I7 l x).Pairwise (· < ·) ∧ ∀ y, y ∈ I7 l x ↔ y ∈ l ∨ y = x := by
 have ins : ∀ {l : List Int}, l.Pairwise (· < ·) → x ∉ l → (if (l.any fun y => decide (x < y)) then J4 (fun y => decide (x < y)) x l else l ++ [x]).Pairwise (· < ·) ∧ ∀ y, y ∈ (if (l.any fun y => decide (x < y)) then J4 (fun y => decide (x < y)) x l else l ++ [x]) ↔ y ∈ l ∨ y = x := by
  intro l
  induction l with
  | nil => intro _ _; simp
  | cons z l ih =>
   intro h hx
   rw [List.pairwise_cons] at h
   simp only [List.mem_cons, not_or] at hx
   have ih' := ih h.2 hx.2
   by_cases hz : x < z
   ·simp only [List.any_cons, hz, decide_true, Bool.true_or, if_true, J4]
    refine ⟨?_, fun y => by simp only [List.mem_cons]; constructor <;> (intro h; rcases h with h | h | h) <;> simp [h]⟩
    rw [List.pairwise_cons, List.pairwise_cons]
    refine ⟨fun y hy => ?_, h⟩
    simp only [List.mem_cons] at hy
    rcases hy with rfl | hy
    ·exact hz
    ·have := h.1 y hy; omega
   ·simp only [List.any_cons, hz, decide_false, Bool.false_or, J4, Bool.false_eq_true, if_false]
    have e : (if (l.any fun y => decide (x < y)) then z :: J4 (fun y => decide (x < y)) x l else z :: l ++ [x]) = z :: (if (l.any fun y => decide (x < y)) then J4 (fun y => decide (x < y)) x l else l ++ [x]) := by split <;> simp
    rw [e]
    refine ⟨?_, fun y => by rw [List.mem_cons, ih'.2 y, List.mem_cons, or_assoc]⟩
    rw [List.pairwise_cons]
    refine ⟨fun y hy => ?_, ih'.1⟩
    rcases (ih'.2 y).1 hy with hy | rfl
    ·exact h.1 y hy
    ·omega
 unfold I7 P4 G7
 by_cases hx : x ∈ l
 ·have : (l.any fun y => decide (y = x)) = true := List.any_eq_true.2 ⟨x, hx, by simp⟩
  rw [if_pos this]
  exact ⟨h, fun y => ⟨.inl, fun e => by rcases e with e | rfl; exact e; exact hx⟩⟩
 ·have : ¬ (l.any fun y => decide (y = x)) = true := fun e => by
   obtain ⟨y, hy, e⟩ := List.any_eq_true.1 e
   simp at e; subst e; exact hx hy
  rw [if_neg this]
  exact ins h hx
theorem a1Y : ∀ {l s : List Int}, s.Pairwise (· < ·) → (l.foldl I7 s).Pairwise (· < ·) ∧ ∀ y, y ∈ l.foldl I7 s ↔ y ∈ s ∨ y ∈ l
 | [], s, h => ⟨h, by simp⟩
 | x :: l, s, h => by
  have h1 := b3n (x := x) h
  have h2 := a1Y (l := l) h1.1
  refine ⟨h2.1, fun y => ?_⟩
  rw [List.foldl_cons, h2.2 y, h1.2 y, List.mem_cons, or_assoc]
theorem b4m {l : List Int} : (P7 l).Pairwise (· < ·) := (a1Y .nil).1
theorem a4e {l : List Int} {y : Int} : y ∈ P7 l ↔ y ∈ l := by rw [P7, (a1Y .nil).2 y]; simp
theorem a9U {l : List Int} : (P7 l).length ≤ l.length := by
 have : ∀ {l s : List Int}, (l.foldl I7 s).length ≤ s.length + l.length := by
  intro l
  induction l with
  | nil => intro s; simp
  | cons x l ih => intro s; have := ih (s := I7 s x); have h2 := a2E (h := G7 s x) (p := fun y => decide (x < y)) (f := x) (l := s); simp only [List.foldl_cons, List.length_cons]; unfold I7 at *; omega
 have h := this (l := l) (s := [])
 simpa [P7] using h
theorem a7A {d : List Int} (hd : d.Pairwise (· ≤ ·)) : (Lib.compact d).Pairwise (· < ·) ∧ ∀ y, y ∈ Lib.compact d ↔ y ∈ d := by
 have hle : ∀ i j, (hij : i ≤ j) → (hj : j < d.length) → d[i]'(by omega) ≤ d[j]'hj := by
  intro i j hij hj
  rcases Nat.lt_or_eq_of_le hij with h | h
  ·exact List.pairwise_iff_getElem.1 hd i j (by omega) hj h
  ·subst h; exact Int.le_refl _
 have hget : ∀ i, (h : i < d.length) → d.toArray[i]! = d[i] := by intro i h; simp [h]
 have key : ∀ m, m ≤ d.length → (Lib.compactUpTo d.toArray m).Pairwise (· < ·) ∧ ∀ y, y ∈ Lib.compactUpTo d.toArray m ↔ y ∈ d.take m := by
  intro m
  induction m with
  | zero => intro _; simp [Lib.compactUpTo]
  | succ m ih =>
   intro hm
   obtain ⟨h1, h2⟩ := ih (by omega)
   have hmem : ∀ y, y ∈ d.take (m + 1) ↔ y ∈ d.take m ∨ y = d[m] := by
    intro y; rw [List.take_succ_eq_append_getElem (show m < d.length by omega), List.mem_append, List.mem_singleton]
   rw [Lib.compactUpTo_succ, hget m (by omega)]
   by_cases hk : Lib.keeps d.toArray m = true
   ·rw [if_pos hk]
    refine ⟨List.pairwise_append.2 ⟨h1, by simp, fun a ha b hb => ?_⟩, fun y => by rw [List.mem_append, h2 y, hmem y]; simp⟩
    simp only [List.mem_singleton] at hb
    subst hb
    rw [h2 a, List.mem_take_iff_getElem] at ha
    obtain ⟨i, hi, rfl⟩ := ha
    have hi' : i < m := by omega
    have e1 := hle i (m - 1) (by omega) (by omega)
    have e2 := hle (m - 1) m (by omega) (by omega)
    have e3 : d[m - 1]'(by omega) ≠ d[m] := by
     intro e
     have := Lib.keeps_neg (d := d.toArray) (m := m) (by omega) (by rw [hget m (by omega), hget (m - 1) (by omega), e])
     rw [this] at hk; cases hk
    omega
   ·rw [if_neg hk, List.append_nil]
    refine ⟨h1, fun y => ?_⟩
    rw [h2 y, hmem y]
    refine ⟨.inl, fun h => h.elim id ?_⟩
    rintro rfl
    have h0 : 0 < m := by
     rcases Nat.eq_zero_or_pos m with e | e
     ·subst e; exact absurd (Lib.keeps_lt_one d.toArray 0 (by omega)) hk
     ·exact e
    have e3 : d[m - 1]'(by omega) = d[m] := by
     refine Classical.byContradiction fun e => hk (Lib.keeps_pos ?_)
     rw [hget m (by omega), hget (m - 1) (by omega)]
     exact fun e' => e e'.symm
    rw [List.mem_take_iff_getElem]
    exact ⟨m - 1, by omega, e3⟩
 have := key d.length (Nat.le_refl _)
 simpa [Lib.compact] using this
theorem a0c {l : List Int} : Lib.compact (l.mergeSort fun x y => decide (x ≤ y)) = P7 l := by
 have hs : (l.mergeSort fun x y => decide (x ≤ y)).Pairwise (· ≤ ·) := by
  have := List.pairwise_mergeSort (le := fun x y : Int => decide (x ≤ y)) (by intro a b c; simp only [decide_eq_true_eq]; omega) (by intro a b; simp only [Bool.or_eq_true, decide_eq_true_eq]; omega) l
  exact this.imp fun h => by simpa using h
 have h := a7A hs
 refine b0Q h.1 b4m fun x => ?_
 rw [h.2 x, a4e]
 exact (List.mergeSort_perm l _).mem_iff
end Go.Proofs.YtlfhopooaejpfaaGreat

namespace Go.Proofs.YtlfhopooaejpfaaGreat
set_option linter.unusedVariables false
theorem b7B {P : Program} {f : FuncId} {args : List Value} {RR RR' : World → List Nat → Prop} {pre : List HP} {κ : Type} {φ : κ → Prop} {ret : κ → Value} {post : κ → List HP} (h : Tr P f args RR pre φ ret post) (hR : ∀ w L, RR' w L → RR w L) : Tr P f args RR' pre φ ret post :=
 ⟨h.1, fun w L hr hs hn => h.2 w L (hR w L hr) hs hn⟩
theorem a1e {l m : List Int} : P7 (l ++ m) = m.foldl I7 (P7 l) := by unfold P7; rw [List.foldl_append]
theorem a1g {l : List Int} {x : Int} : P7 (l ++ [x]) = I7 (P7 l) x := by rw [a1e]; rfl
theorem Y2 {l : List Int} {x : Int} : G7 l x = true ↔ x ∈ l := by
 unfold G7
 rw [List.any_eq_true]
 constructor
 ·rintro ⟨y, hy, e⟩; simp at e; subst e; exact hy
 ·intro h; exact ⟨x, h, by simp⟩
def B7 (is : Int → Bool) (d8 : List (Int × List Int)) : List Int := P7 ((d8.flatMap fun a => a.2).filter is)
theorem a5L : ∀ {l : List (Int × List Int)}, (l.flatMap fun a => a.2).length = C7 (fun x => x.2.length) l
 | [] => rfl
 | a :: l => by simp only [List.flatMap_cons, List.length_append, a5L (l := l), C7, List.map_cons, List.sum_cons]
theorem b3h {is : Int → Bool} {d8 : List (Int × List Int)} {g : Nat} (hz : O5 (fun x => x.2.length) d8 ≤ 1048576) : (((d8.take g).flatMap fun a => a.2).filter is).length ≤ 1048576 := by
 have h1 := List.length_filter_le is ((d8.take g).flatMap fun a => a.2)
 have h2 := b1m (t := fun x : Int × List Int => x.2.length) (l := d8) (g := g)
 rw [a5L] at h1
 unfold O5 at hz; omega
theorem a6R {is : Int → Bool} {d8 : List (Int × List Int)} {g h : Nat} (hz : O5 (fun x => x.2.length) d8 ≤ 1048576) (hg : g < d8.length) : (((d8.take g).flatMap fun a => a.2).filter is ++ (d8[g].2.take h).filter is).length ≤ 1048576 := by
 have h1 := List.length_filter_le is ((d8.take g).flatMap fun a => a.2)
 have h2 := b1m (t := fun x : Int × List Int => x.2.length) (l := d8) (g := g + 1)
 have h3 := List.length_filter_le is (d8[g].2.take h)
 have h4 := List.length_take_le' h d8[g].2
 rw [b2t hg] at h2
 rw [a5L] at h1
 rw [List.length_append]
 unfold O5 at hz; omega
def O8 (t : Int) : Bool := inR t 0 9 || inR t 10 17
def M8 (s : List Int) (a : Int × List Int) : Bool := J5 s a.1 && (decide ((a.2.length : Int) = at0 s a.1) && !a.2.any fun t => !O8 t)
def a0r (q : List Int × List (Int × List Int)) : Bool := decide ((q.1.length : Int) ≤ 3) && !q.1.any fun t => !G7 (B7 (fun t => inR t 10 17) q.2) t
def z8 (s : List Int) (q : List Int × List (Int × List Int)) : Bool := M7 s && (inR (q.2.length : Int) 1 4 && ((!q.2.any fun a => !M8 s a) && a0r q))
def b8q (s : List Int) (u : List (List Int × List (Int × List Int))) (q : List Int × List (Int × List Int)) : Bool := !z8 s q || decide ((q.1.length : Int) ≠ ((u.getD 0 ([], [])).1.length : Int))
def a7H (s : List Int) (u : List (List Int × List (Int × List Int))) : Bool := inR (u.length : Int) 1 3 && !u.any (b8q s u)
def b5M (s : List Int) (g : (List Int × List (Int × List Int)) × List (Int × List Int)) : Bool :=
 z8 s g.1 && (decide ((g.2.length : Int) ≤ 4) && ((!g.2.any fun a => !M8 s a) && !(B7 (fun t => inR t 10 17) g.2).any fun t => !G7 (B7 (fun t => inR t 10 17) g.1.2) t))
end Go.Proofs.YtlfhopooaejpfaaGreat

namespace Go.Proofs.YtlfhopooaejpfaaGreat
set_option linter.unusedVariables false
def ltF (a b : Int × List Int) : Bool := decide (K4 a b < 0)
def D1 (l : List (Int × List Int)) (f : Int × List Int) : List (Int × List Int) := P4 (I2 l f) (ltF f) f l
theorem a9C {a b : Int} : M5 a b = - M5 b a := by unfold M5; grind
theorem a3Z : ∀ {l m : List Int}, G6 l m = - G6 m l
 | [], [] => by simp [G6]
 | [], _ :: _ => by simp [G6]
 | _ :: _, [] => by simp [G6]
 | a :: l, b :: m => by
  have h1 := a9C (a := a) (b := b)
  have h2 := a3Z (l := l) (m := m)
  unfold G6; grind
theorem a6l {a b : Int × List Int} : K4 a b = - K4 b a := by
 have h1 := a9C (a := a.1) (b := b.1)
 have h2 := a3Z (l := a.2) (m := b.2)
 unfold K4; grind
theorem a2u {l : List (Int × List Int)} {f : Int × List Int} (h : I2 l f = true) : D1 l f = l := by simp [D1, P4, h]
theorem a4j {l : List (Int × List Int)} {f : Int × List Int} (h : I2 l f = false) : D1 l f = l.take (if H3 (fun z => decide (0 < K4 z f)) l < 0 then l.length else (H3 (fun z => decide (0 < K4 z f)) l).toNat) ++ f :: l.drop (if H3 (fun z => decide (0 < K4 z f)) l < 0 then l.length else (H3 (fun z => decide (0 < K4 z f)) l).toNat) := by
 rw [D1, h]
 refine a9X fun y _ => ?_
 have := a6l (a := f) (b := y)
 rw [ltF, decide_eq_decide]; omega
theorem a1U {α : Type} {p : α → Bool} {s : List α} : H3 p s ≤ s.length ∧ -1 ≤ H3 p s := by
 unfold H3
 split
 ·have := List.findIdx_le_length (p := p) (xs := s); omega
 ·omega
def J7 {α : Type} (h : Bool) (p : α → Bool) (f : α) (l : List α) : List α := if h then l else J4 p f l
theorem a5U {α : Type} {h : Bool} {p : α → Bool} {f : α} {l : List α} : (J7 h p f l).length ≤ l.length + 1 := by
 have := a3Q (p := p) (f := f) (l := l)
 unfold J7; split <;> omega
theorem F8 {α : Type} {h : Bool} {p : α → Bool} {f : α} : J7 h p f [] = [] := by unfold J7; cases h <;> rfl
theorem E9 {α : Type} {h : Bool} {p : α → Bool} {f : α} {l : List α} {y : α} : J7 h p f (l ++ [y]) = if (h || l.any p) = true then J7 h p f l ++ [y] else if p y = true then J7 h p f l ++ [f, y] else J7 h p f l ++ [y] := by
 unfold J7
 cases h
 ·simp only [Bool.false_eq_true, if_false, Bool.false_or, P9]
  cases ha : l.any p
  ·simp [U5 ha]
  ·simp
 ·simp
theorem E8 {α : Type} {h : Bool} {p : α → Bool} {f : α} {l : List α} : P4 h p f l = if (h || l.any p) = true then J7 h p f l else J7 h p f l ++ [f] := by
 unfold J7 P4
 cases h
 ·cases ha : l.any p
  ·simp [U5 ha]
  ·simp
 ·simp
theorem D9 {α : Type} {p : α → Bool} {l : List α} {g : Nat} (h : g < l.length) : (l.take (g + 1)).any p = ((l.take g).any p || p l[g]) := by
 rw [List.take_succ_eq_append_getElem h, List.any_append]; simp
theorem Q0 {f : Int × List Int} {a : Int} {b : List Int} : ltF f (a, b) = decide (K4 f (a, b) < 0) := rfl
def a0n (s : List Int) (l : List (Int × List Int)) (g : Nat) : Bool := (l.drop g).all (I0 s) && G4 ltF (l.drop (g - 1))
def E0 (s : List Int) (l : List (Int × List Int)) : Bool := a0n s l 0 && (M7 s && decide ((l.length : Int) ≤ 24))
def b7a (d4 : List (Int × List Int)) (f : Int × List Int) (out : List (Int × List Int)) (r : Int × Int × List Int) : List (Int × List Int) :=
 if f.1 = r.1 then (if I2 d4 (r.2.1, a1b r.2.2 f.2) then out else D1 out (r.2.1, a1b r.2.2 f.2)) else out
def b7o (l : List (Int × Int × List Int)) (d4 : List (Int × List Int)) (out : List (Int × List Int)) (f : Int × List Int) : List (Int × List Int) := l.foldl (b7a d4 f) out
def b1S (l : List (Int × Int × List Int)) (d4 : List (Int × List Int)) : List (Int × List Int) := d4.foldl (b7o l d4) []
end Go.Proofs.YtlfhopooaejpfaaGreat

namespace Go.Proofs.YtlfhopooaejpfaaGreat
set_option linter.unusedVariables false
set_option linter.unusedSimpArgs false
theorem K3 {s : List Int} {l : List (Int × List Int)} (h : E0 s l = true) : l.length ≤ 24 ∧ ∀ f ∈ l, I0 s f = true := by
 simp only [E0, a0n, List.drop_zero, Bool.and_eq_true, decide_eq_true_eq, List.all_eq_true] at h
 exact ⟨by omega, h.1.1⟩
theorem V3 {s : List Int} {f : Int × List Int} (h : I0 s f = true) : f.2.length ≤ 3 := by
 simp only [I0, Bool.and_eq_true, decide_eq_true_eq] at h
 have := Y4 h.1
 simp only [at0] at h; omega
theorem b1U {v : List Int} (h : O7 v = true) : ∀ x ∈ v, 0 ≤ x ∧ x ≤ 9 := by
 simp only [O7, Bool.not_eq_true', List.any_eq_false, Bool.not_eq_true] at h
 intro x hx
 have := h x hx
 simp [inR] at this; omega
theorem b2o {v : List Int} (h : ∀ x ∈ v, 0 ≤ x ∧ x ≤ 9) : O7 v = true := by
 simp only [O7, Bool.not_eq_true', List.any_eq_false, Bool.not_eq_true]
 intro x hx
 have := h x hx
 simp [inR]; omega
def b9v (s : List Int) (l : List (Int × Int × List Int)) (d4 : List (Int × List Int)) : List (Int × List Int) := if a3u s l && E0 s d4 then b1S l d4 else []
def a5o (l : List (Int × Int × List Int)) (d4 : List (Int × List Int)) : Nat → List (Int × List Int)
 | 0 => d4
 | n + 1 => (b1S l (a5o l d4 n)).foldl D1 (a5o l d4 n)
def b6G (l : List (Int × Int × List Int)) (d4 : List (Int × List Int)) : List (Int × List Int) := a5o l d4 6001
theorem a2D : ∀ {n : Nat} {l : List Nat}, l.Nodup → (∀ x ∈ l, x < n) → l.length ≤ n
 | 0, l, _, h => by
  cases l with
  | nil => simp
  | cons x l => exact absurd (h x (by simp)) (by omega)
 | n + 1, l, hd, h => by
  by_cases hm : n ∈ l
  ·have h1 := a2D (n := n) (l := l.erase n) (hd.erase n) fun x hx => by
    have h2 := (hd.mem_erase_iff).1 hx
    have := h x h2.2; omega
   rw [List.length_erase_of_mem hm] at h1; omega
  ·have h1 := a2D (n := n) (l := l) hd fun x hx => by
    have h2 := h x hx
    have : x ≠ n := fun e => hm (e ▸ hx)
    omega
   omega
def a1R : List Int → Nat
 | [] => 0
 | v :: l => (v.toNat + 1) + 11 * a1R l
theorem a8v : ∀ {a b : List Int}, (∀ x ∈ a, 0 ≤ x ∧ x ≤ 9) → (∀ x ∈ b, 0 ≤ x ∧ x ≤ 9) → a1R a = a1R b → a = b
 | [], [], _, _, _ => rfl
 | [], y :: b, _, _, h => by simp [a1R] at h; omega
 | x :: a, [], _, _, h => by simp [a1R] at h
 | x :: a, y :: b, ha, hb, h => by
  have h1 := ha x (by simp)
  have h2 := hb y (by simp)
  simp only [a1R] at h
  rw [a8v (a := a) (b := b) (fun z hz => ha z (by simp [hz])) (fun z hz => hb z (by simp [hz])) (by omega), show x = y by omega]
theorem a9Z : ∀ {n : Nat} {a : List Int}, (∀ x ∈ a, 0 ≤ x ∧ x ≤ 9) → a.length ≤ n → a1R a < 11 ^ n
 | n, [], _, _ => by simp [a1R]; exact Nat.pow_pos (by decide)
 | 0, x :: a, _, h => by simp at h
 | n + 1, x :: a, ha, h => by
  have h1 := a9Z (n := n) (a := a) (fun z hz => ha z (by simp [hz])) (by simpa using h)
  have h2 := ha x (by simp)
  simp only [a1R, Nat.pow_succ]; omega
def b2f (f : Int × List Int) : Nat := f.1.toNat + 4 * a1R f.2
theorem a4h {s : List Int} {f : Int × List Int} (h : I0 s f = true) : 0 ≤ f.1 ∧ f.1 < 4 := by
 simp only [I0, Bool.and_eq_true, decide_eq_true_eq] at h
 have h1 := Y4 h.1
 have h2 := h.1
 simp only [J5, M7, inR, Bool.and_eq_true, decide_eq_true_eq] at h2
 omega
theorem Y3 {s : List Int} {f : Int × List Int} (h : I0 s f = true) : ∀ x ∈ f.2, 0 ≤ x ∧ x ≤ 9 := by
 simp only [I0, Bool.and_eq_true] at h
 exact b1U h.2.2
theorem a8z {s : List Int} {D : List (Int × List Int)} (hd : D.Nodup) (h : ∀ f ∈ D, I0 s f = true) : D.length ≤ 5324 := by
 have h1 : (D.map b2f).Nodup := by
  unfold List.Nodup at hd ⊢
  rw [List.pairwise_map]
  refine List.Pairwise.imp_of_mem (fun {a b} ha hb hab e => hab ?_) hd
  have ra := a4h (h a ha)
  have rb := a4h (h b hb)
  simp only [b2f] at e
  have e2 := a8v (Y3 (h a ha)) (Y3 (h b hb)) (by omega)
  exact Prod.ext (by omega) e2
 have h2 := a2D (n := 5324) h1 fun x hx => by
  obtain ⟨f, hf, rfl⟩ := List.mem_map.1 hx
  have r := a4h (h f hf)
  have c := a9Z (n := 3) (Y3 (h f hf)) (V3 (h f hf))
  unfold b2f; omega
 simpa using h2
theorem a6r {α : Type} {p : α → Bool} {f y : α} : ∀ {l : List α}, y ∈ l → y ∈ J4 p f l
 | x :: l, h => by
  simp only [J4]
  simp only [List.mem_cons] at h
  split
  ·simp [h]
  ·rcases h with h | h
   ·simp [h]
   ·simp [a6r h]
theorem a4P {α : Type} {p : α → Bool} {f : α} : ∀ {l : List α}, l.any p = true → f ∈ J4 p f l
 | x :: l, h => by
  simp only [J4]
  split
  ·simp
  ·rename_i h1
   simp only [List.any_cons, h1, Bool.false_or] at h
   simp [a4P h]
theorem a3R {l : List (Int × List Int)} {f y : Int × List Int} (h : y ∈ l) : y ∈ D1 l f := by
 unfold D1 P4
 split
 ·exact h
 ·split
  ·exact a6r h
  ·simp [h]
theorem a1C {l : List (Int × List Int)} {f : Int × List Int} : I2 l f = true ↔ f ∈ l := by
 unfold I2
 rw [List.any_eq_true]
 constructor
 ·rintro ⟨x, hx, e⟩
  rw [decide_eq_true_eq, a1j] at e
  exact e ▸ hx
 ·intro h
  exact ⟨f, h, by rw [decide_eq_true_eq, a1j]⟩
theorem a8w {l : List (Int × List Int)} {f : Int × List Int} (h : I2 l f = false) : f ∈ D1 l f := by
 unfold D1 P4
 rw [h]
 simp only [Bool.false_eq_true, if_false]
 split
 ·rename_i h1; exact a4P h1
 ·simp
def b8s (s : List Int) (x D : List (Int × List Int)) : Prop := D.Nodup ∧ (∀ f ∈ D, f ∈ x) ∧ x.length ≤ 24 + D.length ∧ ∀ f ∈ x, I0 s f = true
def b9X (l : List (Int × Int × List Int)) (d4 : List (Int × List Int)) (n : Nat) : Prop := ∃ s, a3u s l = true ∧ ∃ D, b8s s (a5o l d4 n) D ∧ n ≤ D.length
theorem b4i {m x : List (Int × List Int)} : (m.foldl D1 x).length ≤ x.length + m.length := by
 induction m generalizing x with
 | nil => simp
 | cons f m ih =>
  have h1 := ih (x := D1 x f)
  have h2 := a2E (h := I2 x f) (p := ltF f) (f := f) (l := x)
  simp only [List.foldl_cons, List.length_cons]
  unfold D1 at h1 ⊢; omega
def b9l (s : List Int) (l : List (Int × Int × List Int)) (d4 : List (Int × List Int)) : List (Int × List Int) := if a3u s l && E0 s d4 then b6G l d4 else []
end Go.Proofs.YtlfhopooaejpfaaGreat

namespace Go.Proofs.YtlfhopooaejpfaaGreat
set_option linter.unusedVariables false
set_option linter.unusedSimpArgs false
def unb (b : List Int × List Int) (t : Int) : Bool := !(b.1.take (min b.1.length b.2.length)).any fun x => decide (x = t)
theorem a7p {α : Type} {p : α → Bool} {s : List α} : H3 p s < 0 ↔ s.any p = false := by
 unfold H3
 by_cases h : s.any p = true
 ·rw [if_pos h]; simp [h]
 ·rw [if_neg h]; simp at h; simp; exact h
theorem B4 {b : List Int × List Int} {t : Int} : unb b t = decide (H3 (fun x => decide (x = t)) (b.1.take (min b.1.length b.2.length)) < 0) := by
 rw [unb, Bool.eq_iff_iff, decide_eq_true_eq, a7p]; simp
theorem a1y {V W : List Int} {p : Int → Bool} {g : Nat} (h : g < V.length) (h2 : g < W.length) : ((V.take (min V.length W.length)).drop g).any p = (p V[g] || ((V.take (min V.length W.length)).drop (g + 1)).any p) := by
 rw [List.drop_eq_getElem_cons (by simp; omega)]
 simp
theorem a3h {V W : List Int} {p : Int → Bool} {g : Nat} (h : ¬ (g < V.length ∧ g < W.length)) : ((V.take (min V.length W.length)).drop g).any p = false := by
 rw [List.drop_eq_nil_of_le (by simp; omega)]; rfl
def D5 (x : List Int × List Int) (t v : Int) : List Int × List Int := if inR t 10 17 && unb x t then (x.1 ++ [t], x.2 ++ [v]) else x
def C3 (b : List Int × List Int) (l : List (Int × Int)) : List Int × List Int := l.foldl (fun x p => D5 x p.1 p.2) b
def okV (b : List Int × List Int) : List (Int × Int) → Bool
 | [] => true
 | p :: l => decide (B1 (D5 b p.1 p.2) p.1 = p.2) && okV (D5 b p.1 p.2) l
def r8 (b : List Int × List Int) (a f : Int × List Int) : Bool := decide (a.1 = f.1) && (decide (a.2.length = f.2.length) && (decide (b.1.length = b.2.length) && okV b (a.2.zip f.2)))
def s9 (b : List Int × List Int) (a f : Int × List Int) : List Int × List Int := C3 b (a.2.zip f.2)
theorem B2 {b : List Int × List Int} {t v : List Int} {g : Nat} (h : g < t.length) (h2 : g < v.length) : C3 b ((t.zip v).take (g + 1)) = D5 (C3 b ((t.zip v).take g)) t[g] v[g] := by
 unfold C3
 rw [List.take_succ_eq_append_getElem (by simp; omega), List.foldl_append]
 simp
theorem y7 {b : List Int × List Int} {t v : List Int} {g : Nat} (h : g < t.length) (h2 : g < v.length) : okV b ((t.zip v).drop g) = (decide (B1 (D5 b t[g] v[g]) t[g] = v[g]) && okV (D5 b t[g] v[g]) ((t.zip v).drop (g + 1))) := by
 rw [List.drop_eq_getElem_cons (by simp; omega)]
 simp [okV]
theorem B3 {b : List Int × List Int} {t v : List Int} {g : Nat} (h : t.length ≤ g) : okV b ((t.zip v).drop g) = true := by
 rw [List.drop_eq_nil_of_le (by simp; omega)]; rfl
theorem D4 {b : List Int × List Int} {t v : List Int} {g : Nat} (h : t.length ≤ g) : C3 b ((t.zip v).take g) = C3 b (t.zip v) := by
 rw [List.take_of_length_le (by simp; omega)]
theorem b0a {x : List Int × List Int} {t v : Int} : (D5 x t v).1.length ≤ x.1.length + 1 ∧ (D5 x t v).2.length ≤ x.2.length + 1 := by
 unfold D5; split <;> simp
theorem a2m {x : List Int × List Int} {t v : Int} (h : x.1.length = x.2.length) : (D5 x t v).1.length = (D5 x t v).2.length := by
 unfold D5; split <;> simp [h]
theorem a4Z : ∀ {l : List (Int × Int)} {x : List Int × List Int}, (C3 x l).1.length ≤ x.1.length + l.length ∧ (C3 x l).2.length ≤ x.2.length + l.length
 | [], x => by simp [C3]
 | p :: l, x => by
  have h1 := a4Z (l := l) (x := D5 x p.1 p.2)
  have h2 := b0a (x := x) (t := p.1) (v := p.2)
  simp only [C3, List.foldl_cons, List.length_cons] at h1 ⊢; omega
theorem a3W : ∀ {l : List (Int × Int)} {x : List Int × List Int}, x.1.length = x.2.length → (C3 x l).1.length = (C3 x l).2.length
 | [], x, h => h
 | p :: l, x, h => by
  have := a3W (l := l) (a2m (t := p.1) (v := p.2) h)
  simpa only [C3, List.foldl_cons] using this
theorem b3k {b : List Int × List Int} {t v : List Int} {g : Nat} : (C3 b ((t.zip v).take g)).1.length ≤ b.1.length + t.length ∧ (C3 b ((t.zip v).take g)).2.length ≤ b.2.length + t.length := by
 have h := a4Z (l := (t.zip v).take g) (x := b)
 have h2 : ((t.zip v).take g).length ≤ t.length := by simp; omega
 omega
theorem b1n {x : List Int × List Int} {t v : Int} (h : x.1.length = x.2.length) (h1 : inR t 10 17 = true) (h2 : unb x t = true) : B1 (x.1 ++ [t], x.2 ++ [v]) t = v := by
 have e := a2w (b := (x.1 ++ [t], x.2 ++ [v])) (t := t) (g := x.1.length) h1 (by simp) (by simp [h]) (by simp) (by
  intro y hy
  simp only [unb, h, Nat.min_self, Bool.not_eq_true', List.any_eq_false] at h2
  rw [List.take_append_of_le_length (Nat.le_refl _), List.take_length] at hy
  have := h2 y (by rw [← h, List.take_length]; exact hy)
  simpa using this)
 rw [← e]
 simp [h]
theorem a6E {x : List Int × List Int} {t v : Int} (h : (inR t 10 17 && unb x t) = false) : D5 x t v = x := by unfold D5; rw [h]; simp
theorem a5p {x : List Int × List Int} {t v : Int} (h : (inR t 10 17 && unb x t) = true) : D5 x t v = (x.1 ++ [t], x.2 ++ [v]) := by unfold D5; rw [h]; simp
theorem J9 {x : List Int × List Int} {t v : Int} (h : x.1.length = x.2.length) : decide (B1 (D5 x t v) t = v) = (inR t 10 17 && unb x t || decide (B1 x t = v)) := by
 cases hc : inR t 10 17 && unb x t with
 | false => rw [a6E hc]; simp
 | true =>
  rw [a5p hc]
  rw [Bool.and_eq_true] at hc
  rw [b1n h hc.1 hc.2]; simp
def K7 (b : List Int × List Int) (a : Int × List Int) (d4 : List (Int × List Int)) : List (List Int × List Int) := (d4.filter (r8 b a)).map (s9 b a)
def E5 (l : List (List Int × List Int)) (a : Int × List Int) (d4 : List (Int × List Int)) : List (List Int × List Int) := l.flatMap fun b => K7 b a d4
theorem U7 {b : List Int × List Int} {a : Int × List Int} : K7 b a [] = [] := rfl
theorem R8 {b : List Int × List Int} {a f : Int × List Int} {l : List (Int × List Int)} : K7 b a (l ++ [f]) = if r8 b a f then K7 b a l ++ [s9 b a f] else K7 b a l := by
 unfold K7
 cases h : r8 b a f <;> simp [List.filter_append, h]
theorem U8 {a : Int × List Int} {d4 : List (Int × List Int)} : E5 [] a d4 = [] := rfl
theorem R7 {l : List (List Int × List Int)} {b : List Int × List Int} {a : Int × List Int} {d4 : List (Int × List Int)} : E5 (l ++ [b]) a d4 = E5 l a d4 ++ K7 b a d4 := by
 simp [E5]
theorem a2y {b : List Int × List Int} {a : Int × List Int} {d4 : List (Int × List Int)} : (K7 b a d4).length ≤ d4.length := by
 unfold K7; rw [List.length_map]; exact List.length_filter_le _ _
theorem a9H {a : Int × List Int} {d4 : List (Int × List Int)} : ∀ {l : List (List Int × List Int)}, (E5 l a d4).length ≤ l.length * d4.length
 | [] => by simp [E5]
 | b :: l => by
  have h1 := a9H (a := a) (d4 := d4) (l := l)
  have h2 := a2y (b := b) (a := a) (d4 := d4)
  simp only [E5, List.flatMap_cons, List.length_append, List.length_cons, Nat.succ_mul] at h1 ⊢; omega
theorem b0p {n k : Nat} {a : Int × List Int} {d4 : List (Int × List Int)} {l : List (List Int × List Int)} (ha : a.2.length ≤ k) (h : ∀ b ∈ l, b.1.length ≤ n ∧ b.2.length ≤ n) : ∀ b ∈ E5 l a d4, b.1.length ≤ n + k ∧ b.2.length ≤ n + k := by
 intro b hb
 simp only [E5, K7, List.mem_flatMap, List.mem_map] at hb
 obtain ⟨x, hx, f, _, rfl⟩ := hb
 have h1 := h x hx
 have h2 := a4Z (l := a.2.zip f.2) (x := x)
 have h3 : (a.2.zip f.2).length ≤ a.2.length := by simp; omega
 unfold s9; omega
def J8 (d8 : List (Int × List Int)) (d4 : List (Int × List Int)) : List (List Int × List Int) := d8.foldl (fun l a => E5 l a d4) [([], [])]
theorem a1X {d4 : List (Int × List Int)} : J8 [] d4 = [([], [])] := rfl
theorem a1v {d8 d4 : List (Int × List Int)} {a : Int × List Int} : J8 (d8 ++ [a]) d4 = E5 (J8 d8 d4) a d4 := by
 simp [J8]
theorem a8c {d4 : List (Int × List Int)} (hf : d4.length ≤ 24) : ∀ {n : Nat} {d8 : List (Int × List Int)}, d8.length = n → (∀ a ∈ d8, a.2.length ≤ 3) → (J8 d8 d4).length ≤ 24 ^ n ∧ ∀ b ∈ J8 d8 d4, b.1.length ≤ 3 * n ∧ b.2.length ≤ 3 * n
 | 0, d8, hn, _ => by
  obtain rfl := List.length_eq_zero_iff.1 hn
  simp [a1X]
 | n + 1, d8, hn, h => by
  have h0 : d8 ≠ [] := by intro e; subst e; simp at hn
  rw [← List.dropLast_concat_getLast h0] at hn h ⊢
  rw [List.length_append] at hn
  have ih := a8c hf (n := n) (d8 := d8.dropLast) (by simpa using hn) (fun a ha => h a (by simp [ha]))
  rw [a1v]
  have h1 := a9H (a := d8.getLast h0) (d4 := d4) (l := J8 d8.dropLast d4)
  have h2 := Nat.mul_le_mul ih.1 hf
  have h3 := b0p (d4 := d4) (h (d8.getLast h0) (by simp)) ih.2
  exact ⟨by rw [Nat.pow_succ]; omega, fun b hb => by have := h3 b hb; omega⟩
theorem b0d {d4 d8 : List (Int × List Int)} (hf : d4.length ≤ 24) (hn : d8.length ≤ 4) (h : ∀ a ∈ d8, a.2.length ≤ 3) : (J8 d8 d4).length ≤ 331776 ∧ ∀ b ∈ J8 d8 d4, b.1.length ≤ 12 ∧ b.2.length ≤ 12 := by
 have h1 := a8c hf rfl h
 have h2 : 24 ^ d8.length ≤ 24 ^ 4 := Nat.pow_le_pow_right (by decide) hn
 exact ⟨by omega, fun b hb => by have := h1.2 b hb; omega⟩
def N3 (l : List (List Int)) (t : List Int) : Bool := l.any fun x => decide (x = t)
def ltT (a b : List Int) : Bool := decide (G6 a b < 0)
def K0 (l : List (List Int)) (t : List Int) : List (List Int) := P4 (N3 l t) (ltT t) t l
theorem a5S {l : List (List Int)} {t : List Int} (h : N3 l t = true) : K0 l t = l := by simp [K0, P4, h]
theorem a6f {l : List (List Int)} {f : List Int} (h : N3 l f = false) : K0 l f = l.take (if H3 (fun z => decide (0 < G6 z f)) l < 0 then l.length else (H3 (fun z => decide (0 < G6 z f)) l).toNat) ++ f :: l.drop (if H3 (fun z => decide (0 < G6 z f)) l < 0 then l.length else (H3 (fun z => decide (0 < G6 z f)) l).toNat) := by
 rw [K0, h]
 refine a9X fun y _ => ?_
 have := a3Z (l := f) (m := y)
 rw [ltT, decide_eq_decide]; omega
theorem b3F {l : List (List Int)} {t : List Int} : (K0 l t).length ≤ l.length + 1 := a2E
def O4 (h : List Int) (l : List (List Int × List Int)) : List (List Int) := l.foldl (fun out b => K0 out (h.map (B1 b))) []
theorem a1l {h : List Int} : O4 h [] = [] := rfl
theorem a0H {h : List Int} {l : List (List Int × List Int)} {b : List Int × List Int} : O4 h (l ++ [b]) = K0 (O4 h l) (h.map (B1 b)) := by simp [O4]
theorem a6k {h : List Int} : ∀ {l : List (List Int × List Int)} {out : List (List Int)}, (l.foldl (fun out b => K0 out (h.map (B1 b))) out).length ≤ out.length + l.length ∧ ((∀ t ∈ out, t.length ≤ h.length) → ∀ t ∈ l.foldl (fun out b => K0 out (h.map (B1 b))) out, t.length ≤ h.length)
 | [], out => by simp
 | b :: l, out => by
  have h1 := a6k (h := h) (l := l) (out := K0 out (h.map (B1 b)))
  have h2 := b3F (l := out) (t := h.map (B1 b))
  refine ⟨by simp only [List.foldl_cons, List.length_cons]; omega, fun ho => h1.2 fun t ht => ?_⟩
  rcases a2t ht with ht | rfl
  ·exact ho t ht
  ·simp
theorem b1E {h : List Int} {l : List (List Int × List Int)} : (O4 h l).length ≤ l.length := by have := (a6k (h := h) (l := l) (out := [])).1; simpa [O4] using this
theorem b2u {h : List Int} {l : List (List Int × List Int)} : ∀ t ∈ O4 h l, t.length ≤ h.length := (a6k (h := h) (l := l) (out := [])).2 (by simp)
theorem R6 {s : List Int} {q : List Int × List (Int × List Int)} (h : z8 s q = true) : q.2.length ≤ 4 ∧ q.1.length ≤ 3 ∧ ∀ a ∈ q.2, a.2.length ≤ 3 := by
 simp only [z8, a0r, inR, Bool.and_eq_true, decide_eq_true_eq, Bool.not_eq_true', List.any_eq_false, Bool.not_eq_true] at h
 refine ⟨by omega, by omega, fun a ha => ?_⟩
 have h1 := h.2.2.1 a ha
 have h1 : M8 s a = true := by simpa using h1
 simp only [M8, Bool.and_eq_true, decide_eq_true_eq] at h1
 have := Y4 h1.1
 simp only [at0] at h1; omega
def V9 (s : List Int) (q : List Int × List (Int × List Int)) (d4 : List (Int × List Int)) : List (List Int) := if z8 s q && E0 s d4 then O4 q.1 (J8 q.2 d4) else []
end Go.Proofs.YtlfhopooaejpfaaGreat

namespace Go.Proofs.YtlfhopooaejpfaaGreat
set_option linter.unusedVariables false
set_option linter.unusedSimpArgs false
def nxt (u : List Int) : Nat → Nat → Nat
 | 0, v => v
 | n + 1, v => if G7 u (v : Int) then nxt u n (v + 1) else v
def X7 (u : List Int) (v : Nat) : Nat := nxt u 11 v
theorem b5G {u : List Int} (hu : ∀ x ∈ u, 0 ≤ x ∧ x ≤ 9) {v : Nat} (h : G7 u (v : Int) = true) : v ≤ 9 := by
 have := (hu _ (Y2.1 h)).2; omega
def fzN (u : List Int) : Nat → Nat
 | 0 => 0
 | g + 1 => X7 u (fzN u g) + 1
def a9a (u : List Int) (n : Nat) : Bool := (List.range n).all fun i => decide (X7 u (fzN u i) ≤ 9)
def a2b (u : List Int) (n : Nat) : List Int := (List.range n).map fun i => (X7 u (fzN u i) : Int)
theorem a9z {u : List Int} {n : Nat} : (a2b u n).length = n := by simp [a2b]
theorem b2y {u : List Int} {n : Nat} (h : ∀ i, i < n → X7 u (fzN u i) ≤ 9) : a9a u n = true := by
 rw [a9a, List.all_eq_true]
 intro i hi
 rw [decide_eq_true_eq]
 exact h i (List.mem_range.1 hi)
def J6 (d8 : List (Int × List Int)) : List Int := B7 (fun t => inR t 10 17) d8
def b4G (d8 : List (Int × List Int)) : List Int := B7 (fun t => inR t 0 9) d8
def a4V (d8 : List (Int × List Int)) (b : List Int × List Int) : List (Int × List Int) := d8.foldl (fun out a => D1 out (X5 a b)) []
def fzB (u : List Int) (d8 : List (Int × List Int)) : Bool := a9a u (J6 d8).length
def fzV (u : List Int) (d8 : List (Int × List Int)) : List Int := cond (fzB u d8) (J6 d8) []
def fzX (u : List Int) (d8 : List (Int × List Int)) : List Int := cond (fzB u d8) (a2b u (J6 d8).length) []
def fzF (u : List Int) (d8 : List (Int × List Int)) : List (Int × List Int) := cond (fzB u d8) (a4V d8 (J6 d8, a2b u (J6 d8).length)) []
theorem b5H {d8 : List (Int × List Int)} : ∀ x ∈ b4G d8, 0 ≤ x ∧ x ≤ 9 := by
 intro x hx
 unfold b4G B7 at hx
 rw [a4e, List.mem_filter] at hx
 have := hx.2
 simpa [inR] using this
theorem b5d {d8 : List (Int × List Int)} : ∀ x ∈ J6 d8, 10 ≤ x ∧ x ≤ 17 := by
 intro x hx
 unfold J6 B7 at hx
 rw [a4e, List.mem_filter] at hx
 have := hx.2
 simpa [inR] using this
end Go.Proofs.YtlfhopooaejpfaaGreat
