import Derived.Test.YtdopeopehgdccaaGreatBc
import Derived.Lib.SlicesCompact
namespace Go.Proofs.YtdopeopehgdccaaGreat
open Go.RowKit
set_option linter.unusedVariables false
def FnP2 {α : Type} (P : Program) (w : World) (L : List Nat) (g : FuncId) (caps : List Value) (E : Enc α) (val : List Value → Value) (p : α → α → Bool) : Prop :=
 a7x P g ∧ ∀ w', Keep w L w' → ∀ cs x ds y, Ro w' [] E cs x → Ro w' [] E ds y → Calls P g (val cs :: val ds :: caps).toArray w' fun e w'' => e = .returned (.bool (p x y)) ∧ Ext w' w''
section
variable {P : Program} {α : Type} {E : Enc α} {w w0 : World} {L L0 Lp : List Nat} {pre rest : List HP} {g : FuncId} {caps : List Value} {val : List Value → Value} {p : α → α → Bool}
end
section
variable {P : Program} {Q : Exit → Act → World → Prop} {n : Nat} {w0 : World} {L0 : List Nat} {fr : Fr} {H : List HP} {d : Nat} {ty : TypeId} {pos : String} {af : Array Edge} {g : Option (Nat × Bool)}
end
section
variable {P : Program} {w : World} {L : List Nat} {g : FuncId} {caps : List Value} {RR : World → List Nat → Prop}
theorem c0H {p : (Int × List Int) → (Int × List Int) → Bool} (tr : ∀ {x0 : Int} {ax1 : Option Addr} {mx1 cx1 : Nat} {x1 : List Int} {y0 : Int} {ay1 : Option Addr} {my1 cy1 : Nat} {y1 : List Int}, Tr P g (.agg #[.int .i64 x0, .slice ax1 mx1 cx1] :: .agg #[.int .i64 y0, .slice ay1 my1 cy1] :: caps) (fun w L => (I64 x0 ∧ Ro w L eIs [.slice ax1 mx1 cx1] x1 ∧ I64 y0 ∧ Ro w L eIs [.slice ay1 my1 cy1] y1) ∧ RR w L) [] (κ := Unit) (fun _ => True) (fun _ => .bool (p (x0, x1) (y0, y1))) (fun _ => [])) (hR : ∀ w', Keep w L w' → RR w' []) : FnP2 P w L g caps F8 a1B p :=
 ⟨(tr (x0 := 0) (x1 := []) (ax1 := none) (mx1 := 0) (cx1 := 0) (y0 := 0) (y1 := []) (ay1 := none) (my1 := 0) (cy1 := 0)).1, fun w' k cs x ds y hx hy => by obtain ⟨a0, c0, rfl, h0, h1⟩ := O2 hx; obtain ⟨b0, e0, rfl, k0, k1⟩ := O2 hy; exact Tr.bool tr ⟨⟨h0, h1, k0, k1⟩, hR w' k⟩⟩
theorem b9D {p : (Int × List Int) → (Int × List Int) → Bool} (tr : ∀ {x0 : Int} {ax1 : Option Addr} {mx1 cx1 : Nat} {x1 : List Int} {y0 : Int} {ay1 : Option Addr} {my1 cy1 : Nat} {y1 : List Int}, Tr P g (.agg #[.int .i64 x0, .slice ax1 mx1 cx1] :: .agg #[.int .i64 y0, .slice ay1 my1 cy1] :: caps) (fun w L => (I64 x0 ∧ Ro w L eIs [.slice ax1 mx1 cx1] x1 ∧ I64 y0 ∧ Ro w L eIs [.slice ay1 my1 cy1] y1) ∧ RR w L) [] (κ := Unit) (fun _ => True) (fun _ => .bool (p (x0, x1) (y0, y1))) (fun _ => [])) (hR : ∀ w', Keep w L w' → RR w' []) : FnP2 P w L g caps Y6 a1B p :=
 ⟨(tr (x0 := 0) (x1 := []) (ax1 := none) (mx1 := 0) (cx1 := 0) (y0 := 0) (y1 := []) (ay1 := none) (my1 := 0) (cy1 := 0)).1, fun w' k cs x ds y hx hy => by obtain ⟨a0, c0, rfl, h0, h1⟩ := a1O hx; obtain ⟨b0, e0, rfl, k0, k1⟩ := a1O hy; exact Tr.bool tr ⟨⟨h0, h1, k0, k1⟩, hR w' k⟩⟩
theorem c0I {p : (Int × List Int) → (Int × List Int) → Bool} (tr : ∀ {x0 : Int} {ax1 : Option Addr} {mx1 cx1 : Nat} {x1 : List Int} {y0 : Int} {ay1 : Option Addr} {my1 cy1 : Nat} {y1 : List Int}, Tr P g (.agg #[.int .i64 x0, .slice ax1 mx1 cx1] :: .agg #[.int .i64 y0, .slice ay1 my1 cy1] :: caps) (fun w L => (I64 x0 ∧ Ro w L eIs [.slice ax1 mx1 cx1] x1 ∧ I64 y0 ∧ Ro w L eIs [.slice ay1 my1 cy1] y1) ∧ RR w L) [] (κ := Unit) (fun _ => True) (fun _ => .bool (p (x0, x1) (y0, y1))) (fun _ => [])) (hR : ∀ w', Keep w L w' → RR w' []) : FnP2 P w L g caps W7 a1B p :=
 ⟨(tr (x0 := 0) (x1 := []) (ax1 := none) (mx1 := 0) (cx1 := 0) (y0 := 0) (y1 := []) (ay1 := none) (my1 := 0) (cy1 := 0)).1, fun w' k cs x ds y hx hy => by obtain ⟨a0, c0, rfl, h0, h1⟩ := J6 hx; obtain ⟨b0, e0, rfl, k0, k1⟩ := J6 hy; exact Tr.bool tr ⟨⟨h0, h1, k0, k1⟩, hR w' k⟩⟩
theorem c1s {p : List Int → List Int → Bool} (tr : ∀ {ax : Option Addr} {mx cx : Nat} {x : List Int} {ay : Option Addr} {my cy : Nat} {y : List Int}, Tr P g (.slice ax mx cx :: .slice ay my cy :: caps) (fun w L => (Ro w L eIs [.slice ax mx cx] x ∧ Ro w L eIs [.slice ay my cy] y) ∧ RR w L) [] (κ := Unit) (fun _ => True) (fun _ => .bool (p x y)) (fun _ => [])) (hR : ∀ w', Keep w L w' → RR w' []) : FnP2 P w L g caps eIs a7b p :=
 ⟨(tr (ax := none) (mx := 0) (cx := 0) (x := []) (ay := none) (my := 0) (cy := 0) (y := [])).1, fun w' k cs x ds y hx hy => by obtain ⟨a, c, rfl⟩ := hx.sl; obtain ⟨b, e, rfl⟩ := hy.sl; exact (tr (x := x) (y := y)).bool ⟨⟨hx, hy⟩, hR w' k⟩⟩
end
end Go.Proofs.YtdopeopehgdccaaGreat

namespace Go.Proofs.YtdopeopehgdccaaGreat
open Go.RowKit
set_option linter.unusedVariables false
def owd {α : Type} (e : TypeId) (E : Enc α) (a : Option Addr) (m c : Nat) (xs : List α) (j : Nat) : HP where
 holds w L := ∃ c1 c2 L1 L2, L = L1 ++ L2 ∧ m = xs.length ∧ m ≤ maxLen ∧ c1.length = j * E.k ∧ B0 E w c2 (xs.drop j) L2 true ∧ (row e E.k a m c (c1 ++ c2)).holds w L1
 stable := by
  rintro w w' L ⟨c1, c2, L1, L2, rfl, h1, h2, h3, h4, h5⟩ hb
  exact ⟨c1, c2, L1, L2, rfl, h1, h2, h3, h4.stable fun b h => hb b (by simp [h]), (row e E.k a m c _).stable h5 fun b h => hb b (by simp [h])⟩
 inh := by
  rintro w L ⟨c1, c2, L1, L2, rfl, h1, h2, h3, h4, h5⟩ b hb
  rcases List.mem_append.1 hb with hb | hb
  ·exact (row e E.k a m c _).inh h5 b hb
  ·exact h4.inh b hb
def owt {α : Type} (e : TypeId) (E : Enc α) (a : Option Addr) (m c : Nat) (xs : List α) (j : Nat) (ce : List Value) : HP where
 holds w L := ∃ c1 c2 L1 L2, L = L1 ++ L2 ∧ m = xs.length ∧ m ≤ maxLen ∧ j < xs.length ∧ ce.length = E.k ∧ c1.length = j * E.k ∧ B0 E w c2 (xs.drop (j + 1)) L2 true ∧ (row e E.k a m c (c1 ++ (ce ++ c2))).holds w L1
 stable := by
  rintro w w' L ⟨c1, c2, L1, L2, rfl, h1, h2, h0, h6, h3, h4, h5⟩ hb
  exact ⟨c1, c2, L1, L2, rfl, h1, h2, h0, h6, h3, h4.stable fun b h => hb b (by simp [h]), (row e E.k a m c _).stable h5 fun b h => hb b (by simp [h])⟩
 inh := by
  rintro w L ⟨c1, c2, L1, L2, rfl, h1, h2, h0, h6, h3, h4, h5⟩ b hb
  rcases List.mem_append.1 hb with hb | hb
  ·exact (row e E.k a m c _).inh h5 b hb
  ·exact h4.inh b hb
section
variable {n : Nat} {w0 : World} {L0 : List Nat} {fr : Fr} {H R : List HP} {G : Act → World → Prop} {α : Type} {E : Enc α} {e : TypeId} {a : Option Addr} {m c : Nat} {xs : List α} {j : Nat}
theorem a8n (h : Ent n w0 L0 fr (owd e E a m c xs 0 :: R) G) : Ent n w0 L0 fr (ow (Enc.sl e E) [.slice a m c] xs :: R) G := fun ac w h1 h2 => by
 obtain ⟨L, ⟨Lo, LR, rfl, ho, hR⟩, hn, hst⟩ := h2
 obtain ⟨ccs, L1, L2, rfl, g1, g2, g3, g4⟩ := a1Z ho
 exact h ac w h1 ⟨(L1 ++ L2) ++ LR, ⟨L1 ++ L2, LR, rfl, ⟨[], ccs, L1, L2, rfl, g1, g2, by simp, g3, g4⟩, hR⟩, hn, hst⟩
theorem a8o (hj : j < xs.length) (h : ∀ ce, Ent n w0 L0 fr (owt e E a m c xs j ce :: ow E ce xs[j] :: R) G) : Ent n w0 L0 fr (owd e E a m c xs j :: R) G := fun ac w h1 h2 => by
 obtain ⟨L, ⟨Lo, LR, rfl, ⟨c1, c2, L1, L2, rfl, g1, g2, g3, g4, g5⟩, hR⟩, hn, hst⟩ := h2
 rw [List.drop_eq_getElem_cons hj] at g4
 obtain ⟨d1, d2, N1, N2, rfl, rfl, k1, k2⟩ := g4
 have hperm : (L1 ++ (N1 ++ N2) ++ LR).Perm ((L1 ++ N2) ++ (N1 ++ LR)) := by
  simp only [List.append_assoc]
  refine List.Perm.append_left L1 ?_
  rw [← List.append_assoc, ← List.append_assoc]
  exact (List.perm_append_comm).append_right LR
 exact h d1 ac w h1 ⟨(L1 ++ N2) ++ (N1 ++ LR), ⟨_, _, rfl, ⟨c1, d2, L1, N2, rfl, g1, g2, hj, E.len k1, g3, k2, g5⟩, N1, LR, rfl, k1, hR⟩, hperm.nodup_iff.1 hn, hst.sublist fun b hb => hperm.mem_iff.2 hb⟩
theorem a4c {ce : List Value} (h : Ent n w0 L0 fr (owd e E a m c xs (j + 1) :: R) G) : Ent n w0 L0 fr (owt e E a m c xs j ce :: R) G := fun ac w h1 h2 => by
 obtain ⟨L, ⟨Lo, LR, rfl, ⟨c1, c2, L1, L2, rfl, g1, g2, g0, g6, g3, g4, g5⟩, hR⟩, hn, hst⟩ := h2
 exact h ac w h1 ⟨(L1 ++ L2) ++ LR, ⟨L1 ++ L2, LR, rfl, ⟨c1 ++ ce, c2, L1, L2, rfl, g1, g2, by rw [List.length_append, g3, g6, Nat.succ_mul], g4, by rw [List.append_assoc]; exact g5⟩, hR⟩, hn, hst⟩
theorem b5x {cs : List Value} (h : ∀ (a : Option Addr) (m c : Nat), cs = [.slice a m c] → m = xs.length → Ent n w0 L0 fr (ow (Enc.sl e E) [.slice a m c] xs :: R) G) : Ent n w0 L0 fr (ow (Enc.sl e E) cs xs :: R) G := fun ac w h1 h2 => by
 obtain ⟨L, ⟨Lx, LR, rfl, hx, hR⟩, hn, hst⟩ := h2
 obtain ⟨a, m, c, ccs, L1, L2, rfl, hm, hx2⟩ := id hx
 exact h a m c rfl hm ac w h1 ⟨Lx ++ LR, ⟨Lx, LR, rfl, hx, hR⟩, hn, hst⟩
theorem Has.owt {ce : List Value} {b o : Nat} (ha : a = some ⟨b, o, none⟩) (hm : Go.Proofs.YtdopeopehgdccaaGreat.owt e E a m c xs j ce ∈ H) : Has w0 L0 H b (o + j * E.k) ce := fun w h => by
 obtain ⟨L', c1, c2, L1, L2, _, g1, g2, hj, g6, g3, g4, h0, g8⟩ := h.mem hm
 rcases g8 with ⟨_, h, _⟩ | ⟨g', cur, h2, h3, h4, h5, h6, h7, _⟩
 ·omega
 rw [ha] at h2; cases h2
 intro i v hi
 have hi' : (c1 ++ (ce ++ c2))[j * E.k + i]? = some v := by
  rw [← g3, List.getElem?_append_right (by omega), show c1.length + i - c1.length = i from by omega]
  rw [List.getElem?_append_left (by exact (List.getElem?_eq_some_iff.1 hi).1)]; exact hi
 rw [← h7, List.getElem?_take] at hi'
 split at hi'
 ·simpa [World.cell?, h3] using hi'
 ·cases hi'
theorem a6y (hm : owd e E a m c xs j ∈ H) (hlt : 0 < m) (h : ∀ b, a = some ⟨b, 0, none⟩ → Ent n w0 L0 fr H G) : Ent n w0 L0 fr H G := fun ac w h1 h2 => by
 obtain ⟨L, hL⟩ := h2.mem hm
 obtain ⟨c1, c2, L1, L2, _, g1, g2, _, _, g4⟩ := hL
 rcases g4.2 with ⟨_, h0, _⟩ | ⟨g, cur, h3, _⟩
 ·omega
 ·exact h g h3 ac w h1 h2
end
theorem a0e.has {w1 w0 : World} {L1 L0 : List Nat} {b off : Nat} {cs : List Value} (h : a0e w1 L1 w0 L0) (k : ∀ H, Has w0 L0 H b off cs) : ∀ H, Has w1 L1 H b off cs := fun H w hw => k H w (h H w hw)
theorem frB {a b : Bool} (h : a = b) : some (Value.bool a) = some (Value.bool b) := by rw [h]
end Go.Proofs.YtdopeopehgdccaaGreat

namespace Go.Proofs.YtdopeopehgdccaaGreat
set_option linter.unusedVariables false
def Q8 (a b : Int) : Int := if a < b then -1 else if b < a then 1 else 0
def I1 : List Int → List Int → Int
 | [], [] => 0
 | [], _ :: _ => -1
 | _ :: _, [] => 1
 | a :: l, b :: m => if Q8 a b ≠ 0 then Q8 a b else I1 l m
def orI : List Int → Int
 | [] => 0
 | x :: l => if x ≠ 0 then x else orI l
def P7 (a b : Int × List Int) : Int := if Q8 a.1 b.1 ≠ 0 then Q8 a.1 b.1 else I1 a.2 b.2
theorem b3x {a b : Int} : I64 (Q8 a b) := by unfold Q8 I64; split; omega; split <;> omega
theorem b3n : ∀ {l m : List Int}, I64 (I1 l m)
 | [], [] => by unfold I1 I64; omega
 | [], _ :: _ => by unfold I1 I64; omega
 | _ :: _, [] => by unfold I1 I64; omega
 | a :: l, b :: m => by unfold I1; split; exact b3x; exact b3n
theorem b1S {a b : Int} : Q8 a b = 0 ↔ a = b := by unfold Q8; grind
theorem b1T : ∀ {l m : List Int}, I1 l m = 0 ↔ l = m
 | [], [] => by simp [I1]
 | [], _ :: _ => by simp [I1]
 | _ :: _, [] => by simp [I1]
 | a :: l, b :: m => by
  have := b1S (a := a) (b := b)
  have h2 := b1T (l := l) (m := m)
  unfold I1; grind
theorem a4p {a b : Int × List Int} : P7 a b = 0 ↔ a = b := by
 have h1 := b1S (a := a.1) (b := b.1)
 have h2 := b1T (l := a.2) (m := b.2)
 unfold P7
 rcases a with ⟨a1, a2⟩; rcases b with ⟨b1, b2⟩
 grind
def eqP {α : Type} (p : α → α → Bool) : List α → List α → Bool
 | [], [] => true
 | a :: l, b :: m => p a b && eqP p l m
 | _, _ => false
end Go.Proofs.YtdopeopehgdccaaGreat

namespace Go.Proofs.YtdopeopehgdccaaGreat
set_option linter.unusedVariables false
def M6 (l : List (Int × List Int)) (f : Int × List Int) : Bool := l.any fun z => decide (P7 z f = 0)
def I5 (a : Int × List Int) (b : List Int × List Int) : Int × List Int := (a.1, a.2.map (C7 b))
def c2v (q : List Int × List (Int × List Int)) (d7 : List (Int × List Int)) (head : List Int) (b : List Int × List Int) : Bool :=
 decide (b.1.length = b.2.length) && (decide (q.1.map (C7 b) = head) && !q.2.any fun a => !M6 d7 (I5 a b))
theorem Ro.i64A {w : World} {L : List Nat} {e : TypeId} {a : Option Addr} {m c : Nat} {xs : List (Int × List Int)} (h : Ro w L (Enc.sl e (Enc.pair Enc.int (Enc.sl tI Enc.int))) [.slice a m c] xs) : ∀ x ∈ xs, I64 x.1 ∧ ∀ y ∈ x.2, I64 y := by
 intro x hx
 obtain ⟨i, hi, rfl⟩ := List.getElem_of_mem hx
 obtain ⟨_, _, ci, _, h1, _⟩ := h.elem i hi
 obtain ⟨c1, c2, rfl, h2, h3⟩ := h1.pair
 obtain ⟨a', c', rfl⟩ := h3.sl
 exact ⟨h2.int.2, h3.i64⟩
theorem b1w {α : Type} {t : α → Nat} {l : List α} {n : Nat} (h : B9 t l ≤ n) : ∀ x ∈ l, t x ≤ n := by
 intro x hx
 obtain ⟨i, hi, rfl⟩ := List.getElem_of_mem hx
 exact Nat.le_trans (a3G hi) h
theorem a4n {l : List (Int × List Int)} {n : Nat} (h : B9 (fun x => x.2.length) l ≤ n) : ∀ x ∈ l, x.2.length ≤ n := b1w h
end Go.Proofs.YtdopeopehgdccaaGreat

namespace Go.Proofs.YtdopeopehgdccaaGreat
set_option linter.unusedVariables false
def G5 {α : Type} (r : α → α → Bool) : List α → Bool
 | a :: b :: l => r a b && G5 r (b :: l)
 | _ => true
theorem b6o {α : Type} {l : List α} {g : Nat} (h : g < l.length) (h0 : 0 < g) : l.drop (g - 1) = l[g - 1] :: l[g] :: l.drop (g + 1) := by
 rw [List.drop_eq_getElem_cons (by omega), show g - 1 + 1 = g by omega, List.drop_eq_getElem_cons h]
def ltB (a b : Int) : Bool := decide (a < b)
theorem H2 {α : Type} {r : α → α → Bool} {l : List α} {g : Nat} (h : g < l.length) (h0 : 0 < g) : G5 r (l.drop (g - 1)) = (r l[g - 1] l[g] && G5 r (l.drop g)) := by
 rw [b6o h h0, G5, ← List.drop_eq_getElem_cons h]
theorem H3 {α : Type} {r : α → α → Bool} {l : List α} {g : Nat} (h : g = 0) : G5 r (l.drop (g - 1)) = G5 r (l.drop g) := by subst h; rfl
theorem J1 {α : Type} {r : α → α → Bool} {l : List α} {g : Nat} (h : l.length ≤ g) : G5 r (l.drop (g - 1)) = true := by
 have : (l.drop (g - 1)).length ≤ 1 := by simp; omega
 match l.drop (g - 1), this with
 | [], _ => rfl
 | [x], _ => rfl
 | x :: y :: z, h => simp at h
def a0I (m : Int × List Int × Int × Int × Int) (ar : Int) : Bool :=
 G5 ltB m.2.1 && (Z0 m.2.1 ar && (inR m.2.2.1 0 9 && (inR m.2.2.2.1 0 99 && inR m.2.2.2.2 1 99)))
def R1 (s : List Int) (m : Int × List Int × Int × Int × Int) : Bool := M4 s m.1 && a0I m (at0 s m.1)
def E2 (s : List Int) (l : List (Int × List Int × Int × Int × Int)) : Bool := Q9 s && (decide ((l.length : Int) ≤ 5) && !l.any fun m => !R1 s m)
def b1p (v : List Int) : Bool := G5 ltB v && T7 v
def a2i (l : List (Int × List Int)) (a : Int × List Int) : Bool := l.any fun z => decide (z = a)
def O8 (K2 : List Int) : Nat → List (List Int)
 | 0 => [[]]
 | n + 1 => (O8 K2 n).flatMap fun l => K2.map fun v => l ++ [v]
def a0b (K2 : List Int) (log : List (Int × List Int)) (i : Int) (k : Nat) : List (Int × List Int) :=
 ((O8 K2 k).filter fun v => !a2i log (i, v)).map fun v => (i, v)
def Y2 (K2 : List Int) (log : List (Int × List Int)) : List (Int × List Int × Int × Int × Int) → Int → List (Int × List Int)
 | [], _ => []
 | m :: l, i => (if m.2.2.1 ≠ 0 then [] else a0b K2 log i m.2.1.length) ++ Y2 K2 log l (i + 1)
def a0m (s : List Int) (l : List (Int × List Int × Int × Int × Int)) (K2 : List Int) (log : List (Int × List Int)) : List (Int × List Int) :=
 if E2 s l && b1p K2 then Y2 K2 log l 0 else []
theorem b1X : ∀ {l : List Int} {a b : Int}, G5 ltB l = true → (∀ x ∈ l, a ≤ x ∧ x ≤ b) → a ≤ b + 1 → (l.length : Int) ≤ b - a + 1
 | [], _, _, _, _, _ => by simp; omega
 | [x], a, b, _, h, _ => by have := h x (by simp); simp; omega
 | x :: y :: l, a, b, hc, h, hab => by
  simp only [G5, ltB, Bool.and_eq_true, decide_eq_true_eq] at hc
  have hx := h x (by simp)
  have hge : ∀ z ∈ y :: l, x + 1 ≤ z := by
   have : ∀ {l : List Int} {y : Int}, G5 ltB (y :: l) = true → ∀ z ∈ y :: l, y ≤ z := by
    intro l
    induction l with
    | nil => intro y _ z hz; simp at hz; omega
    | cons u l ih =>
     intro y hc z hz
     simp only [G5, ltB, Bool.and_eq_true, decide_eq_true_eq] at hc
     rcases List.mem_cons.1 hz with rfl | hz
     ·omega
     ·have := ih hc.2 z hz; omega
   intro z hz
   have := this hc.2 z hz; omega
  have := b1X (l := y :: l) (a := x + 1) (b := b) hc.2 (fun z hz => ⟨hge z hz, (h z (by simp only [List.mem_cons] at hz ⊢; exact .inr hz)).2⟩) (by omega)
  simp only [List.length_cons] at this ⊢; omega
theorem b5I {s : List Int} {m : Int × List Int × Int × Int × Int} (h : R1 s m = true) : m.2.1.length ≤ 3 := by
 simp only [R1, a0I, Z0, Bool.and_eq_true, Bool.not_eq_true', List.any_eq_false] at h
 have h1 := a0E h.1
 have := b1X (a := 0) (b := at0 s m.1 - 1) h.2.1 (fun x hx => by have := h.2.2.1 x hx; simpa [inR] using this) (by simp only [at0]; omega)
 simp only [at0] at this; omega
theorem a0w {s : List Int} {l : List (Int × List Int × Int × Int × Int)} (h : E2 s l = true) : (∀ m ∈ l, m.2.1.length ≤ 3) ∧ l.length ≤ 5 := by
 simp only [E2, Bool.and_eq_true, Bool.not_eq_true', List.any_eq_false, decide_eq_true_eq] at h
 refine ⟨fun m hm => b5I (s := s) ?_, by omega⟩
 have := h.2.2 m hm
 simpa using this
theorem a9g {α : Type} {c : α → Nat} {n : Nat} : ∀ {l : List α}, (∀ x ∈ l, c x ≤ n) → u5 c l ≤ l.length * n
 | [], _ => by simp [u5]
 | x :: l, h => by
  have h1 := a9g (c := c) (n := n) (l := l) fun y hy => h y (by simp [hy])
  have h2 := h x (by simp)
  simp only [u5, List.map_cons, List.sum_cons, List.length_cons, Nat.succ_mul] at h1 ⊢; omega
end Go.Proofs.YtdopeopehgdccaaGreat

namespace Go.Proofs.YtdopeopehgdccaaGreat
set_option linter.unusedVariables false
def L9 {α : Type} (p : α → Bool) (f : α) : List α → List α
 | [] => []
 | x :: l => if p x then f :: x :: l else x :: L9 p f l
def W4 {α : Type} (has : Bool) (p : α → Bool) (f : α) (l : List α) : List α := if has then l else if l.any p then L9 p f l else l ++ [f]
section
variable {α : Type} {p q : α → Bool} {f : α}
theorem a0h : ∀ {l : List α}, l.any p = false → L9 p f l = l
 | [], _ => rfl
 | x :: l, h => by
  simp only [List.any_cons, Bool.or_eq_false_iff] at h
  simp [L9, h.1, a0h h.2]
theorem W1 : ∀ {l : List α} {y : α}, L9 p f (l ++ [y]) = if l.any p then L9 p f l ++ [y] else if p y then l ++ [f, y] else l ++ [y]
 | [], y => by simp [L9]
 | x :: l, y => by
  have h := W1 (l := l) (y := y)
  simp only [List.cons_append, L9, List.any_cons, h]
  cases p x <;> cases l.any p <;> cases p y <;> simp
theorem a5V : ∀ {l : List α}, (L9 p f l).length ≤ l.length + 1
 | [] => by simp [L9]
 | x :: l => by
  have := a5V (l := l)
  simp only [L9]; split <;> simp <;> omega
theorem a6r {h : Bool} {l : List α} : (W4 h p f l).length ≤ l.length + 1 := by
 have := a5V (p := p) (f := f) (l := l)
 unfold W4; split; omega; split; omega; simp
theorem a4Q {h : Bool} {l : List α} {y : α} (hy : y ∈ W4 h p f l) : y ∈ l ∨ y = f := by
 have ins : ∀ {l : List α}, y ∈ L9 p f l → y ∈ l ∨ y = f := by
  intro l
  induction l with
  | nil => simp [L9]
  | cons x l ih =>
   intro h
   simp only [L9] at h
   split at h
   ·simp only [List.mem_cons] at h ⊢; rcases h with h | h | h <;> simp [h]
   ·simp only [List.mem_cons] at h ⊢
    rcases h with h | h
    ·simp [h]
    ·rcases ih h with h | h <;> simp [h]
 unfold W4 at hy
 split at hy
 ·exact .inl hy
 ·split at hy
  ·exact ins hy
  ·simpa using hy
theorem b3U {l : List α} (hpq : ∀ y ∈ l, p y = q y) : W4 false p f l = l.take (if J0 q l < 0 then l.length else (J0 q l).toNat) ++ f :: l.drop (if J0 q l < 0 then l.length else (J0 q l).toNat) := by
 have ha : l.any p = l.any q := by
  induction l with
  | nil => rfl
  | cons x l ih => simp [List.any_cons, hpq x (by simp), ih fun y hy => hpq y (by simp [hy])]
 unfold W4 J0
 rw [ha]
 by_cases h : l.any q = true
 ·simp only [h, if_true, Bool.false_eq_true, if_false]
  rw [if_neg (by omega), Int.toNat_natCast]
  clear ha
  induction l with
  | nil => simp at h
  | cons x l ih =>
   simp only [L9, List.findIdx_cons, hpq x (by simp)]
   cases hq : q x with
   | true => simp
   | false =>
    simp only [List.any_cons, hq, Bool.false_or] at h
    simp [ih (fun y hy => hpq y (by simp [hy])) h]
 ·simp [h]
end
def G0 (l : List Int) (x : Int) : Bool := l.any fun y => decide (y = x)
def J8 (l : List Int) (x : Int) : List Int := W4 (G0 l x) (fun y => decide (x < y)) x l
def M8 (l : List Int) : List Int := l.foldl J8 []
theorem b4L : ∀ {a b : List Int}, a.Pairwise (· < ·) → b.Pairwise (· < ·) → (∀ x, x ∈ a ↔ x ∈ b) → a = b
 | [], [], _, _, _ => rfl
 | [], y :: b, _, _, h => by have := (h y).2 (by simp); simp at this
 | x :: a, [], _, _, h => by have := (h x).1 (by simp); simp at this
 | x :: a, y :: b, ha, hb, h => by
  rw [List.pairwise_cons] at ha hb
  have e : x = y := by
   have h1 := (h x).1 (by simp)
   have h2 := (h y).2 (by simp)
   simp only [List.mem_cons] at h1 h2
   rcases h1 with h1 | h1
   ·exact h1
   ·rcases h2 with h2 | h2
    ·exact h2.symm
    ·have := hb.1 x h1; have := ha.1 y h2; omega
  subst e
  rw [b4L ha.2 hb.2 fun z => ?_]
  have := h z
  simp only [List.mem_cons] at this
  constructor
  ·intro hz
   rcases this.1 (.inr hz) with e | e
   ·have := ha.1 z hz; omega
   ·exact e
  ·intro hz
   rcases this.2 (.inr hz) with e | e
   ·have := hb.1 z hz; omega
   ·exact e
theorem b6x {l : List Int} {x : Int} (h : l.Pairwise (· < ·)) : (J8 l x).Pairwise (· < ·) ∧ ∀ y, y ∈ J8 l x ↔ y ∈ l ∨ y = x := by
 have ins : ∀ {l : List Int}, l.Pairwise (· < ·) → x ∉ l → (if (l.any fun y => decide (x < y)) then L9 (fun y => decide (x < y)) x l else l ++ [x]).Pairwise (· < ·) ∧ ∀ y, y ∈ (if (l.any fun y => decide (x < y)) then L9 (fun y => decide (x < y)) x l else l ++ [x]) ↔ y ∈ l ∨ y = x := by
  intro l
  induction l with
  | nil => intro _ _; simp
  | cons z l ih =>
   intro h hx
   rw [List.pairwise_cons] at h
   simp only [List.mem_cons, not_or] at hx
   have ih' := ih h.2 hx.2
   by_cases hz : x < z
   ·simp only [List.any_cons, hz, decide_true, Bool.true_or, if_true, L9]
    refine ⟨?_, fun y => by simp only [List.mem_cons]; constructor <;> (intro h; rcases h with h | h | h) <;> simp [h]⟩
    rw [List.pairwise_cons, List.pairwise_cons]
    refine ⟨fun y hy => ?_, h⟩
    simp only [List.mem_cons] at hy
    rcases hy with rfl | hy
    ·exact hz
    ·have := h.1 y hy; omega
   ·simp only [List.any_cons, hz, decide_false, Bool.false_or, L9, Bool.false_eq_true, if_false]
    have e : (if (l.any fun y => decide (x < y)) then z :: L9 (fun y => decide (x < y)) x l else z :: l ++ [x]) = z :: (if (l.any fun y => decide (x < y)) then L9 (fun y => decide (x < y)) x l else l ++ [x]) := by split <;> simp
    rw [e]
    refine ⟨?_, fun y => by rw [List.mem_cons, ih'.2 y, List.mem_cons, or_assoc]⟩
    rw [List.pairwise_cons]
    refine ⟨fun y hy => ?_, ih'.1⟩
    rcases (ih'.2 y).1 hy with hy | rfl
    ·exact h.1 y hy
    ·omega
 unfold J8 W4 G0
 by_cases hx : x ∈ l
 ·have : (l.any fun y => decide (y = x)) = true := List.any_eq_true.2 ⟨x, hx, by simp⟩
  rw [if_pos this]
  exact ⟨h, fun y => ⟨.inl, fun e => by rcases e with e | rfl; exact e; exact hx⟩⟩
 ·have : ¬ (l.any fun y => decide (y = x)) = true := fun e => by
   obtain ⟨y, hy, e⟩ := List.any_eq_true.1 e
   simp at e; subst e; exact hx hy
  rw [if_neg this]
  exact ins h hx
theorem a4o : ∀ {l s : List Int}, s.Pairwise (· < ·) → (l.foldl J8 s).Pairwise (· < ·) ∧ ∀ y, y ∈ l.foldl J8 s ↔ y ∈ s ∨ y ∈ l
 | [], s, h => ⟨h, by simp⟩
 | x :: l, s, h => by
  have h1 := b6x (x := x) h
  have h2 := a4o (l := l) h1.1
  refine ⟨h2.1, fun y => ?_⟩
  rw [List.foldl_cons, h2.2 y, h1.2 y, List.mem_cons, or_assoc]
theorem b7K {l : List Int} : (M8 l).Pairwise (· < ·) := (a4o .nil).1
theorem a6p {l : List Int} {y : Int} : y ∈ M8 l ↔ y ∈ l := by rw [M8, (a4o .nil).2 y]; simp
theorem b3Z {l : List Int} : (M8 l).length ≤ l.length := by
 have : ∀ {l s : List Int}, (l.foldl J8 s).length ≤ s.length + l.length := by
  intro l
  induction l with
  | nil => intro s; simp
  | cons x l ih => intro s; have := ih (s := J8 s x); have h2 := a6r (h := G0 s x) (p := fun y => decide (x < y)) (f := x) (l := s); simp only [List.foldl_cons, List.length_cons]; unfold J8 at *; omega
 have h := this (l := l) (s := [])
 simpa [M8] using h
theorem b0Z {d : List Int} (hd : d.Pairwise (· ≤ ·)) : (Lib.compact d).Pairwise (· < ·) ∧ ∀ y, y ∈ Lib.compact d ↔ y ∈ d := by
 have hle : ∀ i j, (hij : i ≤ j) → (hj : j < d.length) → d[i]'(by omega) ≤ d[j]'hj := by
  intro i j hij hj
  rcases Nat.lt_or_eq_of_le hij with h | h
  ·exact List.pairwise_iff_getElem.1 hd i j (by omega) hj h
  ·subst h; exact Int.le_refl _
 have hget : ∀ i, (h : i < d.length) → d.toArray[i]! = d[i] := by intro i h; simp [h]
 have key : ∀ m, m ≤ d.length → (Lib.compactUpTo d.toArray m).Pairwise (· < ·) ∧ ∀ y, y ∈ Lib.compactUpTo d.toArray m ↔ y ∈ d.take m := by
  intro m
  induction m with
  | zero => intro _; simp [Lib.compactUpTo]
  | succ m ih =>
   intro hm
   obtain ⟨h1, h2⟩ := ih (by omega)
   have hmem : ∀ y, y ∈ d.take (m + 1) ↔ y ∈ d.take m ∨ y = d[m] := by
    intro y; rw [List.take_succ_eq_append_getElem (show m < d.length by omega), List.mem_append, List.mem_singleton]
   rw [Lib.compactUpTo_succ, hget m (by omega)]
   by_cases hk : Lib.keeps d.toArray m = true
   ·rw [if_pos hk]
    refine ⟨List.pairwise_append.2 ⟨h1, by simp, fun a ha b hb => ?_⟩, fun y => by rw [List.mem_append, h2 y, hmem y]; simp⟩
    simp only [List.mem_singleton] at hb
    subst hb
    rw [h2 a, List.mem_take_iff_getElem] at ha
    obtain ⟨i, hi, rfl⟩ := ha
    have hi' : i < m := by omega
    have e1 := hle i (m - 1) (by omega) (by omega)
    have e2 := hle (m - 1) m (by omega) (by omega)
    have e3 : d[m - 1]'(by omega) ≠ d[m] := by
     intro e
     have := Lib.keeps_neg (d := d.toArray) (m := m) (by omega) (by rw [hget m (by omega), hget (m - 1) (by omega), e])
     rw [this] at hk; cases hk
    omega
   ·rw [if_neg hk, List.append_nil]
    refine ⟨h1, fun y => ?_⟩
    rw [h2 y, hmem y]
    refine ⟨.inl, fun h => h.elim id ?_⟩
    rintro rfl
    have h0 : 0 < m := by
     rcases Nat.eq_zero_or_pos m with e | e
     ·subst e; exact absurd (Lib.keeps_lt_one d.toArray 0 (by omega)) hk
     ·exact e
    have e3 : d[m - 1]'(by omega) = d[m] := by
     refine Classical.byContradiction fun e => hk (Lib.keeps_pos ?_)
     rw [hget m (by omega), hget (m - 1) (by omega)]
     exact fun e' => e e'.symm
    rw [List.mem_take_iff_getElem]
    exact ⟨m - 1, by omega, e3⟩
 have := key d.length (Nat.le_refl _)
 simpa [Lib.compact] using this
theorem a1o {l : List Int} : Lib.compact (l.mergeSort fun x y => decide (x ≤ y)) = M8 l := by
 have hs : (l.mergeSort fun x y => decide (x ≤ y)).Pairwise (· ≤ ·) := by
  have := List.pairwise_mergeSort (le := fun x y : Int => decide (x ≤ y)) (by intro a b c; simp only [decide_eq_true_eq]; omega) (by intro a b; simp only [Bool.or_eq_true, decide_eq_true_eq]; omega) l
  exact this.imp fun h => by simpa using h
 have h := b0Z hs
 refine b4L h.1 b7K fun x => ?_
 rw [h.2 x, a6p]
 exact (List.mergeSort_perm l _).mem_iff
end Go.Proofs.YtdopeopehgdccaaGreat

namespace Go.Proofs.YtdopeopehgdccaaGreat
set_option linter.unusedVariables false
theorem b8D {P : Program} {f : FuncId} {args : List Value} {RR RR' : World → List Nat → Prop} {pre : List HP} {κ : Type} {φ : κ → Prop} {ret : κ → Value} {post : κ → List HP} (h : Tr P f args RR pre φ ret post) (hR : ∀ w L, RR' w L → RR w L) : Tr P f args RR' pre φ ret post :=
 ⟨h.1, fun w L hr hs hn => h.2 w L (hR w L hr) hs hn⟩
theorem Y7 {l m : List Int} : M8 (l ++ m) = m.foldl J8 (M8 l) := by unfold M8; rw [List.foldl_append]
theorem Y0 {l : List Int} {x : Int} : M8 (l ++ [x]) = J8 (M8 l) x := by rw [Y7]; rfl
theorem a1z {l : List Int} {x : Int} : G0 l x = true ↔ x ∈ l := by
 unfold G0
 rw [List.any_eq_true]
 constructor
 ·rintro ⟨y, hy, e⟩; simp at e; subst e; exact hy
 ·intro h; exact ⟨x, h, by simp⟩
def f0 (is : Int → Bool) (d8 : List (Int × List Int)) : List Int := M8 ((d8.flatMap fun a => a.2).filter is)
theorem a8W : ∀ {l : List (Int × List Int)}, (l.flatMap fun a => a.2).length = u5 (fun x => x.2.length) l
 | [] => rfl
 | a :: l => by simp only [List.flatMap_cons, List.length_append, a8W (l := l), u5, List.map_cons, List.sum_cons]
theorem b6n {is : Int → Bool} {d8 : List (Int × List Int)} {g : Nat} (hz : B9 (fun x => x.2.length) d8 ≤ 1048576) : (((d8.take g).flatMap fun a => a.2).filter is).length ≤ 1048576 := by
 have h1 := List.length_filter_le is ((d8.take g).flatMap fun a => a.2)
 have h2 := R6 (t := fun x : Int × List Int => x.2.length) (l := d8) (g := g)
 rw [a8W] at h1
 unfold B9 at hz; omega
theorem a6n {is : Int → Bool} {d8 : List (Int × List Int)} {g h : Nat} (hz : B9 (fun x => x.2.length) d8 ≤ 1048576) (hg : g < d8.length) : (((d8.take g).flatMap fun a => a.2).filter is ++ (d8[g].2.take h).filter is).length ≤ 1048576 := by
 have h1 := List.length_filter_le is ((d8.take g).flatMap fun a => a.2)
 have h2 := R6 (t := fun x : Int × List Int => x.2.length) (l := d8) (g := g + 1)
 have h3 := List.length_filter_le is (d8[g].2.take h)
 have h4 := List.length_take_le' h d8[g].2
 rw [N5 hg] at h2
 rw [a8W] at h1
 rw [List.length_append]
 unfold B9 at hz; omega
def V9 (t : Int) : Bool := inR t 0 9 || inR t 10 17
def P0 (s : List Int) (a : Int × List Int) : Bool := M4 s a.1 && (decide ((a.2.length : Int) = at0 s a.1) && !a.2.any fun t => !V9 t)
def a2J (q : List Int × List (Int × List Int)) : Bool := decide ((q.1.length : Int) ≤ 3) && !q.1.any fun t => !G0 (f0 (fun t => inR t 10 17) q.2) t
def D2 (s : List Int) (q : List Int × List (Int × List Int)) : Bool := Q9 s && (inR (q.2.length : Int) 1 4 && ((!q.2.any fun a => !P0 s a) && a2J q))
def a2P (s : List Int) (u : List (List Int × List (Int × List Int))) (q : List Int × List (Int × List Int)) : Bool := !D2 s q || decide ((q.1.length : Int) ≠ ((u.getD 0 ([], [])).1.length : Int))
def J4 (s : List Int) (u : List (List Int × List (Int × List Int))) : Bool := inR (u.length : Int) 1 3 && !u.any (a2P s u)
theorem a7V {s : List Int} {u : List (List Int × List (Int × List Int))} (h : Q9 s = false) : J4 s u = false := by
 cases u with
 | nil => simp [J4, inR]
 | cons q u => simp [J4, a2P, D2, h]
def b8I (s : List Int) (g : (List Int × List (Int × List Int)) × List (Int × List Int)) : Bool :=
 D2 s g.1 && (decide ((g.2.length : Int) ≤ 4) && ((!g.2.any fun a => !P0 s a) && !(f0 (fun t => inR t 10 17) g.2).any fun t => !G0 (f0 (fun t => inR t 10 17) g.1.2) t))
theorem a7z {u : List (List Int × List (Int × List Int))} {n : Nat} (h : B9 (fun x => x.1.length + B9 (fun x => x.2.length) x.2) u ≤ n) : ∀ q ∈ u, B9 (fun x => x.2.length) q.2 ≤ n := fun q hq => Nat.le_trans (Nat.le_add_left _ _) (b1w h q hq)
end Go.Proofs.YtdopeopehgdccaaGreat

namespace Go.Proofs.YtdopeopehgdccaaGreat
set_option linter.unusedVariables false
def ltF (a b : Int × List Int) : Bool := decide (P7 a b < 0)
def D4 (l : List (Int × List Int)) (f : Int × List Int) : List (Int × List Int) := W4 (M6 l f) (ltF f) f l
theorem b3p {a b : Int} : Q8 a b = - Q8 b a := by unfold Q8; grind
theorem a8O : ∀ {l m : List Int}, I1 l m = - I1 m l
 | [], [] => by simp [I1]
 | [], _ :: _ => by simp [I1]
 | _ :: _, [] => by simp [I1]
 | a :: l, b :: m => by
  have h1 := b3p (a := a) (b := b)
  have h2 := a8O (l := l) (m := m)
  unfold I1; grind
theorem a8X {a b : Int × List Int} : P7 a b = - P7 b a := by
 have h1 := b3p (a := a.1) (b := b.1)
 have h2 := a8O (l := a.2) (m := b.2)
 unfold P7; grind
theorem a4O {l : List (Int × List Int)} {f : Int × List Int} (h : M6 l f = true) : D4 l f = l := by simp [D4, W4, h]
theorem a6b {l : List (Int × List Int)} {f : Int × List Int} (h : M6 l f = false) : D4 l f = l.take (if J0 (fun z => decide (0 < P7 z f)) l < 0 then l.length else (J0 (fun z => decide (0 < P7 z f)) l).toNat) ++ f :: l.drop (if J0 (fun z => decide (0 < P7 z f)) l < 0 then l.length else (J0 (fun z => decide (0 < P7 z f)) l).toNat) := by
 rw [D4, h]
 refine b3U fun y _ => ?_
 have := a8X (a := f) (b := y)
 rw [ltF, decide_eq_decide]; omega
theorem a3c {α : Type} {p : α → Bool} {s : List α} : J0 p s ≤ s.length ∧ -1 ≤ J0 p s := by
 unfold J0
 split
 ·have := List.findIdx_le_length (p := p) (xs := s); omega
 ·omega
def N3 {α : Type} (h : Bool) (p : α → Bool) (f : α) (l : List α) : List α := if h then l else L9 p f l
theorem a9n {α : Type} {h : Bool} {p : α → Bool} {f : α} {l : List α} : (N3 h p f l).length ≤ l.length + 1 := by
 have := a5V (p := p) (f := f) (l := l)
 unfold N3; split <;> omega
theorem G7 {α : Type} {h : Bool} {p : α → Bool} {f : α} : N3 h p f [] = [] := by unfold N3; cases h <;> rfl
theorem F2 {α : Type} {h : Bool} {p : α → Bool} {f : α} {l : List α} {y : α} : N3 h p f (l ++ [y]) = if (h || l.any p) = true then N3 h p f l ++ [y] else if p y = true then N3 h p f l ++ [f, y] else N3 h p f l ++ [y] := by
 unfold N3
 cases h
 ·simp only [Bool.false_eq_true, if_false, Bool.false_or, W1]
  cases ha : l.any p
  ·simp [a0h ha]
  ·simp
 ·simp
theorem F3 {α : Type} {h : Bool} {p : α → Bool} {f : α} {l : List α} : W4 h p f l = if (h || l.any p) = true then N3 h p f l else N3 h p f l ++ [f] := by
 unfold N3 W4
 cases h
 ·cases ha : l.any p
  ·simp [a0h ha]
  ·simp
 ·simp
theorem G6 {α : Type} {p : α → Bool} {l : List α} {g : Nat} (h : g < l.length) : (l.take (g + 1)).any p = ((l.take g).any p || p l[g]) := by
 rw [List.take_succ_eq_append_getElem h, List.any_append]; simp
theorem W2 {f : Int × List Int} {a : Int} {b : List Int} : ltF f (a, b) = decide (P7 f (a, b) < 0) := rfl
def a1G (s : List Int) (l : List (Int × List Int)) (g : Nat) : Bool := (l.drop g).all (N7 s) && G5 ltF (l.drop (g - 1))
def F1 (s : List Int) (l : List (Int × List Int)) : Bool := a1G s l 0 && (Q9 s && decide ((l.length : Int) ≤ 24))
def c0O (d7 : List (Int × List Int)) (f : Int × List Int) (out : List (Int × List Int)) (r : Int × Int × List Int) : List (Int × List Int) :=
 if f.1 = r.1 then (if M6 d7 (r.2.1, a3k r.2.2 f.2) then out else D4 out (r.2.1, a3k r.2.2 f.2)) else out
def c0Q (l : List (Int × Int × List Int)) (d7 : List (Int × List Int)) (out : List (Int × List Int)) (f : Int × List Int) : List (Int × List Int) := l.foldl (c0O d7 f) out
def b8s (l : List (Int × Int × List Int)) (d7 : List (Int × List Int)) : List (Int × List Int) := d7.foldl (c0Q l d7) []
end Go.Proofs.YtdopeopehgdccaaGreat

namespace Go.Proofs.YtdopeopehgdccaaGreat
set_option linter.unusedVariables false
set_option linter.unusedSimpArgs false
theorem Q3 {s : List Int} {l : List (Int × List Int)} (h : F1 s l = true) : l.length ≤ 24 ∧ ∀ f ∈ l, N7 s f = true := by
 simp only [F1, a1G, List.drop_zero, Bool.and_eq_true, decide_eq_true_eq, List.all_eq_true] at h
 exact ⟨by omega, h.1.1⟩
theorem a0s {s : List Int} {f : Int × List Int} (h : N7 s f = true) : f.2.length ≤ 3 := by
 simp only [N7, Bool.and_eq_true, decide_eq_true_eq] at h
 have := a0E h.1
 simp only [at0] at h; omega
theorem b5F {v : List Int} (h : T7 v = true) : ∀ x ∈ v, 0 ≤ x ∧ x ≤ 9 := by
 simp only [T7, Bool.not_eq_true', List.any_eq_false, Bool.not_eq_true] at h
 intro x hx
 have := h x hx
 simp [inR] at this; omega
theorem b6C {v : List Int} (h : ∀ x ∈ v, 0 ≤ x ∧ x ≤ 9) : T7 v = true := by
 simp only [T7, Bool.not_eq_true', List.any_eq_false, Bool.not_eq_true]
 intro x hx
 have := h x hx
 simp [inR]; omega
def c2A (s : List Int) (l : List (Int × Int × List Int)) (d7 : List (Int × List Int)) : List (Int × List Int) := if a8g s l && F1 s d7 then b8s l d7 else []
def a8h (l : List (Int × Int × List Int)) (d7 : List (Int × List Int)) : Nat → List (Int × List Int)
 | 0 => d7
 | n + 1 => (b8s l (a8h l d7 n)).foldl D4 (a8h l d7 n)
def b9Q (l : List (Int × Int × List Int)) (d7 : List (Int × List Int)) : List (Int × List Int) := a8h l d7 6001
theorem a3S : ∀ {n : Nat} {l : List Nat}, l.Nodup → (∀ x ∈ l, x < n) → l.length ≤ n
 | 0, l, _, h => by
  cases l with
  | nil => simp
  | cons x l => exact absurd (h x (by simp)) (by omega)
 | n + 1, l, hd, h => by
  by_cases hm : n ∈ l
  ·have h1 := a3S (n := n) (l := l.erase n) (hd.erase n) fun x hx => by
    have h2 := (hd.mem_erase_iff).1 hx
    have := h x h2.2; omega
   rw [List.length_erase_of_mem hm] at h1; omega
  ·have h1 := a3S (n := n) (l := l) hd fun x hx => by
    have h2 := h x hx
    have : x ≠ n := fun e => hm (e ▸ hx)
    omega
   omega
def a4h : List Int → Nat
 | [] => 0
 | v :: l => (v.toNat + 1) + 11 * a4h l
theorem b1N : ∀ {a b : List Int}, (∀ x ∈ a, 0 ≤ x ∧ x ≤ 9) → (∀ x ∈ b, 0 ≤ x ∧ x ≤ 9) → a4h a = a4h b → a = b
 | [], [], _, _, _ => rfl
 | [], y :: b, _, _, h => by simp [a4h] at h; omega
 | x :: a, [], _, _, h => by simp [a4h] at h
 | x :: a, y :: b, ha, hb, h => by
  have h1 := ha x (by simp)
  have h2 := hb y (by simp)
  simp only [a4h] at h
  rw [b1N (a := a) (b := b) (fun z hz => ha z (by simp [hz])) (fun z hz => hb z (by simp [hz])) (by omega), show x = y by omega]
theorem b3S : ∀ {n : Nat} {a : List Int}, (∀ x ∈ a, 0 ≤ x ∧ x ≤ 9) → a.length ≤ n → a4h a < 11 ^ n
 | n, [], _, _ => by simp [a4h]; exact Nat.pow_pos (by decide)
 | 0, x :: a, _, h => by simp at h
 | n + 1, x :: a, ha, h => by
  have h1 := b3S (n := n) (a := a) (fun z hz => ha z (by simp [hz])) (by simpa using h)
  have h2 := ha x (by simp)
  simp only [a4h, Nat.pow_succ]; omega
def b5A (f : Int × List Int) : Nat := f.1.toNat + 4 * a4h f.2
theorem a6d {s : List Int} {f : Int × List Int} (h : N7 s f = true) : 0 ≤ f.1 ∧ f.1 < 4 := by
 simp only [N7, Bool.and_eq_true, decide_eq_true_eq] at h
 have h1 := a0E h.1
 have h2 := h.1
 simp only [M4, Q9, inR, Bool.and_eq_true, decide_eq_true_eq] at h2
 omega
theorem a1e {s : List Int} {f : Int × List Int} (h : N7 s f = true) : ∀ x ∈ f.2, 0 ≤ x ∧ x ≤ 9 := by
 simp only [N7, Bool.and_eq_true] at h
 exact b5F h.2.2
theorem b6t {s : List Int} {D : List (Int × List Int)} (hd : D.Nodup) (h : ∀ f ∈ D, N7 s f = true) : D.length ≤ 5324 := by
 have h1 : (D.map b5A).Nodup := by
  unfold List.Nodup at hd ⊢
  rw [List.pairwise_map]
  refine List.Pairwise.imp_of_mem (fun {a b} ha hb hab e => hab ?_) hd
  have ra := a6d (h a ha)
  have rb := a6d (h b hb)
  simp only [b5A] at e
  have e2 := b1N (a1e (h a ha)) (a1e (h b hb)) (by omega)
  exact Prod.ext (by omega) e2
 have h2 := a3S (n := 5324) h1 fun x hx => by
  obtain ⟨f, hf, rfl⟩ := List.mem_map.1 hx
  have r := a6d (h f hf)
  have c := b3S (n := 3) (a1e (h f hf)) (a0s (h f hf))
  unfold b5A; omega
 simpa using h2
theorem b3s {α : Type} {p : α → Bool} {f y : α} : ∀ {l : List α}, y ∈ l → y ∈ L9 p f l
 | x :: l, h => by
  simp only [L9]
  simp only [List.mem_cons] at h
  split
  ·simp [h]
  ·rcases h with h | h
   ·simp [h]
   ·simp [b3s h]
theorem b1J {α : Type} {p : α → Bool} {f : α} : ∀ {l : List α}, l.any p = true → f ∈ L9 p f l
 | x :: l, h => by
  simp only [L9]
  split
  ·simp
  ·rename_i h1
   simp only [List.any_cons, h1, Bool.false_or] at h
   simp [b1J h]
theorem b2O {l : List (Int × List Int)} {f y : Int × List Int} (h : y ∈ l) : y ∈ D4 l f := by
 unfold D4 W4
 split
 ·exact h
 ·split
  ·exact b3s h
  ·simp [h]
theorem b2T {l : List (Int × List Int)} {f : Int × List Int} : M6 l f = true ↔ f ∈ l := by
 unfold M6
 rw [List.any_eq_true]
 constructor
 ·rintro ⟨x, hx, e⟩
  rw [decide_eq_true_eq, a4p] at e
  exact e ▸ hx
 ·intro h
  exact ⟨f, h, by rw [decide_eq_true_eq, a4p]⟩
theorem b6B {l : List (Int × List Int)} {f : Int × List Int} (h : M6 l f = false) : f ∈ D4 l f := by
 unfold D4 W4
 rw [h]
 simp only [Bool.false_eq_true, if_false]
 split
 ·rename_i h1; exact b1J h1
 ·simp
def c1z (s : List Int) (x D : List (Int × List Int)) : Prop := D.Nodup ∧ (∀ f ∈ D, f ∈ x) ∧ x.length ≤ 24 + D.length ∧ ∀ f ∈ x, N7 s f = true
def c2J (l : List (Int × Int × List Int)) (d7 : List (Int × List Int)) (n : Nat) : Prop := ∃ s, a8g s l = true ∧ ∃ D, c1z s (a8h l d7 n) D ∧ n ≤ D.length
def c2o (s : List Int) (l : List (Int × Int × List Int)) (d7 : List (Int × List Int)) : List (Int × List Int) := if a8g s l && F1 s d7 then b9Q l d7 else []
end Go.Proofs.YtdopeopehgdccaaGreat

namespace Go.Proofs.YtdopeopehgdccaaGreat
set_option linter.unusedVariables false
set_option linter.unusedSimpArgs false
def unb (b : List Int × List Int) (t : Int) : Bool := !(b.1.take (min b.1.length b.2.length)).any fun x => decide (x = t)
theorem b0H {α : Type} {p : α → Bool} {s : List α} : J0 p s < 0 ↔ s.any p = false := by
 unfold J0
 by_cases h : s.any p = true
 ·rw [if_pos h]; simp [h]
 ·rw [if_neg h]; simp at h; simp; exact h
theorem C9 {b : List Int × List Int} {t : Int} : unb b t = decide (J0 (fun x => decide (x = t)) (b.1.take (min b.1.length b.2.length)) < 0) := by
 rw [unb, Bool.eq_iff_iff, decide_eq_true_eq, b0H]; simp
theorem a3p {V W : List Int} {p : Int → Bool} {g : Nat} (h : g < V.length) (h2 : g < W.length) : ((V.take (min V.length W.length)).drop g).any p = (p V[g] || ((V.take (min V.length W.length)).drop (g + 1)).any p) := by
 rw [List.drop_eq_getElem_cons (by simp; omega)]
 simp
theorem a5t {V W : List Int} {p : Int → Bool} {g : Nat} (h : ¬ (g < V.length ∧ g < W.length)) : ((V.take (min V.length W.length)).drop g).any p = false := by
 rw [List.drop_eq_nil_of_le (by simp; omega)]; rfl
def E6 (x : List Int × List Int) (t v : Int) : List Int × List Int := if inR t 10 17 && unb x t then (x.1 ++ [t], x.2 ++ [v]) else x
def D7 (b : List Int × List Int) (l : List (Int × Int)) : List Int × List Int := l.foldl (fun x p => E6 x p.1 p.2) b
def okV (b : List Int × List Int) : List (Int × Int) → Bool
 | [] => true
 | p :: l => decide (C7 (E6 b p.1 p.2) p.1 = p.2) && okV (E6 b p.1 p.2) l
def u0 (b : List Int × List Int) (a f : Int × List Int) : Bool := decide (a.1 = f.1) && (decide (a.2.length = f.2.length) && (decide (b.1.length = b.2.length) && okV b (a.2.zip f.2)))
def w7 (b : List Int × List Int) (a f : Int × List Int) : List Int × List Int := D7 b (a.2.zip f.2)
theorem D0 {b : List Int × List Int} {t v : List Int} {g : Nat} (h : g < t.length) (h2 : g < v.length) : D7 b ((t.zip v).take (g + 1)) = E6 (D7 b ((t.zip v).take g)) t[g] v[g] := by
 unfold D7
 rw [List.take_succ_eq_append_getElem (by simp; omega), List.foldl_append]
 simp
theorem z8 {b : List Int × List Int} {t v : List Int} {g : Nat} (h : g < t.length) (h2 : g < v.length) : okV b ((t.zip v).drop g) = (decide (C7 (E6 b t[g] v[g]) t[g] = v[g]) && okV (E6 b t[g] v[g]) ((t.zip v).drop (g + 1))) := by
 rw [List.drop_eq_getElem_cons (by simp; omega)]
 simp [okV]
theorem C8 {b : List Int × List Int} {t v : List Int} {g : Nat} (h : t.length ≤ g) : okV b ((t.zip v).drop g) = true := by
 rw [List.drop_eq_nil_of_le (by simp; omega)]; rfl
theorem E0 {b : List Int × List Int} {t v : List Int} {g : Nat} (h : t.length ≤ g) : D7 b ((t.zip v).take g) = D7 b (t.zip v) := by
 rw [List.take_of_length_le (by simp; omega)]
theorem b3T {x : List Int × List Int} {t v : Int} : (E6 x t v).1.length ≤ x.1.length + 1 ∧ (E6 x t v).2.length ≤ x.2.length + 1 := by
 unfold E6; split <;> simp
theorem b4N {x : List Int × List Int} {t v : Int} (h : x.1.length = x.2.length) : (E6 x t v).1.length = (E6 x t v).2.length := by
 unfold E6; split <;> simp [h]
theorem a7i : ∀ {l : List (Int × Int)} {x : List Int × List Int}, (D7 x l).1.length ≤ x.1.length + l.length ∧ (D7 x l).2.length ≤ x.2.length + l.length
 | [], x => by simp [D7]
 | p :: l, x => by
  have h1 := a7i (l := l) (x := E6 x p.1 p.2)
  have h2 := b3T (x := x) (t := p.1) (v := p.2)
  simp only [D7, List.foldl_cons, List.length_cons] at h1 ⊢; omega
theorem a8V : ∀ {l : List (Int × Int)} {x : List Int × List Int}, x.1.length = x.2.length → (D7 x l).1.length = (D7 x l).2.length
 | [], x, h => h
 | p :: l, x, h => by
  have := a8V (l := l) (b4N (t := p.1) (v := p.2) h)
  simpa only [D7, List.foldl_cons] using this
theorem b6q {b : List Int × List Int} {t v : List Int} {g : Nat} : (D7 b ((t.zip v).take g)).1.length ≤ b.1.length + t.length ∧ (D7 b ((t.zip v).take g)).2.length ≤ b.2.length + t.length := by
 have h := a7i (l := (t.zip v).take g) (x := b)
 have h2 : ((t.zip v).take g).length ≤ t.length := by simp; omega
 omega
theorem b9i {x : List Int × List Int} {t v : Int} (h : x.1.length = x.2.length) (h1 : inR t 10 17 = true) (h2 : unb x t = true) : C7 (x.1 ++ [t], x.2 ++ [v]) t = v := by
 have e := b3i (b := (x.1 ++ [t], x.2 ++ [v])) (t := t) (g := x.1.length) h1 (by simp) (by simp [h]) (by simp) (by
  intro y hy
  simp only [unb, h, Nat.min_self, Bool.not_eq_true', List.any_eq_false] at h2
  rw [List.take_append_of_le_length (Nat.le_refl _), List.take_length] at hy
  have := h2 y (by rw [← h, List.take_length]; exact hy)
  simpa using this)
 rw [← e]
 simp [h]
theorem b9M {x : List Int × List Int} {t v : Int} (h : (inR t 10 17 && unb x t) = false) : E6 x t v = x := by unfold E6; rw [h]; simp
theorem b9o {x : List Int × List Int} {t v : Int} (h : (inR t 10 17 && unb x t) = true) : E6 x t v = (x.1 ++ [t], x.2 ++ [v]) := by unfold E6; rw [h]; simp
theorem N6 {x : List Int × List Int} {t v : Int} (h : x.1.length = x.2.length) : decide (C7 (E6 x t v) t = v) = (inR t 10 17 && unb x t || decide (C7 x t = v)) := by
 cases hc : inR t 10 17 && unb x t with
 | false => rw [b9M hc]; simp
 | true =>
  rw [b9o hc]
  rw [Bool.and_eq_true] at hc
  rw [b9i h hc.1 hc.2]; simp
def O9 (b : List Int × List Int) (a : Int × List Int) (d7 : List (Int × List Int)) : List (List Int × List Int) := (d7.filter (u0 b a)).map (w7 b a)
def G1 (l : List (List Int × List Int)) (a : Int × List Int) (d7 : List (Int × List Int)) : List (List Int × List Int) := l.flatMap fun b => O9 b a d7
theorem a0o {b : List Int × List Int} {a : Int × List Int} : O9 b a [] = [] := rfl
theorem X7 {b : List Int × List Int} {a f : Int × List Int} {l : List (Int × List Int)} : O9 b a (l ++ [f]) = if u0 b a f then O9 b a l ++ [w7 b a f] else O9 b a l := by
 unfold O9
 cases h : u0 b a f <;> simp [List.filter_append, h]
theorem a0p {a : Int × List Int} {d7 : List (Int × List Int)} : G1 [] a d7 = [] := rfl
theorem X6 {l : List (List Int × List Int)} {b : List Int × List Int} {a : Int × List Int} {d7 : List (Int × List Int)} : G1 (l ++ [b]) a d7 = G1 l a d7 ++ O9 b a d7 := by
 simp [G1]
theorem a5Y {b : List Int × List Int} {a : Int × List Int} {d7 : List (Int × List Int)} : (O9 b a d7).length ≤ d7.length := by
 unfold O9; rw [List.length_map]; exact List.length_filter_le _ _
theorem b7t {n k : Nat} {a : Int × List Int} {d7 : List (Int × List Int)} {l : List (List Int × List Int)} (ha : a.2.length ≤ k) (h : ∀ b ∈ l, b.1.length ≤ n ∧ b.2.length ≤ n) : ∀ b ∈ G1 l a d7, b.1.length ≤ n + k ∧ b.2.length ≤ n + k := by
 intro b hb
 simp only [G1, O9, List.mem_flatMap, List.mem_map] at hb
 obtain ⟨x, hx, f, _, rfl⟩ := hb
 have h1 := h x hx
 have h2 := a7i (l := a.2.zip f.2) (x := x)
 have h3 : (a.2.zip f.2).length ≤ a.2.length := by simp; omega
 unfold w7; omega
def z7 (d8 : List (Int × List Int)) (d7 : List (Int × List Int)) : List (List Int × List Int) := d8.foldl (fun l a => G1 l a d7) [([], [])]
theorem a2c {d7 : List (Int × List Int)} : z7 [] d7 = [([], [])] := rfl
theorem a1D {d8 d7 : List (Int × List Int)} {a : Int × List Int} : z7 (d8 ++ [a]) d7 = G1 (z7 d8 d7) a d7 := by
 simp [z7]
def V0 (l : List (List Int)) (t : List Int) : Bool := l.any fun x => decide (x = t)
def ltT (a b : List Int) : Bool := decide (I1 a b < 0)
def H8 (l : List (List Int)) (t : List Int) : List (List Int) := W4 (V0 l t) (ltT t) t l
theorem a9o {l : List (List Int)} {t : List Int} (h : V0 l t = true) : H8 l t = l := by simp [H8, W4, h]
theorem a8Y {l : List (List Int)} {f : List Int} (h : V0 l f = false) : H8 l f = l.take (if J0 (fun z => decide (0 < I1 z f)) l < 0 then l.length else (J0 (fun z => decide (0 < I1 z f)) l).toNat) ++ f :: l.drop (if J0 (fun z => decide (0 < I1 z f)) l < 0 then l.length else (J0 (fun z => decide (0 < I1 z f)) l).toNat) := by
 rw [H8, h]
 refine b3U fun y _ => ?_
 have := a8O (l := f) (m := y)
 rw [ltT, decide_eq_decide]; omega
theorem b3q {l : List (List Int)} {t : List Int} : (H8 l t).length ≤ l.length + 1 := a6r
def U1 (h : List Int) (l : List (List Int × List Int)) : List (List Int) := l.foldl (fun out b => H8 out (h.map (C7 b))) []
theorem a2V {h : List Int} : U1 h [] = [] := rfl
theorem a2l {h : List Int} {l : List (List Int × List Int)} {b : List Int × List Int} : U1 h (l ++ [b]) = H8 (U1 h l) (h.map (C7 b)) := by simp [U1]
theorem a9C {h : List Int} : ∀ {l : List (List Int × List Int)} {out : List (List Int)}, (l.foldl (fun out b => H8 out (h.map (C7 b))) out).length ≤ out.length + l.length ∧ ((∀ t ∈ out, t.length ≤ h.length) → ∀ t ∈ l.foldl (fun out b => H8 out (h.map (C7 b))) out, t.length ≤ h.length)
 | [], out => by simp
 | b :: l, out => by
  have h1 := a9C (h := h) (l := l) (out := H8 out (h.map (C7 b)))
  have h2 := b3q (l := out) (t := h.map (C7 b))
  refine ⟨by simp only [List.foldl_cons, List.length_cons]; omega, fun ho => h1.2 fun t ht => ?_⟩
  rcases a4Q ht with ht | rfl
  ·exact ho t ht
  ·simp
theorem b1k {h : List Int} {l : List (List Int × List Int)} : (U1 h l).length ≤ l.length := by have := (a9C (h := h) (l := l) (out := [])).1; simpa [U1] using this
theorem b3m {h : List Int} {l : List (List Int × List Int)} : ∀ t ∈ U1 h l, t.length ≤ h.length := (a9C (h := h) (l := l) (out := [])).2 (by simp)
theorem F7 {s : List Int} {q : List Int × List (Int × List Int)} (h : D2 s q = true) : q.2.length ≤ 4 ∧ q.1.length ≤ 3 ∧ ∀ a ∈ q.2, a.2.length ≤ 3 := by
 simp only [D2, a2J, inR, Bool.and_eq_true, decide_eq_true_eq, Bool.not_eq_true', List.any_eq_false, Bool.not_eq_true] at h
 refine ⟨by omega, by omega, fun a ha => ?_⟩
 have h1 := h.2.2.1 a ha
 have h1 : P0 s a = true := by simpa using h1
 simp only [P0, Bool.and_eq_true, decide_eq_true_eq] at h1
 have := a0E h1.1
 simp only [at0] at h1; omega
def c1y (s : List Int) (q : List Int × List (Int × List Int)) (d7 : List (Int × List Int)) : List (List Int) := if D2 s q && F1 s d7 then U1 q.1 (z7 q.2 d7) else []
theorem b0e {n : Nat} {l : List (List Int)} (h : ∀ t ∈ l, t.length ≤ 3) (hn : l.length ≤ n) : u5 M7 l ≤ n * 3 := by
 have h5 := a9g (c := M7) (n := 3) (l := l) fun a ha => by
  have := h a ha
  simp only [M7, a4L]; omega
 omega
end Go.Proofs.YtdopeopehgdccaaGreat

namespace Go.Proofs.YtdopeopehgdccaaGreat
set_option linter.unusedVariables false
set_option linter.unusedSimpArgs false
def nxt (u : List Int) : Nat → Nat → Nat
 | 0, v => v
 | n + 1, v => if G0 u (v : Int) then nxt u n (v + 1) else v
def O6 (u : List Int) (v : Nat) : Nat := nxt u 11 v
theorem b1t {u : List Int} (hu : ∀ x ∈ u, 0 ≤ x ∧ x ≤ 9) {v : Nat} (h : G0 u (v : Int) = true) : v ≤ 9 := by
 have := (hu _ (a1z.1 h)).2; omega
theorem b2Q {u : List Int} (hu : ∀ x ∈ u, 0 ≤ x ∧ x ≤ 9) : ∀ {n v : Nat}, 10 ≤ v + n → nxt u (n + 1) v = nxt u n v
 | 0, v, h => by
  simp only [nxt]
  split
  ·rename_i h1; have := b1t hu h1; omega
  ·rfl
 | n + 1, v, h => by
  have ih := b2Q hu (n := n) (v := v + 1) (by omega)
  show (if G0 u (v : Int) then nxt u (n + 1) (v + 1) else v) = (if G0 u (v : Int) then nxt u n (v + 1) else v)
  rw [ih]
theorem b1Y {u : List Int} (hu : ∀ x ∈ u, 0 ≤ x ∧ x ≤ 9) {v : Nat} (h : G0 u (v : Int) = true) : O6 u (v + 1) = O6 u v := by
 have h1 : O6 u v = nxt u 10 (v + 1) := by unfold O6; rw [nxt, if_pos h]
 rw [h1]
 exact b2Q hu (by omega)
theorem b0y {u : List Int} {v : Nat} (h : G0 u (v : Int) = false) : O6 u v = v := by
 unfold O6; rw [nxt, if_neg (by simp [h])]
theorem b1U {u u' : List Int} (h : ∀ x, G0 u x = G0 u' x) : ∀ {n v : Nat}, nxt u n v = nxt u' n v
 | 0, v => rfl
 | n + 1, v => by rw [nxt, nxt, h, b1U h]
theorem a5r {u u' : List Int} (h : ∀ x, G0 u x = G0 u' x) : O6 u = O6 u' := funext fun _ => b1U h
def fzN (u : List Int) : Nat → Nat
 | 0 => 0
 | g + 1 => O6 u (fzN u g) + 1
theorem a7n {u u' : List Int} (h : ∀ x, G0 u x = G0 u' x) : ∀ {n : Nat}, fzN u n = fzN u' n
 | 0 => rfl
 | n + 1 => by rw [fzN, fzN, a5r h, a7n h]
def a5b (u : List Int) (n : Nat) : Bool := (List.range n).all fun i => decide (O6 u (fzN u i) ≤ 9)
def G4 (u : List Int) (n : Nat) : List Int := (List.range n).map fun i => (O6 u (fzN u i) : Int)
theorem L4 {u : List Int} : G4 u 0 = [] := rfl
theorem K9 {u : List Int} {n : Nat} : G4 u (n + 1) = G4 u n ++ [(O6 u (fzN u n) : Int)] := by
 unfold G4; rw [List.range_succ, List.map_append]; rfl
theorem a5X {u : List Int} {n : Nat} : (G4 u n).length = n := by simp [G4]
theorem b3X {u : List Int} {i n : Nat} (h : i < n) (h2 : ¬ O6 u (fzN u i) ≤ 9) : a5b u n = false := by
 rw [← Bool.not_eq_true, a5b, List.all_eq_true]
 intro e
 have := e i (List.mem_range.2 h)
 rw [decide_eq_true_eq] at this
 exact h2 this
theorem b1R {u : List Int} {n : Nat} (h : ∀ i, i < n → O6 u (fzN u i) ≤ 9) : a5b u n = true := by
 rw [a5b, List.all_eq_true]
 intro i hi
 rw [decide_eq_true_eq]
 exact h i (List.mem_range.1 hi)
theorem b6U {u : List Int} {g : Nat} (h : ∀ i, i < g → O6 u (fzN u i) ≤ 9) : fzN u g ≤ 10 := by
 cases g with
 | zero => simp [fzN]
 | succ g => have := h g (by omega); simp only [fzN]; omega
theorem b4S {u : List Int} {g : Nat} (h : ∀ i, i < g → O6 u (fzN u i) ≤ 9) (h1 : O6 u (fzN u g) ≤ 9) : ∀ i, i < g + 1 → O6 u (fzN u i) ≤ 9 := by
 intro i hi
 rcases Nat.lt_succ_iff_lt_or_eq.1 hi with h2 | rfl
 ·exact h i h2
 ·exact h1
def E9 (d8 : List (Int × List Int)) : List Int := f0 (fun t => inR t 10 17) d8
def b8w (d8 : List (Int × List Int)) : List Int := f0 (fun t => inR t 0 9) d8
def a0n (d8 : List (Int × List Int)) (b : List Int × List Int) : List (Int × List Int) := d8.foldl (fun out a => D4 out (I5 a b)) []
theorem M9 {b : List Int × List Int} : a0n [] b = [] := rfl
theorem K8 {d8 : List (Int × List Int)} {a : Int × List Int} {b : List Int × List Int} : a0n (d8 ++ [a]) b = D4 (a0n d8 b) (I5 a b) := by simp [a0n]
theorem b3h : ∀ {d8 out : List (Int × List Int)} {b : List Int × List Int}, (d8.foldl (fun out a => D4 out (I5 a b)) out).length ≤ out.length + d8.length
 | [], out, b => by simp
 | a :: d8, out, b => by
  have h1 := b3h (d8 := d8) (out := D4 out (I5 a b)) (b := b)
  have h2 := a6r (h := M6 out (I5 a b)) (p := ltF (I5 a b)) (f := I5 a b) (l := out)
  simp only [List.foldl_cons, List.length_cons]
  unfold D4 at h1 ⊢; omega
theorem b1m {d8 : List (Int × List Int)} {b : List Int × List Int} : (a0n d8 b).length ≤ d8.length := by
 have := b3h (d8 := d8) (out := []) (b := b); simpa [a0n] using this
theorem b5h {n : Nat} : ∀ {d8 out : List (Int × List Int)} {b : List Int × List Int}, (∀ a ∈ d8, a.2.length ≤ n) → (∀ f ∈ out, f.2.length ≤ n) → ∀ f ∈ d8.foldl (fun out a => D4 out (I5 a b)) out, f.2.length ≤ n
 | [], out, b, _, h => h
 | a :: d8, out, b, ha, h => by
  refine b5h (d8 := d8) (out := D4 out (I5 a b)) (fun x hx => ha x (by simp [hx])) fun f hf => ?_
  rcases a4Q hf with hf | rfl
  ·exact h f hf
  ·simp only [I5, List.length_map]; exact ha a (by simp)
theorem b9V {n : Nat} {d8 : List (Int × List Int)} {b : List Int × List Int} (h : ∀ a ∈ d8, a.2.length ≤ n) : ∀ f ∈ a0n d8 b, f.2.length ≤ n := b5h h (by simp)
theorem b9d {n g : Nat} {d8 : List (Int × List Int)} {b : List Int × List Int} (h : ∀ a ∈ d8, a.2.length ≤ n) : ∀ f ∈ a0n (d8.take g) b, f.2.length ≤ n := b9V fun a ha => h a (List.mem_of_mem_take ha)
def fzB (u : List Int) (d8 : List (Int × List Int)) : Bool := a5b u (E9 d8).length
def fzV (u : List Int) (d8 : List (Int × List Int)) : List Int := cond (fzB u d8) (E9 d8) []
def fzX (u : List Int) (d8 : List (Int × List Int)) : List Int := cond (fzB u d8) (G4 u (E9 d8).length) []
def fzF (u : List Int) (d8 : List (Int × List Int)) : List (Int × List Int) := cond (fzB u d8) (a0n d8 (E9 d8, G4 u (E9 d8).length)) []
theorem a4F {d8 : List (Int × List Int)} : ∀ x ∈ b8w d8, 0 ≤ x ∧ x ≤ 9 := by
 intro x hx
 unfold b8w f0 at hx
 rw [a6p, List.mem_filter] at hx
 have := hx.2
 simpa [inR] using this
theorem b0M {d8 : List (Int × List Int)} : ∀ x ∈ E9 d8, 10 ≤ x ∧ x ≤ 17 := by
 intro x hx
 unfold E9 f0 at hx
 rw [a6p, List.mem_filter] at hx
 have := hx.2
 simpa [inR] using this
theorem a7g {u u' : List Int} (h : ∀ x, G0 u x = G0 u' x) {n : Nat} : a5b u n = a5b u' n ∧ G4 u n = G4 u' n := by
 constructor
 ·unfold a5b; congr 1; funext i; rw [a5r h, a7n h]
 ·unfold G4; congr 1; funext i; rw [a5r h, a7n h]
theorem b7J {u u' : List Int} (h : ∀ x, x ∈ u ↔ x ∈ u') : ∀ x, G0 u x = G0 u' x := by
 intro x
 rw [Bool.eq_iff_iff, a1z, a1z, h]
end Go.Proofs.YtdopeopehgdccaaGreat
