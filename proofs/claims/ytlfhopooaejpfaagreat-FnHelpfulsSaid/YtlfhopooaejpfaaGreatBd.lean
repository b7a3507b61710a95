import Derived.Test.YtlfhopooaejpfaaGreatBc
import Derived.Lib.SlicesCompact
namespace Go.Proofs.YtlfhopooaejpfaaGreat
open Go.RowKit
set_option linter.unusedVariables false
def FnP2 {α : Type} (P : Program) (w : World) (L : List Nat) (g : FuncId) (caps : List Value) (E : Enc α) (val : List Value → Value) (p : α → α → Bool) : Prop :=
 a7q P g ∧ ∀ w', Keep w L w' → ∀ cs x ds y, Ro w' [] E cs x → Ro w' [] E ds y → Calls P g (val cs :: val ds :: caps).toArray w' fun e w'' => e = .returned (.bool (p x y)) ∧ Ext w' w''
section
variable {P : Program} {α : Type} {E : Enc α} {w w0 : World} {L L0 Lp : List Nat} {pre rest : List HP} {g : FuncId} {caps : List Value} {val : List Value → Value} {p : α → α → Bool}
end
section
variable {P : Program} {Q : Exit → Act → World → Prop} {n : Nat} {w0 : World} {L0 : List Nat} {fr : Fr} {H : List HP} {d : Nat} {ty : TypeId} {pos : String} {af : Array Edge} {g : Option (Nat × Bool)}
end
section
variable {P : Program} {w : World} {L : List Nat} {g : FuncId} {caps : List Value} {RR : World → List Nat → Prop}
theorem c0T {p : (Int × List Int) → (Int × List Int) → Bool} (tr : ∀ {x0 : Int} {ax1 : Option Addr} {mx1 cx1 : Nat} {x1 : List Int} {y0 : Int} {ay1 : Option Addr} {my1 cy1 : Nat} {y1 : List Int}, Tr P g (.agg #[.int .i64 x0, .slice ax1 mx1 cx1] :: .agg #[.int .i64 y0, .slice ay1 my1 cy1] :: caps) (fun w L => (I64 x0 ∧ Ro w L eIs [.slice ax1 mx1 cx1] x1 ∧ I64 y0 ∧ Ro w L eIs [.slice ay1 my1 cy1] y1) ∧ RR w L) [] (κ := Unit) (fun _ => True) (fun _ => .bool (p (x0, x1) (y0, y1))) (fun _ => [])) (hR : ∀ w', Keep w L w' → RR w' []) : FnP2 P w L g caps F6 a1v p :=
 ⟨(tr (x0 := 0) (x1 := []) (ax1 := none) (mx1 := 0) (cx1 := 0) (y0 := 0) (y1 := []) (ay1 := none) (my1 := 0) (cy1 := 0)).1, fun w' k cs x ds y hx hy => by obtain ⟨a0, c0, rfl, h0, h1⟩ := R0 hx; obtain ⟨b0, e0, rfl, k0, k1⟩ := R0 hy; exact Tr.bool tr ⟨⟨h0, h1, k0, k1⟩, hR w' k⟩⟩
theorem b9L {p : (Int × List Int) → (Int × List Int) → Bool} (tr : ∀ {x0 : Int} {ax1 : Option Addr} {mx1 cx1 : Nat} {x1 : List Int} {y0 : Int} {ay1 : Option Addr} {my1 cy1 : Nat} {y1 : List Int}, Tr P g (.agg #[.int .i64 x0, .slice ax1 mx1 cx1] :: .agg #[.int .i64 y0, .slice ay1 my1 cy1] :: caps) (fun w L => (I64 x0 ∧ Ro w L eIs [.slice ax1 mx1 cx1] x1 ∧ I64 y0 ∧ Ro w L eIs [.slice ay1 my1 cy1] y1) ∧ RR w L) [] (κ := Unit) (fun _ => True) (fun _ => .bool (p (x0, x1) (y0, y1))) (fun _ => [])) (hR : ∀ w', Keep w L w' → RR w' []) : FnP2 P w L g caps K0 a1v p :=
 ⟨(tr (x0 := 0) (x1 := []) (ax1 := none) (mx1 := 0) (cx1 := 0) (y0 := 0) (y1 := []) (ay1 := none) (my1 := 0) (cy1 := 0)).1, fun w' k cs x ds y hx hy => by obtain ⟨a0, c0, rfl, h0, h1⟩ := a3C hx; obtain ⟨b0, e0, rfl, k0, k1⟩ := a3C hy; exact Tr.bool tr ⟨⟨h0, h1, k0, k1⟩, hR w' k⟩⟩
theorem c0S {p : (Int × List Int) → (Int × List Int) → Bool} (tr : ∀ {x0 : Int} {ax1 : Option Addr} {mx1 cx1 : Nat} {x1 : List Int} {y0 : Int} {ay1 : Option Addr} {my1 cy1 : Nat} {y1 : List Int}, Tr P g (.agg #[.int .i64 x0, .slice ax1 mx1 cx1] :: .agg #[.int .i64 y0, .slice ay1 my1 cy1] :: caps) (fun w L => (I64 x0 ∧ Ro w L eIs [.slice ax1 mx1 cx1] x1 ∧ I64 y0 ∧ Ro w L eIs [.slice ay1 my1 cy1] y1) ∧ RR w L) [] (κ := Unit) (fun _ => True) (fun _ => .bool (p (x0, x1) (y0, y1))) (fun _ => [])) (hR : ∀ w', Keep w L w' → RR w' []) : FnP2 P w L g caps a2F a1v p :=
 ⟨(tr (x0 := 0) (x1 := []) (ax1 := none) (mx1 := 0) (cx1 := 0) (y0 := 0) (y1 := []) (ay1 := none) (my1 := 0) (cy1 := 0)).1, fun w' k cs x ds y hx hy => by obtain ⟨a0, c0, rfl, h0, h1⟩ := a0m hx; obtain ⟨b0, e0, rfl, k0, k1⟩ := a0m hy; exact Tr.bool tr ⟨⟨h0, h1, k0, k1⟩, hR w' k⟩⟩
theorem c1X {p : List Int → List Int → Bool} (tr : ∀ {ax : Option Addr} {mx cx : Nat} {x : List Int} {ay : Option Addr} {my cy : Nat} {y : List Int}, Tr P g (.slice ax mx cx :: .slice ay my cy :: caps) (fun w L => (Ro w L eIs [.slice ax mx cx] x ∧ Ro w L eIs [.slice ay my cy] y) ∧ RR w L) [] (κ := Unit) (fun _ => True) (fun _ => .bool (p x y)) (fun _ => [])) (hR : ∀ w', Keep w L w' → RR w' []) : FnP2 P w L g caps eIs a8D p :=
 ⟨(tr (ax := none) (mx := 0) (cx := 0) (x := []) (ay := none) (my := 0) (cy := 0) (y := [])).1, fun w' k cs x ds y hx hy => by obtain ⟨a, c, rfl⟩ := hx.sl; obtain ⟨b, e, rfl⟩ := hy.sl; exact (tr (x := x) (y := y)).bool ⟨⟨hx, hy⟩, hR w' k⟩⟩
end
end Go.Proofs.YtlfhopooaejpfaaGreat

namespace Go.Proofs.YtlfhopooaejpfaaGreat
open Go.RowKit
set_option linter.unusedVariables false
def owd {α : Type} (e : TypeId) (E : Enc α) (a : Option Addr) (m c : Nat) (xs : List α) (j : Nat) : HP where
 holds w L := ∃ c1 c2 L1 L2, L = L1 ++ L2 ∧ m = xs.length ∧ m ≤ maxLen ∧ c1.length = j * E.k ∧ D6 E w c2 (xs.drop j) L2 true ∧ (row e E.k a m c (c1 ++ c2)).holds w L1
 stable := by
  rintro w w' L ⟨c1, c2, L1, L2, rfl, h1, h2, h3, h4, h5⟩ hb
  exact ⟨c1, c2, L1, L2, rfl, h1, h2, h3, h4.stable fun b h => hb b (by simp [h]), (row e E.k a m c _).stable h5 fun b h => hb b (by simp [h])⟩
 inh := by
  rintro w L ⟨c1, c2, L1, L2, rfl, h1, h2, h3, h4, h5⟩ b hb
  rcases List.mem_append.1 hb with hb | hb
  ·exact (row e E.k a m c _).inh h5 b hb
  ·exact h4.inh b hb
def owt {α : Type} (e : TypeId) (E : Enc α) (a : Option Addr) (m c : Nat) (xs : List α) (j : Nat) (ce : List Value) : HP where
 holds w L := ∃ c1 c2 L1 L2, L = L1 ++ L2 ∧ m = xs.length ∧ m ≤ maxLen ∧ j < xs.length ∧ ce.length = E.k ∧ c1.length = j * E.k ∧ D6 E w c2 (xs.drop (j + 1)) L2 true ∧ (row e E.k a m c (c1 ++ (ce ++ c2))).holds w L1
 stable := by
  rintro w w' L ⟨c1, c2, L1, L2, rfl, h1, h2, h0, h6, h3, h4, h5⟩ hb
  exact ⟨c1, c2, L1, L2, rfl, h1, h2, h0, h6, h3, h4.stable fun b h => hb b (by simp [h]), (row e E.k a m c _).stable h5 fun b h => hb b (by simp [h])⟩
 inh := by
  rintro w L ⟨c1, c2, L1, L2, rfl, h1, h2, h0, h6, h3, h4, h5⟩ b hb
  rcases List.mem_append.1 hb with hb | hb
  ·exact (row e E.k a m c _).inh h5 b hb
  ·exact h4.inh b hb
section
variable {n : Nat} {w0 : World} {L0 : List Nat} {fr : Fr} {H R : List HP} {G : Act → World → Prop} {α : Type} {E : Enc α} {e : TypeId} {a : Option Addr} {m c : Nat} {xs : List α} {j : Nat}
theorem a2Y (h : Ent n w0 L0 fr (owd e E a m c xs 0 :: R) G) : Ent n w0 L0 fr (ow (Enc.sl e E) [.slice a m c] xs :: R) G := fun ac w h1 h2 => by
 obtain ⟨L, ⟨Lo, LR, rfl, ho, hR⟩, hn, hst⟩ := h2
 obtain ⟨ccs, L1, L2, rfl, g1, g2, g3, g4⟩ := a1Q ho
 exact h ac w h1 ⟨(L1 ++ L2) ++ LR, ⟨L1 ++ L2, LR, rfl, ⟨[], ccs, L1, L2, rfl, g1, g2, by simp, g3, g4⟩, hR⟩, hn, hst⟩
theorem a2Z (hj : j < xs.length) (h : ∀ ce, Ent n w0 L0 fr (owt e E a m c xs j ce :: ow E ce xs[j] :: R) G) : Ent n w0 L0 fr (owd e E a m c xs j :: R) G := fun ac w h1 h2 => by
 obtain ⟨L, ⟨Lo, LR, rfl, ⟨c1, c2, L1, L2, rfl, g1, g2, g3, g4, g5⟩, hR⟩, hn, hst⟩ := h2
 rw [List.drop_eq_getElem_cons hj] at g4
 obtain ⟨d1, d2, N1, N2, rfl, rfl, k1, k2⟩ := g4
 have hperm : (L1 ++ (N1 ++ N2) ++ LR).Perm ((L1 ++ N2) ++ (N1 ++ LR)) := by
  simp only [List.append_assoc]
  refine List.Perm.append_left L1 ?_
  rw [← List.append_assoc, ← List.append_assoc]
  exact (List.perm_append_comm).append_right LR
 exact h d1 ac w h1 ⟨(L1 ++ N2) ++ (N1 ++ LR), ⟨_, _, rfl, ⟨c1, d2, L1, N2, rfl, g1, g2, hj, E.len k1, g3, k2, g5⟩, N1, LR, rfl, k1, hR⟩, hperm.nodup_iff.1 hn, hst.sublist fun b hb => hperm.mem_iff.2 hb⟩
theorem a1M {ce : List Value} (h : Ent n w0 L0 fr (owd e E a m c xs (j + 1) :: R) G) : Ent n w0 L0 fr (owt e E a m c xs j ce :: R) G := fun ac w h1 h2 => by
 obtain ⟨L, ⟨Lo, LR, rfl, ⟨c1, c2, L1, L2, rfl, g1, g2, g0, g6, g3, g4, g5⟩, hR⟩, hn, hst⟩ := h2
 exact h ac w h1 ⟨(L1 ++ L2) ++ LR, ⟨L1 ++ L2, LR, rfl, ⟨c1 ++ ce, c2, L1, L2, rfl, g1, g2, by rw [List.length_append, g3, g6, Nat.succ_mul], g4, by rw [List.append_assoc]; exact g5⟩, hR⟩, hn, hst⟩
theorem b9E {cs : List Value} (h : ∀ (a : Option Addr) (m c : Nat), cs = [.slice a m c] → m = xs.length → Ent n w0 L0 fr (ow (Enc.sl e E) [.slice a m c] xs :: R) G) : Ent n w0 L0 fr (ow (Enc.sl e E) cs xs :: R) G := fun ac w h1 h2 => by
 obtain ⟨L, ⟨Lx, LR, rfl, hx, hR⟩, hn, hst⟩ := h2
 obtain ⟨a, m, c, ccs, L1, L2, rfl, hm, hx2⟩ := id hx
 exact h a m c rfl hm ac w h1 ⟨Lx ++ LR, ⟨Lx, LR, rfl, hx, hR⟩, hn, hst⟩
theorem Has.owt {ce : List Value} {b o : Nat} (ha : a = some ⟨b, o, none⟩) (hm : Go.Proofs.YtlfhopooaejpfaaGreat.owt e E a m c xs j ce ∈ H) : Has w0 L0 H b (o + j * E.k) ce := fun w h => by
 obtain ⟨L', c1, c2, L1, L2, _, g1, g2, hj, g6, g3, g4, h0, g8⟩ := h.mem hm
 rcases g8 with ⟨_, h, _⟩ | ⟨g', cur, h2, h3, h4, h5, h6, h7, _⟩
 ·omega
 rw [ha] at h2; cases h2
 intro i v hi
 have hi' : (c1 ++ (ce ++ c2))[j * E.k + i]? = some v := by
  rw [← g3, List.getElem?_append_right (by omega), show c1.length + i - c1.length = i from by omega]
  rw [List.getElem?_append_left (by exact (List.getElem?_eq_some_iff.1 hi).1)]; exact hi
 rw [← h7, List.getElem?_take] at hi'
 split at hi'
 ·simpa [World.cell?, h3] using hi'
 ·cases hi'
theorem a2k (hm : owd e E a m c xs j ∈ H) (hlt : 0 < m) (h : ∀ b, a = some ⟨b, 0, none⟩ → Ent n w0 L0 fr H G) : Ent n w0 L0 fr H G := fun ac w h1 h2 => by
 obtain ⟨L, hL⟩ := h2.mem hm
 obtain ⟨c1, c2, L1, L2, _, g1, g2, _, _, g4⟩ := hL
 rcases g4.2 with ⟨_, h0, _⟩ | ⟨g, cur, h3, _⟩
 ·omega
 ·exact h g h3 ac w h1 h2
end
theorem U4.has {w1 w0 : World} {L1 L0 : List Nat} {b off : Nat} {cs : List Value} (h : U4 w1 L1 w0 L0) (k : ∀ H, Has w0 L0 H b off cs) : ∀ H, Has w1 L1 H b off cs := fun H w hw => k H w (h H w hw)
theorem frB {a b : Bool} (h : a = b) : some (Value.bool a) = some (Value.bool b) := by rw [h]
end Go.Proofs.YtlfhopooaejpfaaGreat

namespace Go.Proofs.YtlfhopooaejpfaaGreat
set_option linter.unusedVariables false
def R6 (a b : Int) : Int := if a < b then -1 else if b < a then 1 else 0
def J7 : List Int → List Int → Int
 | [], [] => 0
 | [], _ :: _ => -1
 | _ :: _, [] => 1
 | a :: l, b :: m => if R6 a b ≠ 0 then R6 a b else J7 l m
def orI : List Int → Int
 | [] => 0
 | x :: l => if x ≠ 0 then x else orI l
def Q0 (a b : Int × List Int) : Int := if R6 a.1 b.1 ≠ 0 then R6 a.1 b.1 else J7 a.2 b.2
theorem b3F {a b : Int} : I64 (R6 a b) := by unfold R6 I64; split; omega; split <;> omega
theorem b2C : ∀ {l m : List Int}, I64 (J7 l m)
 | [], [] => by unfold J7 I64; omega
 | [], _ :: _ => by unfold J7 I64; omega
 | _ :: _, [] => by unfold J7 I64; omega
 | a :: l, b :: m => by unfold J7; split; exact b3F; exact b2C
theorem b1m {a b : Int} : R6 a b = 0 ↔ a = b := by unfold R6; grind
theorem a5k : ∀ {l m : List Int}, J7 l m = 0 ↔ l = m
 | [], [] => by simp [J7]
 | [], _ :: _ => by simp [J7]
 | _ :: _, [] => by simp [J7]
 | a :: l, b :: m => by
  have := b1m (a := a) (b := b)
  have h2 := a5k (l := l) (m := m)
  unfold J7; grind
theorem a5q {a b : Int × List Int} : Q0 a b = 0 ↔ a = b := by
 have h1 := b1m (a := a.1) (b := b.1)
 have h2 := a5k (l := a.2) (m := b.2)
 unfold Q0
 rcases a with ⟨a1, a2⟩; rcases b with ⟨b1, b2⟩
 grind
def eqP {α : Type} (p : α → α → Bool) : List α → List α → Bool
 | [], [] => true
 | a :: l, b :: m => p a b && eqP p l m
 | _, _ => false
end Go.Proofs.YtlfhopooaejpfaaGreat

namespace Go.Proofs.YtlfhopooaejpfaaGreat
set_option linter.unusedVariables false
def I5 (l : List (Int × List Int)) (f : Int × List Int) : Bool := l.any fun z => decide (Q0 z f = 0)
def G6 (a : Int × List Int) (b : List Int × List Int) : Int × List Int := (a.1, a.2.map (C1 b))
def b8q (q : List Int × List (Int × List Int)) (c6 : List (Int × List Int)) (head : List Int) (b : List Int × List Int) : Bool :=
 decide (b.1.length = b.2.length) && (decide (q.1.map (C1 b) = head) && !q.2.any fun a => !I5 c6 (G6 a b))
theorem Ro.i64A {w : World} {L : List Nat} {e : TypeId} {a : Option Addr} {m c : Nat} {xs : List (Int × List Int)} (h : Ro w L (Enc.sl e (Enc.pair Enc.int (Enc.sl tI Enc.int))) [.slice a m c] xs) : ∀ x ∈ xs, I64 x.1 ∧ ∀ y ∈ x.2, I64 y := by
 intro x hx
 obtain ⟨i, hi, rfl⟩ := List.getElem_of_mem hx
 obtain ⟨_, _, ci, _, h1, _⟩ := h.elem i hi
 obtain ⟨c1, c2, rfl, h2, h3⟩ := h1.pair
 obtain ⟨a', c', rfl⟩ := h3.sl
 exact ⟨h2.int.2, h3.i64⟩
theorem b9x {α : Type} {t : α → Nat} {l : List α} {n : Nat} (h : K2 t l ≤ n) : ∀ x ∈ l, t x ≤ n := by
 intro x hx
 obtain ⟨i, hi, rfl⟩ := List.getElem_of_mem hx
 exact Nat.le_trans (a8G hi) h
theorem b1e {l : List (Int × List Int)} {n : Nat} (h : K2 (fun x => x.2.length) l ≤ n) : ∀ x ∈ l, x.2.length ≤ n := b9x h
end Go.Proofs.YtlfhopooaejpfaaGreat

namespace Go.Proofs.YtlfhopooaejpfaaGreat
set_option linter.unusedVariables false
def H2 {α : Type} (r : α → α → Bool) : List α → Bool
 | a :: b :: l => r a b && H2 r (b :: l)
 | _ => true
theorem b6a {α : Type} {l : List α} {g : Nat} (h : g < l.length) (h0 : 0 < g) : l.drop (g - 1) = l[g - 1] :: l[g] :: l.drop (g + 1) := by
 rw [List.drop_eq_getElem_cons (by omega), show g - 1 + 1 = g by omega, List.drop_eq_getElem_cons h]
def ltB (a b : Int) : Bool := decide (a < b)
theorem R8 {α : Type} {r : α → α → Bool} {l : List α} {g : Nat} (h : g < l.length) (h0 : 0 < g) : H2 r (l.drop (g - 1)) = (r l[g - 1] l[g] && H2 r (l.drop g)) := by
 rw [b6a h h0, H2, ← List.drop_eq_getElem_cons h]
theorem S2 {α : Type} {r : α → α → Bool} {l : List α} {g : Nat} (h : g = 0) : H2 r (l.drop (g - 1)) = H2 r (l.drop g) := by subst h; rfl
theorem U7 {α : Type} {r : α → α → Bool} {l : List α} {g : Nat} (h : l.length ≤ g) : H2 r (l.drop (g - 1)) = true := by
 have : (l.drop (g - 1)).length ≤ 1 := by simp; omega
 match l.drop (g - 1), this with
 | [], _ => rfl
 | [x], _ => rfl
 | x :: y :: z, h => simp at h
def a0Q (m : Int × List Int × Int × Int × Int) (ar : Int) : Bool :=
 H2 ltB m.2.1 && (S5 m.2.1 ar && (inR m.2.2.1 0 9 && (inR m.2.2.2.1 0 99 && inR m.2.2.2.2 1 99)))
def U3 (s : List Int) (m : Int × List Int × Int × Int × Int) : Bool := L8 s m.1 && a0Q m (at0 s m.1)
def C0 (s : List Int) (l : List (Int × List Int × Int × Int × Int)) : Bool := P4 s && (decide ((l.length : Int) ≤ 5) && !l.any fun m => !U3 s m)
def X2 (v : List Int) : Bool := H2 ltB v && a1W v
def M0 (l : List (Int × List Int)) (a : Int × List Int) : Bool := l.any fun z => decide (z = a)
def o6 (j6 : List Int) : Nat → List (List Int)
 | 0 => [[]]
 | n + 1 => (o6 j6 n).flatMap fun l => j6.map fun v => l ++ [v]
theorem M9 {j6 : List Int} : ∀ {t : Nat}, ∀ l ∈ o6 j6 t, l.length = t
 | 0, l, h => by simp [o6] at h; simp [h]
 | t + 1, l, h => by
  simp only [o6, List.mem_flatMap, List.mem_map] at h
  obtain ⟨x, hx, v, hv, rfl⟩ := h
  simp [M9 x hx]
theorem R3 {j6 : List Int} : ∀ {t : Nat}, (o6 j6 t).length = j6.length ^ t
 | 0 => rfl
 | t + 1 => by
  simp only [o6, List.length_flatMap, List.length_map]
  rw [Nat.pow_succ, ← R3 (t := t)]
  generalize o6 j6 t = l
  induction l with
  | nil => simp
  | cons x l ih => simp [ih, Nat.succ_mul, Nat.add_comm]
theorem a4F {j6 : List Int} {t : Nat} (h : j6.length ≤ 10) (ht : t ≤ 3) : (o6 j6 t).length ≤ 1000 := by
 rw [R3]
 exact Nat.le_trans (Nat.pow_le_pow_left h t) (Nat.le_trans (Nat.pow_le_pow_right (by decide) ht) (by decide))
theorem a7u {j6 : List Int} {l : List (List Int)} {k : Nat} (h : j6.length ≤ 10) : ((l.take k).flatMap fun l => j6.map fun v => l ++ [v]).length ≤ k * 10 := by
 simp only [List.length_flatMap, List.length_map]
 induction l generalizing k with
 | nil => simp
 | cons x l ih =>
  cases k with
  | zero => simp
  | succ k => have := ih (k := k); simp only [List.take_succ_cons, List.map_cons, List.sum_cons]; omega
def O0 (j6 : List Int) (log : List (Int × List Int)) (i : Int) (k : Nat) : List (Int × List Int) :=
 ((o6 j6 k).filter fun v => !M0 log (i, v)).map fun v => (i, v)
def d7 (j6 : List Int) (log : List (Int × List Int)) : List (Int × List Int × Int × Int × Int) → Int → List (Int × List Int)
 | [], _ => []
 | m :: l, i => (if m.2.2.1 ≠ 0 then [] else O0 j6 log i m.2.1.length) ++ d7 j6 log l (i + 1)
theorem Y3 {j6 : List Int} {log : List (Int × List Int)} : ∀ {l l' : List (Int × List Int × Int × Int × Int)} {i : Int}, d7 j6 log (l ++ l') i = d7 j6 log l i ++ d7 j6 log l' (i + l.length)
 | [], l', i => by simp [d7]
 | m :: l, l', i => by
  rw [List.cons_append, d7, d7, Y3 (l := l), List.append_assoc, List.length_cons, show i + 1 + (l.length : Int) = i + ((l.length + 1 : Nat) : Int) by omega]
theorem a4s {j6 : List Int} {log : List (Int × List Int)} {i : Int} (h : j6.length ≤ 10) : ∀ {l : List (Int × List Int × Int × Int × Int)}, (∀ m ∈ l, m.2.1.length ≤ 3) → (d7 j6 log l i).length ≤ l.length * 1000
 | [], _ => by simp [d7]
 | m :: l, hm => by
  have h1 := a4s (j6 := j6) (log := log) (i := i + 1) h (l := l) (fun x hx => hm x (by simp [hx]))
  have h2 := a4F (j6 := j6) h (hm m (by simp))
  have h3 := List.length_filter_le (fun v => !M0 log (i, v)) (o6 j6 m.2.1.length)
  simp only [d7, List.length_append, List.length_cons]
  split
  ·rw [List.length_nil]; omega
  ·simp only [O0, List.length_map]; omega
def a0h (s : List Int) (l : List (Int × List Int × Int × Int × Int)) (j6 : List Int) (log : List (Int × List Int)) : List (Int × List Int) :=
 if C0 s l && X2 j6 then d7 j6 log l 0 else []
theorem a7z : ∀ {l : List Int} {a b : Int}, H2 ltB l = true → (∀ x ∈ l, a ≤ x ∧ x ≤ b) → a ≤ b + 1 → (l.length : Int) ≤ b - a + 1
 | [], _, _, _, _, _ => by simp; omega
 | [x], a, b, _, h, _ => by have := h x (by simp); simp; omega
 | x :: y :: l, a, b, hc, h, hab => by
  simp only [H2, ltB, Bool.and_eq_true, decide_eq_true_eq] at hc
  have hx := h x (by simp)
  have hge : ∀ z ∈ y :: l, x + 1 ≤ z := by
   have : ∀ {l : List Int} {y : Int}, H2 ltB (y :: l) = true → ∀ z ∈ y :: l, y ≤ z := by
    intro l
    induction l with
    | nil => intro y _ z hz; simp at hz; omega
    | cons u l ih =>
     intro y hc z hz
     simp only [H2, ltB, Bool.and_eq_true, decide_eq_true_eq] at hc
     rcases List.mem_cons.1 hz with rfl | hz
     ·omega
     ·have := ih hc.2 z hz; omega
   intro z hz
   have := this hc.2 z hz; omega
  have := a7z (l := y :: l) (a := x + 1) (b := b) hc.2 (fun z hz => ⟨hge z hz, (h z (by simp only [List.mem_cons] at hz ⊢; exact .inr hz)).2⟩) (by omega)
  simp only [List.length_cons] at this ⊢; omega
theorem a1F {v : List Int} (h : X2 v = true) : v.length ≤ 10 := by
 simp only [X2, a1W, Bool.and_eq_true, Bool.not_eq_true', List.any_eq_false] at h
 have := a7z (a := 0) (b := 9) h.1 (fun x hx => by have := h.2 x hx; simpa [inR] using this) (by omega)
 omega
theorem b5E {s : List Int} {m : Int × List Int × Int × Int × Int} (h : U3 s m = true) : m.2.1.length ≤ 3 := by
 simp only [U3, a0Q, S5, Bool.and_eq_true, Bool.not_eq_true', List.any_eq_false] at h
 have h1 := Y0 h.1
 have := a7z (a := 0) (b := at0 s m.1 - 1) h.2.1 (fun x hx => by have := h.2.2.1 x hx; simpa [inR] using this) (by simp only [at0]; omega)
 simp only [at0] at this; omega
theorem a3T {s : List Int} {l : List (Int × List Int × Int × Int × Int)} (h : C0 s l = true) : (∀ m ∈ l, m.2.1.length ≤ 3) ∧ l.length ≤ 5 := by
 simp only [C0, Bool.and_eq_true, Bool.not_eq_true', List.any_eq_false, decide_eq_true_eq] at h
 refine ⟨fun m hm => b5E (s := s) ?_, by omega⟩
 have := h.2.2 m hm
 simpa using this
theorem a4K {α : Type} {c : α → Nat} {n : Nat} : ∀ {l : List α}, (∀ x ∈ l, c x ≤ n) → E1 c l ≤ l.length * n
 | [], _ => by simp [E1]
 | x :: l, h => by
  have h1 := a4K (c := c) (n := n) (l := l) fun y hy => h y (by simp [hy])
  have h2 := h x (by simp)
  simp only [E1, List.map_cons, List.sum_cons, List.length_cons, Nat.succ_mul] at h1 ⊢; omega
theorem b4B {j6 : List Int} {log : List (Int × List Int)} : ∀ {l : List (Int × List Int × Int × Int × Int)} {i : Int}, (∀ m ∈ l, m.2.1.length ≤ 3) → ∀ a ∈ d7 j6 log l i, a.2.length ≤ 3
 | [], _, _, a, h => by simp [d7] at h
 | m :: l, i, hm, a, h => by
  simp only [d7, List.mem_append] at h
  rcases h with h | h
  ·split at h
   ·cases h
   ·simp only [O0, List.mem_map, List.mem_filter] at h
    obtain ⟨v, ⟨hv, _⟩, rfl⟩ := h
    have e1 := M9 v hv
    have e2 := hm m (by simp)
    show v.length ≤ 3; omega
  ·exact b4B (l := l) (fun x hx => hm x (by simp [hx])) a h
end Go.Proofs.YtlfhopooaejpfaaGreat

namespace Go.Proofs.YtlfhopooaejpfaaGreat
set_option linter.unusedVariables false
def O6 {α : Type} (p : α → Bool) (f : α) : List α → List α
 | [] => []
 | x :: l => if p x then f :: x :: l else x :: O6 p f l
def W3 {α : Type} (has : Bool) (p : α → Bool) (f : α) (l : List α) : List α := if has then l else if l.any p then O6 p f l else l ++ [f]
section
variable {α : Type} {p q : α → Bool} {f : α}
theorem a0e : ∀ {l : List α}, l.any p = false → O6 p f l = l
 | [], _ => rfl
 | x :: l, h => by
  simp only [List.any_cons, Bool.or_eq_false_iff] at h
  simp [O6, h.1, a0e h.2]
theorem V8 : ∀ {l : List α} {y : α}, O6 p f (l ++ [y]) = if l.any p then O6 p f l ++ [y] else if p y then l ++ [f, y] else l ++ [y]
 | [], y => by simp [O6]
 | x :: l, y => by
  have h := V8 (l := l) (y := y)
  simp only [List.cons_append, O6, List.any_cons, h]
  cases p x <;> cases l.any p <;> cases p y <;> simp
theorem a6D : ∀ {l : List α}, (O6 p f l).length ≤ l.length + 1
 | [] => by simp [O6]
 | x :: l => by
  have := a6D (l := l)
  simp only [O6]; split <;> simp <;> omega
theorem a2M {h : Bool} {l : List α} : (W3 h p f l).length ≤ l.length + 1 := by
 have := a6D (p := p) (f := f) (l := l)
 unfold W3; split; omega; split; omega; simp
theorem a0z {h : Bool} {l : List α} {y : α} (hy : y ∈ W3 h p f l) : y ∈ l ∨ y = f := by
 have ins : ∀ {l : List α}, y ∈ O6 p f l → y ∈ l ∨ y = f := by
  intro l
  induction l with
  | nil => simp [O6]
  | cons x l ih =>
   intro h
   simp only [O6] at h
   split at h
   ·simp only [List.mem_cons] at h ⊢; rcases h with h | h | h <;> simp [h]
   ·simp only [List.mem_cons] at h ⊢
    rcases h with h | h
    ·simp [h]
    ·rcases ih h with h | h <;> simp [h]
 unfold W3 at hy
 split at hy
 ·exact .inl hy
 ·split at hy
  ·exact ins hy
  ·simpa using hy
theorem b7N {l : List α} (hpq : ∀ y ∈ l, p y = q y) : W3 false p f l = l.take (if J8 q l < 0 then l.length else (J8 q l).toNat) ++ f :: l.drop (if J8 q l < 0 then l.length else (J8 q l).toNat) := by
 have ha : l.any p = l.any q := by
  induction l with
  | nil => rfl
  | cons x l ih => simp [List.any_cons, hpq x (by simp), ih fun y hy => hpq y (by simp [hy])]
 unfold W3 J8
 rw [ha]
 by_cases h : l.any q = true
 ·simp only [h, if_true, Bool.false_eq_true, if_false]
  rw [if_neg (by omega), Int.toNat_natCast]
  clear ha
  induction l with
  | nil => simp at h
  | cons x l ih =>
   simp only [O6, List.findIdx_cons, hpq x (by simp)]
   cases hq : q x with
   | true => simp
   | false =>
    simp only [List.any_cons, hq, Bool.false_or] at h
    simp [ih (fun y hy => hpq y (by simp [hy])) h]
 ·simp [h]
end
def R5 (l : List Int) (x : Int) : Bool := l.any fun y => decide (y = x)
def M3 (l : List Int) (x : Int) : List Int := W3 (R5 l x) (fun y => decide (x < y)) x l
def I2 (l : List Int) : List Int := l.foldl M3 []
theorem a8a : ∀ {a b : List Int}, a.Pairwise (· < ·) → b.Pairwise (· < ·) → (∀ x, x ∈ a ↔ x ∈ b) → a = b
 | [], [], _, _, _ => rfl
 | [], y :: b, _, _, h => by have := (h y).2 (by simp); simp at this
 | x :: a, [], _, _, h => by have := (h x).1 (by simp); simp at this
 | x :: a, y :: b, ha, hb, h => by
  rw [List.pairwise_cons] at ha hb
  have e : x = y := by
   have h1 := (h x).1 (by simp)
   have h2 := (h y).2 (by simp)
   simp only [List.mem_cons] at h1 h2
   rcases h1 with h1 | h1
   ·exact h1
   ·rcases h2 with h2 | h2
    ·exact h2.symm
    ·have := hb.1 x h1; have := ha.1 y h2; omega
  subst e
  rw [a8a ha.2 hb.2 fun z => ?_]
  have := h z
  simp only [List.mem_cons] at this
  constructor
  ·intro hz
   rcases this.1 (.inr hz) with e | e
   ·have := ha.1 z hz; omega
   ·exact e
  ·intro hz
   rcases this.2 (.inr hz) with e | e
   ·have := hb.1 z hz; omega
   ·exact e
theorem b6I {l : List Int} {x : Int} (h : l.Pairwise (· < ·)) : (M3 l x).Pairwise (· < ·) ∧ ∀ y, y ∈ M3 l x ↔ y ∈ l ∨ y = x := by
 have ins : ∀ {l : List Int}, l.Pairwise (· < ·) → x ∉ l → (if (l.any fun y => decide (x < y)) then O6 (fun y => decide (x < y)) x l else l ++ [x]).Pairwise (· < ·) ∧ ∀ y, y ∈ (if (l.any fun y => decide (x < y)) then O6 (fun y => decide (x < y)) x l else l ++ [x]) ↔ y ∈ l ∨ y = x := by
  intro l
  induction l with
  | nil => intro _ _; simp
  | cons z l ih =>
   intro h hx
   rw [List.pairwise_cons] at h
   simp only [List.mem_cons, not_or] at hx
   have ih' := ih h.2 hx.2
   by_cases hz : x < z
   ·simp only [List.any_cons, hz, decide_true, Bool.true_or, if_true, O6]
    refine ⟨?_, fun y => by simp only [List.mem_cons]; constructor <;> (intro h; rcases h with h | h | h) <;> simp [h]⟩
    rw [List.pairwise_cons, List.pairwise_cons]
    refine ⟨fun y hy => ?_, h⟩
    simp only [List.mem_cons] at hy
    rcases hy with rfl | hy
    ·exact hz
    ·have := h.1 y hy; omega
   ·simp only [List.any_cons, hz, decide_false, Bool.false_or, O6, Bool.false_eq_true, if_false]
    have e : (if (l.any fun y => decide (x < y)) then z :: O6 (fun y => decide (x < y)) x l else z :: l ++ [x]) = z :: (if (l.any fun y => decide (x < y)) then O6 (fun y => decide (x < y)) x l else l ++ [x]) := by split <;> simp
    rw [e]
    refine ⟨?_, fun y => by rw [List.mem_cons, ih'.2 y, List.mem_cons, or_assoc]⟩
    rw [List.pairwise_cons]
    refine ⟨fun y hy => ?_, ih'.1⟩
    rcases (ih'.2 y).1 hy with hy | rfl
    ·exact h.1 y hy
    ·omega
 unfold M3 W3 R5
 by_cases hx : x ∈ l
 ·have : (l.any fun y => decide (y = x)) = true := List.any_eq_true.2 ⟨x, hx, by simp⟩
  rw [if_pos this]
  exact ⟨h, fun y => ⟨.inl, fun e => by rcases e with e | rfl; exact e; exact hx⟩⟩
 ·have : ¬ (l.any fun y => decide (y = x)) = true := fun e => by
   obtain ⟨y, hy, e⟩ := List.any_eq_true.1 e
   simp at e; subst e; exact hx hy
  rw [if_neg this]
  exact ins h hx
theorem a1r : ∀ {l s : List Int}, s.Pairwise (· < ·) → (l.foldl M3 s).Pairwise (· < ·) ∧ ∀ y, y ∈ l.foldl M3 s ↔ y ∈ s ∨ y ∈ l
 | [], s, h => ⟨h, by simp⟩
 | x :: l, s, h => by
  have h1 := b6I (x := x) h
  have h2 := a1r (l := l) h1.1
  refine ⟨h2.1, fun y => ?_⟩
  rw [List.foldl_cons, h2.2 y, h1.2 y, List.mem_cons, or_assoc]
theorem a6B {l : List Int} : (I2 l).Pairwise (· < ·) := (a1r .nil).1
theorem a2Q {l : List Int} {y : Int} : y ∈ I2 l ↔ y ∈ l := by rw [I2, (a1r .nil).2 y]; simp
theorem a6p {l : List Int} : (I2 l).length ≤ l.length := by
 have : ∀ {l s : List Int}, (l.foldl M3 s).length ≤ s.length + l.length := by
  intro l
  induction l with
  | nil => intro s; simp
  | cons x l ih => intro s; have := ih (s := M3 s x); have h2 := a2M (h := R5 s x) (p := fun y => decide (x < y)) (f := x) (l := s); simp only [List.foldl_cons, List.length_cons]; unfold M3 at *; omega
 have h := this (l := l) (s := [])
 simpa [I2] using h
theorem b0q {d : List Int} (hd : d.Pairwise (· ≤ ·)) : (Lib.compact d).Pairwise (· < ·) ∧ ∀ y, y ∈ Lib.compact d ↔ y ∈ d := by
 have hle : ∀ i j, (hij : i ≤ j) → (hj : j < d.length) → d[i]'(by omega) ≤ d[j]'hj := by
  intro i j hij hj
  rcases Nat.lt_or_eq_of_le hij with h | h
  ·exact List.pairwise_iff_getElem.1 hd i j (by omega) hj h
  ·subst h; exact Int.le_refl _
 have hget : ∀ i, (h : i < d.length) → d.toArray[i]! = d[i] := by intro i h; simp [h]
 have key : ∀ m, m ≤ d.length → (Lib.compactUpTo d.toArray m).Pairwise (· < ·) ∧ ∀ y, y ∈ Lib.compactUpTo d.toArray m ↔ y ∈ d.take m := by
  intro m
  induction m with
  | zero => intro _; simp [Lib.compactUpTo]
  | succ m ih =>
   intro hm
   obtain ⟨h1, h2⟩ := ih (by omega)
   have hmem : ∀ y, y ∈ d.take (m + 1) ↔ y ∈ d.take m ∨ y = d[m] := by
    intro y; rw [List.take_succ_eq_append_getElem (show m < d.length by omega), List.mem_append, List.mem_singleton]
   rw [Lib.compactUpTo_succ, hget m (by omega)]
   by_cases hk : Lib.keeps d.toArray m = true
   ·rw [if_pos hk]
    refine ⟨List.pairwise_append.2 ⟨h1, by simp, fun a ha b hb => ?_⟩, fun y => by rw [List.mem_append, h2 y, hmem y]; simp⟩
    simp only [List.mem_singleton] at hb
    subst hb
    rw [h2 a, List.mem_take_iff_getElem] at ha
    obtain ⟨i, hi, rfl⟩ := ha
    have hi' : i < m := by omega
    have e1 := hle i (m - 1) (by omega) (by omega)
    have e2 := hle (m - 1) m (by omega) (by omega)
    have e3 : d[m - 1]'(by omega) ≠ d[m] := by
     intro e
     have := Lib.keeps_neg (d := d.toArray) (m := m) (by omega) (by rw [hget m (by omega), hget (m - 1) (by omega), e])
     rw [this] at hk; cases hk
    omega
   ·rw [if_neg hk, List.append_nil]
    refine ⟨h1, fun y => ?_⟩
    rw [h2 y, hmem y]
    refine ⟨.inl, fun h => h.elim id ?_⟩
    rintro rfl
    have h0 : 0 < m := by
     rcases Nat.eq_zero_or_pos m with e | e
     ·subst e; exact absurd (Lib.keeps_lt_one d.toArray 0 (by omega)) hk
     ·exact e
    have e3 : d[m - 1]'(by omega) = d[m] := by
     refine Classical.byContradiction fun e => hk (Lib.keeps_pos ?_)
     rw [hget m (by omega), hget (m - 1) (by omega)]
     exact fun e' => e e'.symm
    rw [List.mem_take_iff_getElem]
    exact ⟨m - 1, by omega, e3⟩
 have := key d.length (Nat.le_refl _)
 simpa [Lib.compact] using this
theorem a0C {l : List Int} : Lib.compact (l.mergeSort fun x y => decide (x ≤ y)) = I2 l := by
 have hs : (l.mergeSort fun x y => decide (x ≤ y)).Pairwise (· ≤ ·) := by
  have := List.pairwise_mergeSort (le := fun x y : Int => decide (x ≤ y)) (by intro a b c; simp only [decide_eq_true_eq]; omega) (by intro a b; simp only [Bool.or_eq_true, decide_eq_true_eq]; omega) l
  exact this.imp fun h => by simpa using h
 have h := b0q hs
 refine a8a h.1 a6B fun x => ?_
 rw [h.2 x, a2Q]
 exact (List.mergeSort_perm l _).mem_iff
end Go.Proofs.YtlfhopooaejpfaaGreat

namespace Go.Proofs.YtlfhopooaejpfaaGreat
set_option linter.unusedVariables false
theorem b8B {P : Program} {f : FuncId} {args : List Value} {RR RR' : World → List Nat → Prop} {pre : List HP} {κ : Type} {φ : κ → Prop} {ret : κ → Value} {post : κ → List HP} (h : Tr P f args RR pre φ ret post) (hR : ∀ w L, RR' w L → RR w L) : Tr P f args RR' pre φ ret post :=
 ⟨h.1, fun w L hr hs hn => h.2 w L (hR w L hr) hs hn⟩
theorem Y2 {l m : List Int} : I2 (l ++ m) = m.foldl M3 (I2 l) := by unfold I2; rw [List.foldl_append]
theorem O8 {l : List Int} {x : Int} : I2 (l ++ [x]) = M3 (I2 l) x := by rw [Y2]; rfl
theorem a2N {l : List Int} {x : Int} : R5 l x = true ↔ x ∈ l := by
 unfold R5
 rw [List.any_eq_true]
 constructor
 ·rintro ⟨y, hy, e⟩; simp at e; subst e; exact hy
 ·intro h; exact ⟨x, h, by simp⟩
def f0 (is : Int → Bool) (i7 : List (Int × List Int)) : List Int := I2 ((i7.flatMap fun a => a.2).filter is)
theorem a8V : ∀ {l : List (Int × List Int)}, (l.flatMap fun a => a.2).length = E1 (fun x => x.2.length) l
 | [] => rfl
 | a :: l => by simp only [List.flatMap_cons, List.length_append, a8V (l := l), E1, List.map_cons, List.sum_cons]
theorem b6H {is : Int → Bool} {i7 : List (Int × List Int)} {g : Nat} (hz : K2 (fun x => x.2.length) i7 ≤ 1048576) : (((i7.take g).flatMap fun a => a.2).filter is).length ≤ 1048576 := by
 have h1 := List.length_filter_le is ((i7.take g).flatMap fun a => a.2)
 have h2 := b0j (t := fun x : Int × List Int => x.2.length) (l := i7) (g := g)
 rw [a8V] at h1
 unfold K2 at hz; omega
theorem a6k {is : Int → Bool} {i7 : List (Int × List Int)} {g h : Nat} (hz : K2 (fun x => x.2.length) i7 ≤ 1048576) (hg : g < i7.length) : (((i7.take g).flatMap fun a => a.2).filter is ++ (i7[g].2.take h).filter is).length ≤ 1048576 := by
 have h1 := List.length_filter_le is ((i7.take g).flatMap fun a => a.2)
 have h2 := b0j (t := fun x : Int × List Int => x.2.length) (l := i7) (g := g + 1)
 have h3 := List.length_filter_le is (i7[g].2.take h)
 have h4 := List.length_take_le' h i7[g].2
 rw [b1a hg] at h2
 rw [a8V] at h1
 rw [List.length_append]
 unfold K2 at hz; omega
def S0 (t : Int) : Bool := inR t 0 9 || inR t 10 17
def Q3 (s : List Int) (a : Int × List Int) : Bool := L8 s a.1 && (decide ((a.2.length : Int) = at0 s a.1) && !a.2.any fun t => !S0 t)
def a1C (q : List Int × List (Int × List Int)) : Bool := decide ((q.1.length : Int) ≤ 3) && !q.1.any fun t => !R5 (f0 (fun t => inR t 10 17) q.2) t
def C8 (s : List Int) (q : List Int × List (Int × List Int)) : Bool := P4 s && (inR (q.2.length : Int) 1 4 && ((!q.2.any fun a => !Q3 s a) && a1C q))
def c2l (s : List Int) (u : List (List Int × List (Int × List Int))) (q : List Int × List (Int × List Int)) : Bool := !C8 s q || decide ((q.1.length : Int) ≠ ((u.getD 0 ([], [])).1.length : Int))
def b0B (s : List Int) (u : List (List Int × List (Int × List Int))) : Bool := inR (u.length : Int) 1 3 && !u.any (c2l s u)
def b9z (s : List Int) (g : (List Int × List (Int × List Int)) × List (Int × List Int)) : Bool :=
 C8 s g.1 && (decide ((g.2.length : Int) ≤ 4) && ((!g.2.any fun a => !Q3 s a) && !(f0 (fun t => inR t 10 17) g.2).any fun t => !R5 (f0 (fun t => inR t 10 17) g.1.2) t))
end Go.Proofs.YtlfhopooaejpfaaGreat

namespace Go.Proofs.YtlfhopooaejpfaaGreat
set_option linter.unusedVariables false
def ltF (a b : Int × List Int) : Bool := decide (Q0 a b < 0)
def w6 (l : List (Int × List Int)) (f : Int × List Int) : List (Int × List Int) := W3 (I5 l f) (ltF f) f l
theorem b3f {a b : Int} : R6 a b = - R6 b a := by unfold R6; grind
theorem a8S : ∀ {l m : List Int}, J7 l m = - J7 m l
 | [], [] => by simp [J7]
 | [], _ :: _ => by simp [J7]
 | _ :: _, [] => by simp [J7]
 | a :: l, b :: m => by
  have h1 := b3f (a := a) (b := b)
  have h2 := a8S (l := l) (m := m)
  unfold J7; grind
theorem b2R {a b : Int × List Int} : Q0 a b = - Q0 b a := by
 have h1 := b3f (a := a.1) (b := b.1)
 have h2 := a8S (l := a.2) (m := b.2)
 unfold Q0; grind
theorem a4O {l : List (Int × List Int)} {f : Int × List Int} (h : I5 l f = true) : w6 l f = l := by simp [w6, W3, h]
theorem a8B {l : List (Int × List Int)} {f : Int × List Int} (h : I5 l f = false) : w6 l f = l.take (if J8 (fun z => decide (0 < Q0 z f)) l < 0 then l.length else (J8 (fun z => decide (0 < Q0 z f)) l).toNat) ++ f :: l.drop (if J8 (fun z => decide (0 < Q0 z f)) l < 0 then l.length else (J8 (fun z => decide (0 < Q0 z f)) l).toNat) := by
 rw [w6, h]
 refine b7N fun y _ => ?_
 have := b2R (a := f) (b := y)
 rw [ltF, decide_eq_decide]; omega
theorem a5v {α : Type} {p : α → Bool} {s : List α} : J8 p s ≤ s.length ∧ -1 ≤ J8 p s := by
 unfold J8
 split
 ·have := List.findIdx_le_length (p := p) (xs := s); omega
 ·omega
def U1 {α : Type} (h : Bool) (p : α → Bool) (f : α) (l : List α) : List α := if h then l else O6 p f l
theorem b2q {α : Type} {h : Bool} {p : α → Bool} {f : α} {l : List α} : (U1 h p f l).length ≤ l.length + 1 := by
 have := a6D (p := p) (f := f) (l := l)
 unfold U1; split <;> omega
theorem P5 {α : Type} {h : Bool} {p : α → Bool} {f : α} : U1 h p f [] = [] := by unfold U1; cases h <;> rfl
theorem N0 {α : Type} {h : Bool} {p : α → Bool} {f : α} {l : List α} {y : α} : U1 h p f (l ++ [y]) = if (h || l.any p) = true then U1 h p f l ++ [y] else if p y = true then U1 h p f l ++ [f, y] else U1 h p f l ++ [y] := by
 unfold U1
 cases h
 ·simp only [Bool.false_eq_true, if_false, Bool.false_or, V8]
  cases ha : l.any p
  ·simp [a0e ha]
  ·simp
 ·simp
theorem N3 {α : Type} {h : Bool} {p : α → Bool} {f : α} {l : List α} : W3 h p f l = if (h || l.any p) = true then U1 h p f l else U1 h p f l ++ [f] := by
 unfold U1 W3
 cases h
 ·cases ha : l.any p
  ·simp [a0e ha]
  ·simp
 ·simp
theorem P3 {α : Type} {p : α → Bool} {l : List α} {g : Nat} (h : g < l.length) : (l.take (g + 1)).any p = ((l.take g).any p || p l[g]) := by
 rw [List.take_succ_eq_append_getElem h, List.any_append]; simp
theorem V9 {f : Int × List Int} {a : Int} {b : List Int} : ltF f (a, b) = decide (Q0 f (a, b) < 0) := rfl
def b5g (s : List Int) (l : List (Int × List Int)) (g : Nat) : Bool := (l.drop g).all (H8 s) && H2 ltF (l.drop (g - 1))
def G4 (s : List Int) (l : List (Int × List Int)) : Bool := b5g s l 0 && (P4 s && decide ((l.length : Int) ≤ 24))
def G5 (c6 : List (Int × List Int)) (f : Int × List Int) (out : List (Int × List Int)) (r : Int × Int × List Int) : List (Int × List Int) :=
 if f.1 = r.1 then (if I5 c6 (r.2.1, vals r.2.2 f.2) then out else w6 out (r.2.1, vals r.2.2 f.2)) else out
def F7 (l : List (Int × Int × List Int)) (c6 : List (Int × List Int)) (out : List (Int × List Int)) (f : Int × List Int) : List (Int × List Int) := l.foldl (G5 c6 f) out
def l6 (l : List (Int × Int × List Int)) (c6 : List (Int × List Int)) : List (Int × List Int) := c6.foldl (F7 l c6) []
theorem a7x {l : List (Int × Int × List Int)} {c6 : List (Int × List Int)} {f : Int × List Int} {out : List (Int × List Int)} {h : Nat} : ((l.take h).foldl (G5 c6 f) out).length ≤ out.length + (l.take h).length := by
 generalize l.take h = m
 induction m generalizing out with
 | nil => simp
 | cons r m ih =>
  have h1 := ih (out := G5 c6 f out r)
  have h2 : (G5 c6 f out r).length ≤ out.length + 1 := by
   unfold G5
   split
   ·split
    ·omega
    ·exact a2M
   ·omega
  simp only [List.foldl_cons, List.length_cons]; omega
theorem a8Y {l : List (Int × Int × List Int)} {c6 fs : List (Int × List Int)} : (fs.foldl (F7 l c6) []).length ≤ fs.length * l.length := by
 have : ∀ {fs out : List (Int × List Int)}, (fs.foldl (F7 l c6) out).length ≤ out.length + fs.length * l.length := by
  intro fs
  induction fs with
  | nil => intro out; simp
  | cons f fs ih =>
   intro out
   have h1 := ih (out := F7 l c6 out f)
   have h2 := a7x (l := l) (c6 := c6) (f := f) (out := out) (h := l.length)
   rw [List.take_length] at h2
   unfold F7 at h1 ⊢
   simp only [List.foldl_cons, List.length_cons, Nat.succ_mul]; omega
 have h := this (fs := fs) (out := [])
 simpa using h
theorem b0c {m v : List Int} {n : Nat} (h : m.length ≤ n) : (vals m v).length ≤ n := by rw [b3e]; exact h
theorem a8E {c6 : List (Int × List Int)} {f : Int × List Int} {n : Nat} : ∀ {l : List (Int × Int × List Int)} {out : List (Int × List Int)}, (∀ r ∈ l, r.2.2.length ≤ n) → (∀ x ∈ out, x.2.length ≤ n) → ∀ x ∈ l.foldl (G5 c6 f) out, x.2.length ≤ n
 | [], out, _, h, x, hx => h x hx
 | r :: l, out, hr, h, x, hx => by
  refine a8E (l := l) (out := G5 c6 f out r) (fun r hr' => hr r (by simp [hr'])) (fun y hy => ?_) x hx
  unfold G5 at hy
  split at hy
  ·split at hy
   ·exact h y hy
   ·rcases a0z hy with hy | rfl
    ·exact h y hy
    ·exact b0c (hr r (by simp))
  ·exact h y hy
theorem b2H {l : List (Int × Int × List Int)} {c6 : List (Int × List Int)} {n : Nat} (hr : ∀ r ∈ l, r.2.2.length ≤ n) : ∀ {fs out : List (Int × List Int)}, (∀ x ∈ out, x.2.length ≤ n) → ∀ x ∈ fs.foldl (F7 l c6) out, x.2.length ≤ n
 | [], out, h, x, hx => h x hx
 | f :: fs, out, h, x, hx => b2H hr (fs := fs) (out := F7 l c6 out f) (a8E hr h) x hx
theorem b4A {l : List (Int × Int × List Int)} {c6 : List (Int × List Int)} {n g h : Nat} (hr : ∀ r ∈ l, r.2.2.length ≤ n) (hg : g < c6.length) : ∀ x ∈ (l.take h).foldl (G5 c6 c6[g]) ((c6.take g).foldl (F7 l c6) []), x.2.length ≤ n :=
 a8E (fun r h' => hr r (List.mem_of_mem_take h')) (b2H hr (by simp))
theorem b8N {b : Bool} {m v : List Int} {n : Nat} (h : m.length ≤ n) : (cond b (vals m v) []).length ≤ n := by
 cases b
 ·exact Nat.zero_le _
 ·exact b0c h
end Go.Proofs.YtlfhopooaejpfaaGreat

namespace Go.Proofs.YtlfhopooaejpfaaGreat
set_option linter.unusedVariables false
set_option linter.unusedSimpArgs false
theorem W5 {s : List Int} {l : List (Int × Int × List Int)} (h : C4 s l = true) : P4 s = true ∧ l.length ≤ 4 ∧ ∀ r ∈ l, J5 s r = true := by
 simp only [C4, Bool.and_eq_true, decide_eq_true_eq, Bool.not_eq_true', List.any_eq_false, Bool.not_eq_true] at h
 exact ⟨h.1, by omega, fun r hr => by have := h.2.2 r hr; simpa using this⟩
theorem a2C {s : List Int} {l : List (Int × List Int)} (h : G4 s l = true) : l.length ≤ 24 ∧ ∀ f ∈ l, H8 s f = true := by
 simp only [G4, b5g, List.drop_zero, Bool.and_eq_true, decide_eq_true_eq, List.all_eq_true] at h
 exact ⟨by omega, h.1.1⟩
theorem M7 {s : List Int} {f : Int × List Int} (h : H8 s f = true) : f.2.length ≤ 3 := by
 simp only [H8, Bool.and_eq_true, decide_eq_true_eq] at h
 have := Y0 h.1
 simp only [at0] at h; omega
theorem a6q {v : List Int} (h : a1W v = true) : ∀ x ∈ v, 0 ≤ x ∧ x ≤ 9 := by
 simp only [a1W, Bool.not_eq_true', List.any_eq_false, Bool.not_eq_true] at h
 intro x hx
 have := h x hx
 simp [inR] at this; omega
theorem a5t {v : List Int} (h : ∀ x ∈ v, 0 ≤ x ∧ x ≤ 9) : a1W v = true := by
 simp only [a1W, Bool.not_eq_true', List.any_eq_false, Bool.not_eq_true]
 intro x hx
 have := h x hx
 simp [inR]; omega
theorem b5d {s : List Int} {r : Int × Int × List Int} {f : Int × List Int} (h1 : J5 s r = true) (h2 : H8 s f = true) (e : f.1 = r.1) : H8 s (r.2.1, vals r.2.2 f.2) = true := by
 have h3 := b1g h1 h2 e
 simp only [J5, H8, Bool.and_eq_true, decide_eq_true_eq] at h1 h2 ⊢
 refine ⟨h1.2.1, by rw [b3e]; exact h1.2.2.1, a5t fun x hx => ?_⟩
 simp only [vals, List.mem_map] at hx
 obtain ⟨i, hi, rfl⟩ := hx
 have h4 := h3 i hi
 rw [G3 (show i.toNat < f.2.length by omega)]
 exact a6q h2.2.2 _ (List.getElem_mem _)
theorem b1B {P : Int × List Int → Prop} {c6 : List (Int × List Int)} {f : Int × List Int} : ∀ {l : List (Int × Int × List Int)} {out : List (Int × List Int)}, (∀ r ∈ l, f.1 = r.1 → I5 c6 (r.2.1, vals r.2.2 f.2) = false → P (r.2.1, vals r.2.2 f.2)) → (∀ x ∈ out, P x) → ∀ x ∈ l.foldl (G5 c6 f) out, P x
 | [], out, _, h, x, hx => h x hx
 | r :: l, out, hr, h, x, hx => by
  refine b1B (l := l) (out := G5 c6 f out r) (fun r hr' => hr r (by simp [hr'])) (fun y hy => ?_) x hx
  unfold G5 at hy
  split at hy
  ·split at hy
   ·exact h y hy
   ·rename_i h1 h2
    rcases a0z hy with hy | rfl
    ·exact h y hy
    ·exact hr r (by simp) h1 (by simpa using h2)
  ·exact h y hy
theorem b3b {P : Int × List Int → Prop} {c6 : List (Int × List Int)} {l : List (Int × Int × List Int)} (H : ∀ r ∈ l, ∀ f ∈ c6, f.1 = r.1 → I5 c6 (r.2.1, vals r.2.2 f.2) = false → P (r.2.1, vals r.2.2 f.2)) : ∀ x ∈ l6 l c6, P x := by
 have : ∀ {fs out : List (Int × List Int)}, (∀ f ∈ fs, f ∈ c6) → (∀ x ∈ out, P x) → ∀ x ∈ fs.foldl (F7 l c6) out, P x := by
  intro fs
  induction fs with
  | nil => intro out _ h; exact h
  | cons f fs ih =>
   intro out hs h
   exact ih (fun g hg => hs g (by simp [hg])) (b1B (fun r hr => H r hr f (hs f (by simp))) h)
 exact this (fun f h => h) (by simp)
theorem a2r {s : List Int} {l : List (Int × Int × List Int)} {c6 : List (Int × List Int)} (h1 : C4 s l = true) (h2 : ∀ f ∈ c6, H8 s f = true) : ∀ x ∈ l6 l c6, H8 s x = true ∧ I5 c6 x = false :=
 b3b fun r hr f hf e h => ⟨b5d ((W5 h1).2.2 r hr) (h2 f hf) e, h⟩
theorem a2s {s : List Int} {l : List (Int × Int × List Int)} {c6 : List (Int × List Int)} (h1 : C4 s l = true) (h2 : ∀ f ∈ c6, H8 s f = true) : (∀ r ∈ l, ∀ f ∈ c6, f.1 = r.1 → ∀ x ∈ r.2.2, 0 ≤ x ∧ x < f.2.length) ∧ (∀ r ∈ l, r.2.2.length ≤ 1048576) ∧ l.length ≤ 4 :=
 have h := W5 h1
 ⟨fun r hr f hf e => b1g (h.2.2 r hr) (h2 f hf) e, fun r hr => Nat.le_trans (b2u (h.2.2 r hr)) (by decide), h.2.1⟩
def c1r (s : List Int) (l : List (Int × Int × List Int)) (c6 : List (Int × List Int)) : List (Int × List Int) := if C4 s l && G4 s c6 then l6 l c6 else []
theorem a5g {l : List (Int × Int × List Int)} {c6 : List (Int × List Int)} (h : l.length ≤ 4) : (l6 l c6).length ≤ c6.length * 4 :=
 Nat.le_trans a8Y (Nat.mul_le_mul_left _ h)
theorem b6u {l : List (Int × Int × List Int)} {c6 : List (Int × List Int)} (h : ∃ s, C4 s l = true ∧ G4 s c6 = true) : c6.length ≤ 24 := by
 obtain ⟨s, h1, h2⟩ := h
 exact (a2C h2).1
theorem b8i {l : List (Int × Int × List Int)} {c6 : List (Int × List Int)} (h : ∃ s, C4 s l = true ∧ G4 s c6 = true) : ∀ f ∈ c6, f.2.length ≤ 1048576 := by
 obtain ⟨s, h1, h2⟩ := h
 exact fun f hf => Nat.le_trans (M7 ((a2C h2).2 f hf)) (by decide)
def x5 (l : List (Int × Int × List Int)) (c6 : List (Int × List Int)) : Nat → List (Int × List Int)
 | 0 => c6
 | n + 1 => (l6 l (x5 l c6 n)).foldl w6 (x5 l c6 n)
def D0 (l : List (Int × Int × List Int)) (c6 : List (Int × List Int)) : List (Int × List Int) := x5 l c6 6001
theorem a9N {l : List (Int × Int × List Int)} {c6 : List (Int × List Int)} {n : Nat} (h : l6 l (x5 l c6 n) = []) : ∀ k, x5 l c6 (n + k) = x5 l c6 n
 | 0 => rfl
 | k + 1 => by
  show (l6 l (x5 l c6 (n + k))).foldl w6 (x5 l c6 (n + k)) = _
  rw [a9N h k, h]; rfl
theorem a6F {l : List (Int × Int × List Int)} {c6 : List (Int × List Int)} {n : Nat} (hn : n ≤ 6001) (h : l6 l (x5 l c6 n) = []) : x5 l c6 n = D0 l c6 := by
 have := a9N h (6001 - n)
 rw [show n + (6001 - n) = 6001 by omega] at this
 exact this.symm
theorem a2K : ∀ {n : Nat} {l : List Nat}, l.Nodup → (∀ x ∈ l, x < n) → l.length ≤ n
 | 0, l, _, h => by
  cases l with
  | nil => simp
  | cons x l => exact absurd (h x (by simp)) (by omega)
 | n + 1, l, hd, h => by
  by_cases hm : n ∈ l
  ·have h1 := a2K (n := n) (l := l.erase n) (hd.erase n) fun x hx => by
    have h2 := (hd.mem_erase_iff).1 hx
    have := h x h2.2; omega
   rw [List.length_erase_of_mem hm] at h1; omega
  ·have h1 := a2K (n := n) (l := l) hd fun x hx => by
    have h2 := h x hx
    have : x ≠ n := fun e => hm (e ▸ hx)
    omega
   omega
def a3U : List Int → Nat
 | [] => 0
 | v :: l => (v.toNat + 1) + 11 * a3U l
theorem b1c : ∀ {a b : List Int}, (∀ x ∈ a, 0 ≤ x ∧ x ≤ 9) → (∀ x ∈ b, 0 ≤ x ∧ x ≤ 9) → a3U a = a3U b → a = b
 | [], [], _, _, _ => rfl
 | [], y :: b, _, _, h => by simp [a3U] at h; omega
 | x :: a, [], _, _, h => by simp [a3U] at h
 | x :: a, y :: b, ha, hb, h => by
  have h1 := ha x (by simp)
  have h2 := hb y (by simp)
  simp only [a3U] at h
  rw [b1c (a := a) (b := b) (fun z hz => ha z (by simp [hz])) (fun z hz => hb z (by simp [hz])) (by omega), show x = y by omega]
theorem b3i : ∀ {n : Nat} {a : List Int}, (∀ x ∈ a, 0 ≤ x ∧ x ≤ 9) → a.length ≤ n → a3U a < 11 ^ n
 | n, [], _, _ => by simp [a3U]; exact Nat.pow_pos (by decide)
 | 0, x :: a, _, h => by simp at h
 | n + 1, x :: a, ha, h => by
  have h1 := b3i (n := n) (a := a) (fun z hz => ha z (by simp [hz])) (by simpa using h)
  have h2 := ha x (by simp)
  simp only [a3U, Nat.pow_succ]; omega
def b5y (f : Int × List Int) : Nat := f.1.toNat + 4 * a3U f.2
theorem a4m {s : List Int} {f : Int × List Int} (h : H8 s f = true) : 0 ≤ f.1 ∧ f.1 < 4 := by
 simp only [H8, Bool.and_eq_true, decide_eq_true_eq] at h
 have h1 := Y0 h.1
 have h2 := h.1
 simp only [L8, P4, inR, Bool.and_eq_true, decide_eq_true_eq] at h2
 omega
theorem W4 {s : List Int} {f : Int × List Int} (h : H8 s f = true) : ∀ x ∈ f.2, 0 ≤ x ∧ x ≤ 9 := by
 simp only [H8, Bool.and_eq_true] at h
 exact a6q h.2.2
theorem a5a {s : List Int} {D : List (Int × List Int)} (hd : D.Nodup) (h : ∀ f ∈ D, H8 s f = true) : D.length ≤ 5324 := by
 have h1 : (D.map b5y).Nodup := by
  unfold List.Nodup at hd ⊢
  rw [List.pairwise_map]
  refine List.Pairwise.imp_of_mem (fun {a b} ha hb hab e => hab ?_) hd
  have ra := a4m (h a ha)
  have rb := a4m (h b hb)
  simp only [b5y] at e
  have e2 := b1c (W4 (h a ha)) (W4 (h b hb)) (by omega)
  exact Prod.ext (by omega) e2
 have h2 := a2K (n := 5324) h1 fun x hx => by
  obtain ⟨f, hf, rfl⟩ := List.mem_map.1 hx
  have r := a4m (h f hf)
  have c := b3i (n := 3) (W4 (h f hf)) (M7 (h f hf))
  unfold b5y; omega
 simpa using h2
theorem a8W {α : Type} {p : α → Bool} {f y : α} : ∀ {l : List α}, y ∈ l → y ∈ O6 p f l
 | x :: l, h => by
  simp only [O6]
  simp only [List.mem_cons] at h
  split
  ·simp [h]
  ·rcases h with h | h
   ·simp [h]
   ·simp [a8W h]
theorem a7v {α : Type} {p : α → Bool} {f : α} : ∀ {l : List α}, l.any p = true → f ∈ O6 p f l
 | x :: l, h => by
  simp only [O6]
  split
  ·simp
  ·rename_i h1
   simp only [List.any_cons, h1, Bool.false_or] at h
   simp [a7v h]
theorem a2P {l : List (Int × List Int)} {f y : Int × List Int} (h : y ∈ l) : y ∈ w6 l f := by
 unfold w6 W3
 split
 ·exact h
 ·split
  ·exact a8W h
  ·simp [h]
theorem a0E {l : List (Int × List Int)} {f : Int × List Int} : I5 l f = true ↔ f ∈ l := by
 unfold I5
 rw [List.any_eq_true]
 constructor
 ·rintro ⟨x, hx, e⟩
  rw [decide_eq_true_eq, a5q] at e
  exact e ▸ hx
 ·intro h
  exact ⟨f, h, by rw [decide_eq_true_eq, a5q]⟩
theorem a5j {l : List (Int × List Int)} {f : Int × List Int} (h : I5 l f = false) : f ∈ w6 l f := by
 unfold w6 W3
 rw [h]
 simp only [Bool.false_eq_true, if_false]
 split
 ·rename_i h1; exact a7v h1
 ·simp
def a5J (s : List Int) (x D : List (Int × List Int)) : Prop := D.Nodup ∧ (∀ f ∈ D, f ∈ x) ∧ x.length ≤ 24 + D.length ∧ ∀ f ∈ x, H8 s f = true
theorem b2P {s : List Int} {x D : List (Int × List Int)} {f : Int × List Int} (h : a5J s x D) (hf : H8 s f = true) : ∃ D', a5J s (w6 x f) D' ∧ D.length + (if I5 x f then 0 else 1) ≤ D'.length := by
 obtain ⟨h1, h2, h3, h4⟩ := h
 cases hx : I5 x f with
 | true => exact ⟨D, by rw [a4O hx]; exact ⟨h1, h2, h3, h4⟩, by simp⟩
 | false =>
  refine ⟨f :: D, ⟨?_, ?_, ?_, ?_⟩, by simp⟩
  ·rw [List.nodup_cons]
   exact ⟨fun hm => (by rw [a0E.2 (h2 f hm)] at hx; cases hx), h1⟩
  ·intro y hy
   simp only [List.mem_cons] at hy
   rcases hy with rfl | hy
   ·exact a5j hx
   ·exact a2P (h2 y hy)
  ·have := a2M (h := I5 x f) (p := ltF f) (f := f) (l := x)
   simp only [w6, List.length_cons]; omega
  ·intro y hy
   rcases a0z hy with hy | rfl
   ·exact h4 y hy
   ·exact hf
theorem a7l {s : List Int} : ∀ {m x D : List (Int × List Int)}, a5J s x D → (∀ f ∈ m, H8 s f = true) → ∃ D', a5J s (m.foldl w6 x) D' ∧ D.length ≤ D'.length
 | [], x, D, h, _ => ⟨D, h, Nat.le_refl _⟩
 | f :: m, x, D, h, hm => by
  obtain ⟨D1, g1, l1⟩ := b2P h (hm f (by simp))
  obtain ⟨D2, g2, l2⟩ := a7l (m := m) g1 (fun y hy => hm y (by simp [hy]))
  exact ⟨D2, g2, by omega⟩
theorem a9T {s : List Int} {m x D : List (Int × List Int)} (h : a5J s x D) (hm : ∀ f ∈ m, H8 s f = true ∧ I5 x f = false) (h0 : m ≠ []) : ∃ D', a5J s (m.foldl w6 x) D' ∧ D.length + 1 ≤ D'.length := by
 cases m with
 | nil => exact absurd rfl h0
 | cons f m =>
  obtain ⟨D1, g1, l1⟩ := b2P h (hm f (by simp)).1
  obtain ⟨D2, g2, l2⟩ := a7l (m := m) g1 (fun y hy => (hm y (by simp [hy])).1)
  rw [(hm f (by simp)).2] at l1
  refine ⟨D2, g2, ?_⟩
  simp only [Bool.false_eq_true, if_false] at l1
  omega
def a5D (l : List (Int × Int × List Int)) (c6 : List (Int × List Int)) (n : Nat) : Prop := ∃ s, C4 s l = true ∧ ∃ D, a5J s (x5 l c6 n) D ∧ n ≤ D.length
theorem a7g {s : List Int} {c6 : List (Int × List Int)} (h2 : G4 s c6 = true) : a5J s c6 [] := by
 have h := a2C h2
 exact ⟨by simp, by simp, by simpa using h.1, h.2⟩
theorem a7p {l : List (Int × Int × List Int)} {c6 : List (Int × List Int)} (h : ∃ s, C4 s l = true ∧ G4 s c6 = true) : a5D l c6 0 := by
 obtain ⟨s, h1, h2⟩ := h
 exact ⟨s, h1, [], a7g h2, by simp⟩
theorem a7r {l : List (Int × Int × List Int)} {c6 : List (Int × List Int)} {n : Nat} (h : a5D l c6 n) (h0 : l6 l (x5 l c6 n) ≠ []) : a5D l c6 (n + 1) := by
 obtain ⟨s, h1, D, g, hn⟩ := h
 obtain ⟨D', g', l'⟩ := a9T g (a2r h1 g.2.2.2) h0
 exact ⟨s, h1, D', g', by omega⟩
theorem a6e {l : List (Int × Int × List Int)} {c6 : List (Int × List Int)} {n : Nat} (h : a5D l c6 n) : n ≤ 6000 ∧ (x5 l c6 n).length ≤ 6024 ∧ (l6 l (x5 l c6 n)).length ≤ 24096 ∧ l.length ≤ 4 := by
 obtain ⟨s, h1, D, g, hn⟩ := h
 have h2 := a5a g.1 (fun f hf => g.2.2.2 f (g.2.1 f hf))
 have h3 := g.2.2.1
 have h4 := (W5 h1).2.1
 have h5 := a5g (c6 := x5 l c6 n) h4
 omega
theorem a3Y {l : List (Int × Int × List Int)} {c6 : List (Int × List Int)} {n : Nat} (h : a5D l c6 n) : (∀ r ∈ l, ∀ f ∈ x5 l c6 n, f.1 = r.1 → ∀ x ∈ r.2.2, 0 ≤ x ∧ x < f.2.length) ∧ (∀ r ∈ l, r.2.2.length ≤ 1048576) ∧ (∀ f ∈ l6 l (x5 l c6 n), f.2.length ≤ 1048576) ∧ ∀ f ∈ x5 l c6 n, f.2.length ≤ 1048576 := by
 obtain ⟨s, h1, D, g, hn⟩ := h
 have h2 := a2s h1 g.2.2.2
 exact ⟨h2.1, h2.2.1, fun f hf => Nat.le_trans (M7 (a2r h1 g.2.2.2 f hf).1) (by decide), fun f hf => Nat.le_trans (M7 (g.2.2.2 f hf)) (by decide)⟩
theorem a4R {m x : List (Int × List Int)} : (m.foldl w6 x).length ≤ x.length + m.length := by
 induction m generalizing x with
 | nil => simp
 | cons f m ih =>
  have h1 := ih (x := w6 x f)
  have h2 := a2M (h := I5 x f) (p := ltF f) (f := f) (l := x)
  simp only [List.foldl_cons, List.length_cons]
  unfold w6 at h1 ⊢; omega
theorem b0I {n : Nat} : ∀ {m x : List (Int × List Int)}, (∀ f ∈ m, f.2.length ≤ n) → (∀ f ∈ x, f.2.length ≤ n) → ∀ f ∈ m.foldl w6 x, f.2.length ≤ n
 | [], x, _, h => h
 | y :: m, x, hm, h => by
  refine b0I (m := m) (x := w6 x y) (fun f hf => hm f (by simp [hf])) fun f hf => ?_
  rcases a0z hf with hf | rfl
  ·exact h f hf
  ·exact hm _ (by simp)
theorem b3z {n g : Nat} {m x : List (Int × List Int)} (hm : ∀ f ∈ m, f.2.length ≤ n) (hx : ∀ f ∈ x, f.2.length ≤ n) : ∀ f ∈ (m.take g).foldl w6 x, f.2.length ≤ n :=
 b0I (fun f hf => hm f (List.mem_of_mem_take hf)) hx
def b3j (s : List Int) (l : List (Int × Int × List Int)) (c6 : List (Int × List Int)) : List (Int × List Int) := if C4 s l && G4 s c6 then D0 l c6 else []
end Go.Proofs.YtlfhopooaejpfaaGreat

namespace Go.Proofs.YtlfhopooaejpfaaGreat
set_option linter.unusedVariables false
set_option linter.unusedSimpArgs false
def unb (b : List Int × List Int) (t : Int) : Bool := !(b.1.take (min b.1.length b.2.length)).any fun x => decide (x = t)
theorem b0g {α : Type} {p : α → Bool} {s : List α} : J8 p s < 0 ↔ s.any p = false := by
 unfold J8
 by_cases h : s.any p = true
 ·rw [if_pos h]; simp [h]
 ·rw [if_neg h]; simp at h; simp; exact h
theorem D7 {b : List Int × List Int} {t : Int} : unb b t = decide (J8 (fun x => decide (x = t)) (b.1.take (min b.1.length b.2.length)) < 0) := by
 rw [unb, Bool.eq_iff_iff, decide_eq_true_eq, b0g]; simp
theorem a3m {V W : List Int} {p : Int → Bool} {g : Nat} (h : g < V.length) (h2 : g < W.length) : ((V.take (min V.length W.length)).drop g).any p = (p V[g] || ((V.take (min V.length W.length)).drop (g + 1)).any p) := by
 rw [List.drop_eq_getElem_cons (by simp; omega)]
 simp
theorem a5B {V W : List Int} {p : Int → Bool} {g : Nat} (h : ¬ (g < V.length ∧ g < W.length)) : ((V.take (min V.length W.length)).drop g).any p = false := by
 rw [List.drop_eq_nil_of_le (by simp; omega)]; rfl
def F0 (x : List Int × List Int) (t v : Int) : List Int × List Int := if inR t 10 17 && unb x t then (x.1 ++ [t], x.2 ++ [v]) else x
def E0 (b : List Int × List Int) (l : List (Int × Int)) : List Int × List Int := l.foldl (fun x p => F0 x p.1 p.2) b
def okV (b : List Int × List Int) : List (Int × Int) → Bool
 | [] => true
 | p :: l => decide (C1 (F0 b p.1 p.2) p.1 = p.2) && okV (F0 b p.1 p.2) l
def v8 (b : List Int × List Int) (a f : Int × List Int) : Bool := decide (a.1 = f.1) && (decide (a.2.length = f.2.length) && (decide (b.1.length = b.2.length) && okV b (a.2.zip f.2)))
def w8 (b : List Int × List Int) (a f : Int × List Int) : List Int × List Int := E0 b (a.2.zip f.2)
theorem D9 {b : List Int × List Int} {t v : List Int} {g : Nat} (h : g < t.length) (h2 : g < v.length) : E0 b ((t.zip v).take (g + 1)) = F0 (E0 b ((t.zip v).take g)) t[g] v[g] := by
 unfold E0
 rw [List.take_succ_eq_append_getElem (by simp; omega), List.foldl_append]
 simp
theorem C2 {b : List Int × List Int} {t v : List Int} {g : Nat} (h : g < t.length) (h2 : g < v.length) : okV b ((t.zip v).drop g) = (decide (C1 (F0 b t[g] v[g]) t[g] = v[g]) && okV (F0 b t[g] v[g]) ((t.zip v).drop (g + 1))) := by
 rw [List.drop_eq_getElem_cons (by simp; omega)]
 simp [okV]
theorem D8 {b : List Int × List Int} {t v : List Int} {g : Nat} (h : t.length ≤ g) : okV b ((t.zip v).drop g) = true := by
 rw [List.drop_eq_nil_of_le (by simp; omega)]; rfl
theorem E6 {b : List Int × List Int} {t v : List Int} {g : Nat} (h : t.length ≤ g) : E0 b ((t.zip v).take g) = E0 b (t.zip v) := by
 rw [List.take_of_length_le (by simp; omega)]
theorem b2F {x : List Int × List Int} {t v : Int} : (F0 x t v).1.length ≤ x.1.length + 1 ∧ (F0 x t v).2.length ≤ x.2.length + 1 := by
 unfold F0; split <;> simp
theorem a4w {x : List Int × List Int} {t v : Int} (h : x.1.length = x.2.length) : (F0 x t v).1.length = (F0 x t v).2.length := by
 unfold F0; split <;> simp [h]
theorem a7s : ∀ {l : List (Int × Int)} {x : List Int × List Int}, (E0 x l).1.length ≤ x.1.length + l.length ∧ (E0 x l).2.length ≤ x.2.length + l.length
 | [], x => by simp [E0]
 | p :: l, x => by
  have h1 := a7s (l := l) (x := F0 x p.1 p.2)
  have h2 := b2F (x := x) (t := p.1) (v := p.2)
  simp only [E0, List.foldl_cons, List.length_cons] at h1 ⊢; omega
theorem a6z : ∀ {l : List (Int × Int)} {x : List Int × List Int}, x.1.length = x.2.length → (E0 x l).1.length = (E0 x l).2.length
 | [], x, h => h
 | p :: l, x, h => by
  have := a6z (l := l) (a4w (t := p.1) (v := p.2) h)
  simpa only [E0, List.foldl_cons] using this
theorem b6B {b : List Int × List Int} {t v : List Int} {g : Nat} : (E0 b ((t.zip v).take g)).1.length ≤ b.1.length + t.length ∧ (E0 b ((t.zip v).take g)).2.length ≤ b.2.length + t.length := by
 have h := a7s (l := (t.zip v).take g) (x := b)
 have h2 : ((t.zip v).take g).length ≤ t.length := by simp; omega
 omega
theorem b4t {x : List Int × List Int} {t v : Int} (h : x.1.length = x.2.length) (h1 : inR t 10 17 = true) (h2 : unb x t = true) : C1 (x.1 ++ [t], x.2 ++ [v]) t = v := by
 have e := a4P (b := (x.1 ++ [t], x.2 ++ [v])) (t := t) (g := x.1.length) h1 (by simp) (by simp [h]) (by simp) (by
  intro y hy
  simp only [unb, h, Nat.min_self, Bool.not_eq_true', List.any_eq_false] at h2
  rw [List.take_append_of_le_length (Nat.le_refl _), List.take_length] at hy
  have := h2 y (by rw [← h, List.take_length]; exact hy)
  simpa using this)
 rw [← e]
 simp [h]
theorem a9V {x : List Int × List Int} {t v : Int} (h : (inR t 10 17 && unb x t) = false) : F0 x t v = x := by unfold F0; rw [h]; simp
theorem a7Y {x : List Int × List Int} {t v : Int} (h : (inR t 10 17 && unb x t) = true) : F0 x t v = (x.1 ++ [t], x.2 ++ [v]) := by unfold F0; rw [h]; simp
theorem O4 {x : List Int × List Int} {t v : Int} (h : x.1.length = x.2.length) : decide (C1 (F0 x t v) t = v) = (inR t 10 17 && unb x t || decide (C1 x t = v)) := by
 cases hc : inR t 10 17 && unb x t with
 | false => rw [a9V hc]; simp
 | true =>
  rw [a7Y hc]
  rw [Bool.and_eq_true] at hc
  rw [b4t h hc.1 hc.2]; simp
def P2 (b : List Int × List Int) (a : Int × List Int) (c6 : List (Int × List Int)) : List (List Int × List Int) := (c6.filter (v8 b a)).map (w8 b a)
def I0 (l : List (List Int × List Int)) (a : Int × List Int) (c6 : List (Int × List Int)) : List (List Int × List Int) := l.flatMap fun b => P2 b a c6
theorem a0k {b : List Int × List Int} {a : Int × List Int} : P2 b a [] = [] := rfl
theorem X3 {b : List Int × List Int} {a f : Int × List Int} {l : List (Int × List Int)} : P2 b a (l ++ [f]) = if v8 b a f then P2 b a l ++ [w8 b a f] else P2 b a l := by
 unfold P2
 cases h : v8 b a f <;> simp [List.filter_append, h]
theorem a0i {a : Int × List Int} {c6 : List (Int × List Int)} : I0 [] a c6 = [] := rfl
theorem X5 {l : List (List Int × List Int)} {b : List Int × List Int} {a : Int × List Int} {c6 : List (Int × List Int)} : I0 (l ++ [b]) a c6 = I0 l a c6 ++ P2 b a c6 := by
 simp [I0]
theorem b3B {n k : Nat} {a : Int × List Int} {c6 : List (Int × List Int)} {l : List (List Int × List Int)} (ha : a.2.length ≤ k) (h : ∀ b ∈ l, b.1.length ≤ n ∧ b.2.length ≤ n) : ∀ b ∈ I0 l a c6, b.1.length ≤ n + k ∧ b.2.length ≤ n + k := by
 intro b hb
 simp only [I0, P2, List.mem_flatMap, List.mem_map] at hb
 obtain ⟨x, hx, f, _, rfl⟩ := hb
 have h1 := h x hx
 have h2 := a7s (l := a.2.zip f.2) (x := x)
 have h3 : (a.2.zip f.2).length ≤ a.2.length := by simp; omega
 unfold w8; omega
def z8 (i7 : List (Int × List Int)) (c6 : List (Int × List Int)) : List (List Int × List Int) := i7.foldl (fun l a => I0 l a c6) [([], [])]
theorem a1s {c6 : List (Int × List Int)} : z8 [] c6 = [([], [])] := rfl
theorem a0M {i7 c6 : List (Int × List Int)} {a : Int × List Int} : z8 (i7 ++ [a]) c6 = I0 (z8 i7 c6) a c6 := by
 simp [z8]
def b2L (l : List (List Int)) (t : List Int) : Bool := l.any fun x => decide (x = t)
def ltT (a b : List Int) : Bool := decide (J7 a b < 0)
def a6m (l : List (List Int)) (t : List Int) : List (List Int) := W3 (b2L l t) (ltT t) t l
def b0f (h : List Int) (l : List (List Int × List Int)) : List (List Int) := l.foldl (fun out b => a6m out (h.map (C1 b))) []
theorem a5w {s : List Int} {q : List Int × List (Int × List Int)} (h : C8 s q = true) : q.2.length ≤ 4 ∧ q.1.length ≤ 3 ∧ ∀ a ∈ q.2, a.2.length ≤ 3 := by
 simp only [C8, a1C, inR, Bool.and_eq_true, decide_eq_true_eq, Bool.not_eq_true', List.any_eq_false, Bool.not_eq_true] at h
 refine ⟨by omega, by omega, fun a ha => ?_⟩
 have h1 := h.2.2.1 a ha
 have h1 : Q3 s a = true := by simpa using h1
 simp only [Q3, Bool.and_eq_true, decide_eq_true_eq] at h1
 have := Y0 h1.1
 simp only [at0] at h1; omega
def a3c (s : List Int) (q : List Int × List (Int × List Int)) (c6 : List (Int × List Int)) : List (List Int) := if C8 s q && G4 s c6 then b0f q.1 (z8 q.2 c6) else []
end Go.Proofs.YtlfhopooaejpfaaGreat

namespace Go.Proofs.YtlfhopooaejpfaaGreat
set_option linter.unusedVariables false
set_option linter.unusedSimpArgs false
def nxt (u : List Int) : Nat → Nat → Nat
 | 0, v => v
 | n + 1, v => if R5 u (v : Int) then nxt u n (v + 1) else v
def J9 (u : List Int) (v : Nat) : Nat := nxt u 11 v
theorem a8b {u : List Int} (hu : ∀ x ∈ u, 0 ≤ x ∧ x ≤ 9) {v : Nat} (h : R5 u (v : Int) = true) : v ≤ 9 := by
 have := (hu _ (a2N.1 h)).2; omega
theorem b2p {u : List Int} (hu : ∀ x ∈ u, 0 ≤ x ∧ x ≤ 9) : ∀ {n v : Nat}, 10 ≤ v + n → nxt u (n + 1) v = nxt u n v
 | 0, v, h => by
  simp only [nxt]
  split
  ·rename_i h1; have := a8b hu h1; omega
  ·rfl
 | n + 1, v, h => by
  have ih := b2p hu (n := n) (v := v + 1) (by omega)
  show (if R5 u (v : Int) then nxt u (n + 1) (v + 1) else v) = (if R5 u (v : Int) then nxt u n (v + 1) else v)
  rw [ih]
theorem b1p {u : List Int} (hu : ∀ x ∈ u, 0 ≤ x ∧ x ≤ 9) {v : Nat} (h : R5 u (v : Int) = true) : J9 u (v + 1) = J9 u v := by
 have h1 : J9 u v = nxt u 10 (v + 1) := by unfold J9; rw [nxt, if_pos h]
 rw [h1]
 exact b2p hu (by omega)
theorem a9I {u : List Int} {v : Nat} (h : R5 u (v : Int) = false) : J9 u v = v := by
 unfold J9; rw [nxt, if_neg (by simp [h])]
def fzN (u : List Int) : Nat → Nat
 | 0 => 0
 | g + 1 => J9 u (fzN u g) + 1
def a4q (u : List Int) (n : Nat) : Bool := (List.range n).all fun i => decide (J9 u (fzN u i) ≤ 9)
def F9 (u : List Int) (n : Nat) : List Int := (List.range n).map fun i => (J9 u (fzN u i) : Int)
theorem L6 {u : List Int} : F9 u 0 = [] := rfl
theorem K9 {u : List Int} {n : Nat} : F9 u (n + 1) = F9 u n ++ [(J9 u (fzN u n) : Int)] := by
 unfold F9; rw [List.range_succ, List.map_append]; rfl
theorem a2O {u : List Int} {n : Nat} : (F9 u n).length = n := by simp [F9]
theorem b2Q {u : List Int} {i n : Nat} (h : i < n) (h2 : ¬ J9 u (fzN u i) ≤ 9) : a4q u n = false := by
 rw [← Bool.not_eq_true, a4q, List.all_eq_true]
 intro e
 have := e i (List.mem_range.2 h)
 rw [decide_eq_true_eq] at this
 exact h2 this
theorem a7M {u : List Int} {n : Nat} (h : ∀ i, i < n → J9 u (fzN u i) ≤ 9) : a4q u n = true := by
 rw [a4q, List.all_eq_true]
 intro i hi
 rw [decide_eq_true_eq]
 exact h i (List.mem_range.1 hi)
theorem b6e {u : List Int} {g : Nat} (h : ∀ i, i < g → J9 u (fzN u i) ≤ 9) : fzN u g ≤ 10 := by
 cases g with
 | zero => simp [fzN]
 | succ g => have := h g (by omega); simp only [fzN]; omega
theorem b4W {u : List Int} {g : Nat} (h : ∀ i, i < g → J9 u (fzN u i) ≤ 9) (h1 : J9 u (fzN u g) ≤ 9) : ∀ i, i < g + 1 → J9 u (fzN u i) ≤ 9 := by
 intro i hi
 rcases Nat.lt_succ_iff_lt_or_eq.1 hi with h2 | rfl
 ·exact h i h2
 ·exact h1
def B6 (i7 : List (Int × List Int)) : List Int := f0 (fun t => inR t 10 17) i7
def b8l (i7 : List (Int × List Int)) : List Int := f0 (fun t => inR t 0 9) i7
def V5 (i7 : List (Int × List Int)) (b : List Int × List Int) : List (Int × List Int) := i7.foldl (fun out a => w6 out (G6 a b)) []
theorem O1 {b : List Int × List Int} : V5 [] b = [] := rfl
theorem L5 {i7 : List (Int × List Int)} {a : Int × List Int} {b : List Int × List Int} : V5 (i7 ++ [a]) b = w6 (V5 i7 b) (G6 a b) := by simp [V5]
theorem b2T : ∀ {i7 out : List (Int × List Int)} {b : List Int × List Int}, (i7.foldl (fun out a => w6 out (G6 a b)) out).length ≤ out.length + i7.length
 | [], out, b => by simp
 | a :: i7, out, b => by
  have h1 := b2T (i7 := i7) (out := w6 out (G6 a b)) (b := b)
  have h2 := a2M (h := I5 out (G6 a b)) (p := ltF (G6 a b)) (f := G6 a b) (l := out)
  simp only [List.foldl_cons, List.length_cons]
  unfold w6 at h1 ⊢; omega
theorem b0H {i7 : List (Int × List Int)} {b : List Int × List Int} : (V5 i7 b).length ≤ i7.length := by
 have := b2T (i7 := i7) (out := []) (b := b); simpa [V5] using this
theorem b4D {n : Nat} : ∀ {i7 out : List (Int × List Int)} {b : List Int × List Int}, (∀ a ∈ i7, a.2.length ≤ n) → (∀ f ∈ out, f.2.length ≤ n) → ∀ f ∈ i7.foldl (fun out a => w6 out (G6 a b)) out, f.2.length ≤ n
 | [], out, b, _, h => h
 | a :: i7, out, b, ha, h => by
  refine b4D (i7 := i7) (out := w6 out (G6 a b)) (fun x hx => ha x (by simp [hx])) fun f hf => ?_
  rcases a0z hf with hf | rfl
  ·exact h f hf
  ·simp only [G6, List.length_map]; exact ha a (by simp)
theorem c0e {n : Nat} {i7 : List (Int × List Int)} {b : List Int × List Int} (h : ∀ a ∈ i7, a.2.length ≤ n) : ∀ f ∈ V5 i7 b, f.2.length ≤ n := b4D h (by simp)
theorem b9d {n g : Nat} {i7 : List (Int × List Int)} {b : List Int × List Int} (h : ∀ a ∈ i7, a.2.length ≤ n) : ∀ f ∈ V5 (i7.take g) b, f.2.length ≤ n := c0e fun a ha => h a (List.mem_of_mem_take ha)
def fzB (u : List Int) (i7 : List (Int × List Int)) : Bool := a4q u (B6 i7).length
def fzV (u : List Int) (i7 : List (Int × List Int)) : List Int := cond (fzB u i7) (B6 i7) []
def fzX (u : List Int) (i7 : List (Int × List Int)) : List Int := cond (fzB u i7) (F9 u (B6 i7).length) []
def fzF (u : List Int) (i7 : List (Int × List Int)) : List (Int × List Int) := cond (fzB u i7) (V5 i7 (B6 i7, F9 u (B6 i7).length)) []
theorem a4u {i7 : List (Int × List Int)} : ∀ x ∈ b8l i7, 0 ≤ x ∧ x ≤ 9 := by
 intro x hx
 unfold b8l f0 at hx
 rw [a2Q, List.mem_filter] at hx
 have := hx.2
 simpa [inR] using this
theorem a8f {i7 : List (Int × List Int)} : ∀ x ∈ B6 i7, 10 ≤ x ∧ x ≤ 17 := by
 intro x hx
 unfold B6 f0 at hx
 rw [a2Q, List.mem_filter] at hx
 have := hx.2
 simpa [inR] using this
end Go.Proofs.YtlfhopooaejpfaaGreat
