import Derived.Test.YthapcdhdfaibkaaGreatDoorBc
import Derived.Lib.SlicesCompact
namespace Go.Proofs.YthapcdhdfaibkaaGreatDoor
open Go.RowKit
set_option linter.unusedVariables false
def FnP2 {α : Type} (P : Program) (w : World) (L : List Nat) (g : FuncId) (caps : List Value) (E : Enc α) (val : List Value → Value) (p : α → α → Bool) : Prop :=
 a4D P g ∧ ∀ w', Keep w L w' → ∀ cs x ds y, Ro w' [] E cs x → Ro w' [] E ds y → Calls P g (val cs :: val ds :: caps).toArray w' fun e w'' => e = .returned (.bool (p x y)) ∧ Ext w' w''
section
variable {P : Program} {α : Type} {E : Enc α} {w w0 : World} {L L0 Lp : List Nat} {pre rest : List HP} {g : FuncId} {caps : List Value} {val : List Value → Value} {p : α → α → Bool}
end
section
variable {P : Program} {Q : Exit → Act → World → Prop} {n : Nat} {w0 : World} {L0 : List Nat} {fr : Fr} {H : List HP} {d : Nat} {ty : TypeId} {pos : String} {af : Array Edge} {g : Option (Nat × Bool)}
end
section
variable {P : Program} {w : World} {L : List Nat} {g : FuncId} {caps : List Value} {RR : World → List Nat → Prop}
theorem b8n {p : (Int × List Int) → (Int × List Int) → Bool} (tr : ∀ {x0 : Int} {ax1 : Option Addr} {mx1 cx1 : Nat} {x1 : List Int} {y0 : Int} {ay1 : Option Addr} {my1 cy1 : Nat} {y1 : List Int}, Tr P g (.agg #[.int .i64 x0, .slice ax1 mx1 cx1] :: .agg #[.int .i64 y0, .slice ay1 my1 cy1] :: caps) (fun w L => (I64 x0 ∧ Ro w L eIs [.slice ax1 mx1 cx1] x1 ∧ I64 y0 ∧ Ro w L eIs [.slice ay1 my1 cy1] y1) ∧ RR w L) [] (κ := Unit) (fun _ => True) (fun _ => .bool (p (x0, x1) (y0, y1))) (fun _ => [])) (hR : ∀ w', Keep w L w' → RR w' []) : FnP2 P w L g caps C9 a1J p :=
 ⟨(tr (x0 := 0) (x1 := []) (ax1 := none) (mx1 := 0) (cx1 := 0) (y0 := 0) (y1 := []) (ay1 := none) (my1 := 0) (cy1 := 0)).1, fun w' k cs x ds y hx hy => by obtain ⟨a0, c0, rfl, h0, h1⟩ := K8 hx; obtain ⟨b0, e0, rfl, k0, k1⟩ := K8 hy; exact Tr.bool tr ⟨⟨h0, h1, k0, k1⟩, hR w' k⟩⟩
theorem b7m {p : (Int × List Int) → (Int × List Int) → Bool} (tr : ∀ {x0 : Int} {ax1 : Option Addr} {mx1 cx1 : Nat} {x1 : List Int} {y0 : Int} {ay1 : Option Addr} {my1 cy1 : Nat} {y1 : List Int}, Tr P g (.agg #[.int .i64 x0, .slice ax1 mx1 cx1] :: .agg #[.int .i64 y0, .slice ay1 my1 cy1] :: caps) (fun w L => (I64 x0 ∧ Ro w L eIs [.slice ax1 mx1 cx1] x1 ∧ I64 y0 ∧ Ro w L eIs [.slice ay1 my1 cy1] y1) ∧ RR w L) [] (κ := Unit) (fun _ => True) (fun _ => .bool (p (x0, x1) (y0, y1))) (fun _ => [])) (hR : ∀ w', Keep w L w' → RR w' []) : FnP2 P w L g caps F6 a1J p :=
 ⟨(tr (x0 := 0) (x1 := []) (ax1 := none) (mx1 := 0) (cx1 := 0) (y0 := 0) (y1 := []) (ay1 := none) (my1 := 0) (cy1 := 0)).1, fun w' k cs x ds y hx hy => by obtain ⟨a0, c0, rfl, h0, h1⟩ := a2n hx; obtain ⟨b0, e0, rfl, k0, k1⟩ := a2n hy; exact Tr.bool tr ⟨⟨h0, h1, k0, k1⟩, hR w' k⟩⟩
end
end Go.Proofs.YthapcdhdfaibkaaGreatDoor

namespace Go.Proofs.YthapcdhdfaibkaaGreatDoor
open Go.RowKit
set_option linter.unusedVariables false
def owd {α : Type} (e : TypeId) (E : Enc α) (a : Option Addr) (m c : Nat) (xs : List α) (j : Nat) : HP where
 holds w L := ∃ c1 c2 L1 L2, L = L1 ++ L2 ∧ m = xs.length ∧ m ≤ maxLen ∧ c1.length = j * E.k ∧ C0 E w c2 (xs.drop j) L2 true ∧ (row e E.k a m c (c1 ++ c2)).holds w L1
 stable := by
  rintro w w' L ⟨c1, c2, L1, L2, rfl, h1, h2, h3, h4, h5⟩ hb
  exact ⟨c1, c2, L1, L2, rfl, h1, h2, h3, h4.stable fun b h => hb b (by simp [h]), (row e E.k a m c _).stable h5 fun b h => hb b (by simp [h])⟩
 inh := by
  rintro w L ⟨c1, c2, L1, L2, rfl, h1, h2, h3, h4, h5⟩ b hb
  rcases List.mem_append.1 hb with hb | hb
  ·exact (row e E.k a m c _).inh h5 b hb
  ·exact h4.inh b hb
def owt {α : Type} (e : TypeId) (E : Enc α) (a : Option Addr) (m c : Nat) (xs : List α) (j : Nat) (ce : List Value) : HP where
 holds w L := ∃ c1 c2 L1 L2, L = L1 ++ L2 ∧ m = xs.length ∧ m ≤ maxLen ∧ j < xs.length ∧ ce.length = E.k ∧ c1.length = j * E.k ∧ C0 E w c2 (xs.drop (j + 1)) L2 true ∧ (row e E.k a m c (c1 ++ (ce ++ c2))).holds w L1
 stable := by
  rintro w w' L ⟨c1, c2, L1, L2, rfl, h1, h2, h0, h6, h3, h4, h5⟩ hb
  exact ⟨c1, c2, L1, L2, rfl, h1, h2, h0, h6, h3, h4.stable fun b h => hb b (by simp [h]), (row e E.k a m c _).stable h5 fun b h => hb b (by simp [h])⟩
 inh := by
  rintro w L ⟨c1, c2, L1, L2, rfl, h1, h2, h0, h6, h3, h4, h5⟩ b hb
  rcases List.mem_append.1 hb with hb | hb
  ·exact (row e E.k a m c _).inh h5 b hb
  ·exact h4.inh b hb
section
variable {n : Nat} {w0 : World} {L0 : List Nat} {fr : Fr} {H R : List HP} {G : Act → World → Prop} {α : Type} {E : Enc α} {e : TypeId} {a : Option Addr} {m c : Nat} {xs : List α} {j : Nat}
theorem a2P (h : Ent n w0 L0 fr (owd e E a m c xs 0 :: R) G) : Ent n w0 L0 fr (ow (Enc.sl e E) [.slice a m c] xs :: R) G := fun ac w h1 h2 => by
 obtain ⟨L, ⟨Lo, LR, rfl, ho, hR⟩, hn, hst⟩ := h2
 obtain ⟨ccs, L1, L2, rfl, g1, g2, g3, g4⟩ := a1L ho
 exact h ac w h1 ⟨(L1 ++ L2) ++ LR, ⟨L1 ++ L2, LR, rfl, ⟨[], ccs, L1, L2, rfl, g1, g2, by simp, g3, g4⟩, hR⟩, hn, hst⟩
theorem a2N (hj : j < xs.length) (h : ∀ ce, Ent n w0 L0 fr (owt e E a m c xs j ce :: ow E ce xs[j] :: R) G) : Ent n w0 L0 fr (owd e E a m c xs j :: R) G := fun ac w h1 h2 => by
 obtain ⟨L, ⟨Lo, LR, rfl, ⟨c1, c2, L1, L2, rfl, g1, g2, g3, g4, g5⟩, hR⟩, hn, hst⟩ := h2
 rw [List.drop_eq_getElem_cons hj] at g4
 obtain ⟨d1, d2, N1, N2, rfl, rfl, k1, k2⟩ := g4
 have hperm : (L1 ++ (N1 ++ N2) ++ LR).Perm ((L1 ++ N2) ++ (N1 ++ LR)) := by
  simp only [List.append_assoc]
  refine List.Perm.append_left L1 ?_
  rw [← List.append_assoc, ← List.append_assoc]
  exact (List.perm_append_comm).append_right LR
 exact h d1 ac w h1 ⟨(L1 ++ N2) ++ (N1 ++ LR), ⟨_, _, rfl, ⟨c1, d2, L1, N2, rfl, g1, g2, hj, E.len k1, g3, k2, g5⟩, N1, LR, rfl, k1, hR⟩, hperm.nodup_iff.1 hn, hst.sublist fun b hb => hperm.mem_iff.2 hb⟩
theorem a1F {ce : List Value} (h : Ent n w0 L0 fr (owd e E a m c xs (j + 1) :: R) G) : Ent n w0 L0 fr (owt e E a m c xs j ce :: R) G := fun ac w h1 h2 => by
 obtain ⟨L, ⟨Lo, LR, rfl, ⟨c1, c2, L1, L2, rfl, g1, g2, g0, g6, g3, g4, g5⟩, hR⟩, hn, hst⟩ := h2
 exact h ac w h1 ⟨(L1 ++ L2) ++ LR, ⟨L1 ++ L2, LR, rfl, ⟨c1 ++ ce, c2, L1, L2, rfl, g1, g2, by rw [List.length_append, g3, g6, Nat.succ_mul], g4, by rw [List.append_assoc]; exact g5⟩, hR⟩, hn, hst⟩
theorem b7i {cs : List Value} (h : ∀ (a : Option Addr) (m c : Nat), cs = [.slice a m c] → m = xs.length → Ent n w0 L0 fr (ow (Enc.sl e E) [.slice a m c] xs :: R) G) : Ent n w0 L0 fr (ow (Enc.sl e E) cs xs :: R) G := fun ac w h1 h2 => by
 obtain ⟨L, ⟨Lx, LR, rfl, hx, hR⟩, hn, hst⟩ := h2
 obtain ⟨a, m, c, ccs, L1, L2, rfl, hm, hx2⟩ := id hx
 exact h a m c rfl hm ac w h1 ⟨Lx ++ LR, ⟨Lx, LR, rfl, hx, hR⟩, hn, hst⟩
theorem Has.owt {ce : List Value} {b o : Nat} (ha : a = some ⟨b, o, none⟩) (hm : Go.Proofs.YthapcdhdfaibkaaGreatDoor.owt e E a m c xs j ce ∈ H) : Has w0 L0 H b (o + j * E.k) ce := fun w h => by
 obtain ⟨L', c1, c2, L1, L2, _, g1, g2, hj, g6, g3, g4, h0, g8⟩ := h.mem hm
 rcases g8 with ⟨_, h, _⟩ | ⟨g', cur, h2, h3, h4, h5, h6, h7, _⟩
 ·omega
 rw [ha] at h2; cases h2
 intro i v hi
 have hi' : (c1 ++ (ce ++ c2))[j * E.k + i]? = some v := by
  rw [← g3, List.getElem?_append_right (by omega), show c1.length + i - c1.length = i from by omega]
  rw [List.getElem?_append_left (by exact (List.getElem?_eq_some_iff.1 hi).1)]; exact hi
 rw [← h7, List.getElem?_take] at hi'
 split at hi'
 ·simpa [World.cell?, h3] using hi'
 ·cases hi'
theorem a2b (hm : owd e E a m c xs j ∈ H) (hlt : 0 < m) (h : ∀ b, a = some ⟨b, 0, none⟩ → Ent n w0 L0 fr H G) : Ent n w0 L0 fr H G := fun ac w h1 h2 => by
 obtain ⟨L, hL⟩ := h2.mem hm
 obtain ⟨c1, c2, L1, L2, _, g1, g2, _, _, g4⟩ := hL
 rcases g4.2 with ⟨_, h0, _⟩ | ⟨g, cur, h3, _⟩
 ·omega
 ·exact h g h3 ac w h1 h2
end
theorem Y5.has {w1 w0 : World} {L1 L0 : List Nat} {b off : Nat} {cs : List Value} (h : Y5 w1 L1 w0 L0) (k : ∀ H, Has w0 L0 H b off cs) : ∀ H, Has w1 L1 H b off cs := fun H w hw => k H w (h H w hw)
theorem frB {a b : Bool} (h : a = b) : some (Value.bool a) = some (Value.bool b) := by rw [h]
end Go.Proofs.YthapcdhdfaibkaaGreatDoor

namespace Go.Proofs.YthapcdhdfaibkaaGreatDoor
set_option linter.unusedVariables false
def U5 (a b : Int) : Int := if a < b then -1 else if b < a then 1 else 0
def L7 : List Int → List Int → Int
 | [], [] => 0
 | [], _ :: _ => -1
 | _ :: _, [] => 1
 | a :: l, b :: m => if U5 a b ≠ 0 then U5 a b else L7 l m
def orI : List Int → Int
 | [] => 0
 | x :: l => if x ≠ 0 then x else orI l
def J2 (a b : Int × List Int) : Int := if U5 a.1 b.1 ≠ 0 then U5 a.1 b.1 else L7 a.2 b.2
theorem b1x {a b : Int} : I64 (U5 a b) := by unfold U5 I64; split; omega; split <;> omega
theorem b1G : ∀ {l m : List Int}, I64 (L7 l m)
 | [], [] => by unfold L7 I64; omega
 | [], _ :: _ => by unfold L7 I64; omega
 | _ :: _, [] => by unfold L7 I64; omega
 | a :: l, b :: m => by unfold L7; split; exact b1x; exact b1G
theorem b0h {a b : Int} : U5 a b = 0 ↔ a = b := by unfold U5; grind
theorem a9O : ∀ {l m : List Int}, L7 l m = 0 ↔ l = m
 | [], [] => by simp [L7]
 | [], _ :: _ => by simp [L7]
 | _ :: _, [] => by simp [L7]
 | a :: l, b :: m => by
  have := b0h (a := a) (b := b)
  have h2 := a9O (l := l) (m := m)
  unfold L7; grind
theorem a0y {a b : Int × List Int} : J2 a b = 0 ↔ a = b := by
 have h1 := b0h (a := a.1) (b := b.1)
 have h2 := a9O (l := a.2) (m := b.2)
 unfold J2
 rcases a with ⟨a1, a2⟩; rcases b with ⟨b1, b2⟩
 grind
def eqP {α : Type} (p : α → α → Bool) : List α → List α → Bool
 | [], [] => true
 | a :: l, b :: m => p a b && eqP p l m
 | _, _ => false
theorem a5r {α : Type} {p : α → α → Bool} : ∀ {l m : List α}, eqP p l m = true → l.length = m.length
 | [], [], _ => rfl
 | [], _ :: _, h => by simp [eqP] at h
 | _ :: _, [], h => by simp [eqP] at h
 | a :: l, b :: m, h => by
  simp only [eqP, Bool.and_eq_true] at h
  simp [a5r h.2]
theorem b2p {α : Type} [DecidableEq α] : ∀ {l m : List α}, eqP (fun z y => decide (z = y)) l m = decide (l = m)
 | [], [] => by simp [eqP]
 | [], _ :: _ => by simp [eqP]
 | _ :: _, [] => by simp [eqP]
 | a :: l, b :: m => by simp [eqP, b2p (l := l) (m := m)]
theorem a6U {l m : List (Int × List Int)} : eqP (fun z y => decide (J2 z y = 0)) l m = decide (l = m) := by
 rw [← b2p]
 congr 1
 funext z y
 simp [a0y]
end Go.Proofs.YthapcdhdfaibkaaGreatDoor

namespace Go.Proofs.YthapcdhdfaibkaaGreatDoor
set_option linter.unusedVariables false
def F3 (l : List (Int × List Int)) (f : Int × List Int) : Bool := l.any fun z => decide (J2 z f = 0)
def b3t (a : Int × List Int) (b : List Int × List Int) : Int × List Int := (a.1, a.2.map (a4T b))
def c0p (q : List Int × List (Int × List Int)) (a8 : List (Int × List Int)) (head : List Int) (b : List Int × List Int) : Bool :=
 decide (b.1.length = b.2.length) && (decide (q.1.map (a4T b) = head) && !q.2.any fun a => !F3 a8 (b3t a b))
theorem Ro.i64A {w : World} {L : List Nat} {e : TypeId} {a : Option Addr} {m c : Nat} {xs : List (Int × List Int)} (h : Ro w L (Enc.sl e (Enc.pair Enc.int (Enc.sl tI Enc.int))) [.slice a m c] xs) : ∀ x ∈ xs, I64 x.1 ∧ ∀ y ∈ x.2, I64 y := by
 intro x hx
 obtain ⟨i, hi, rfl⟩ := List.getElem_of_mem hx
 obtain ⟨_, _, ci, _, h1, _⟩ := h.elem i hi
 obtain ⟨c1, c2, rfl, h2, h3⟩ := h1.pair
 obtain ⟨a', c', rfl⟩ := h3.sl
 exact ⟨h2.int.2, h3.i64⟩
end Go.Proofs.YthapcdhdfaibkaaGreatDoor

namespace Go.Proofs.YthapcdhdfaibkaaGreatDoor
set_option linter.unusedVariables false
def E6 {α : Type} (r : α → α → Bool) : List α → Bool
 | a :: b :: l => r a b && E6 r (b :: l)
 | _ => true
theorem b4g {α : Type} {l : List α} {g : Nat} (h : g < l.length) (h0 : 0 < g) : l.drop (g - 1) = l[g - 1] :: l[g] :: l.drop (g + 1) := by
 rw [List.drop_eq_getElem_cons (by omega), show g - 1 + 1 = g by omega, List.drop_eq_getElem_cons h]
def ltB (a b : Int) : Bool := decide (a < b)
theorem E5 {α : Type} {r : α → α → Bool} {l : List α} {g : Nat} (h : g < l.length) (h0 : 0 < g) : E6 r (l.drop (g - 1)) = (r l[g - 1] l[g] && E6 r (l.drop g)) := by
 rw [b4g h h0, E6, ← List.drop_eq_getElem_cons h]
theorem E3 {α : Type} {r : α → α → Bool} {l : List α} {g : Nat} (h : g = 0) : E6 r (l.drop (g - 1)) = E6 r (l.drop g) := by subst h; rfl
theorem F2 {α : Type} {r : α → α → Bool} {l : List α} {g : Nat} (h : l.length ≤ g) : E6 r (l.drop (g - 1)) = true := by
 have : (l.drop (g - 1)).length ≤ 1 := by simp; omega
 match l.drop (g - 1), this with
 | [], _ => rfl
 | [x], _ => rfl
 | x :: y :: z, h => simp at h
def a0Q (m : Int × List Int × Int × Int × Int) (ar : Int) : Bool :=
 E6 ltB m.2.1 && (S0 m.2.1 ar && (inR m.2.2.1 0 9 && (inR m.2.2.2.1 0 99 && inR m.2.2.2.2 1 99)))
def T0 (s : List Int) (m : Int × List Int × Int × Int × Int) : Bool := N6 s m.1 && a0Q m (at0 s m.1)
def B3 (s : List Int) (l : List (Int × List Int × Int × Int × Int)) : Bool := Q6 s && (decide ((l.length : Int) ≤ 5) && !l.any fun m => !T0 s m)
def O6 (v : List Int) : Bool := E6 ltB v && G4 v
def Q5 (l : List (Int × List Int)) (a : Int × List Int) : Bool := l.any fun z => decide (z = a)
def o2 (j5 : List Int) : Nat → List (List Int)
 | 0 => [[]]
 | n + 1 => (o2 j5 n).flatMap fun l => j5.map fun v => l ++ [v]
theorem M4 {j5 : List Int} : ∀ {t : Nat}, ∀ l ∈ o2 j5 t, l.length = t
 | 0, l, h => by simp [o2] at h; simp [h]
 | t + 1, l, h => by
  simp only [o2, List.mem_flatMap, List.mem_map] at h
  obtain ⟨x, hx, v, hv, rfl⟩ := h
  simp [M4 x hx]
theorem R5 {j5 : List Int} : ∀ {t : Nat}, (o2 j5 t).length = j5.length ^ t
 | 0 => rfl
 | t + 1 => by
  simp only [o2, List.length_flatMap, List.length_map]
  rw [Nat.pow_succ, ← R5 (t := t)]
  generalize o2 j5 t = l
  induction l with
  | nil => simp
  | cons x l ih => simp [ih, Nat.succ_mul, Nat.add_comm]
theorem a4h {j5 : List Int} {t : Nat} (h : j5.length ≤ 10) (ht : t ≤ 3) : (o2 j5 t).length ≤ 1000 := by
 rw [R5]
 exact Nat.le_trans (Nat.pow_le_pow_left h t) (Nat.le_trans (Nat.pow_le_pow_right (by decide) ht) (by decide))
theorem a6K {j5 : List Int} {l : List (List Int)} {k : Nat} (h : j5.length ≤ 10) : ((l.take k).flatMap fun l => j5.map fun v => l ++ [v]).length ≤ k * 10 := by
 simp only [List.length_flatMap, List.length_map]
 induction l generalizing k with
 | nil => simp
 | cons x l ih =>
  cases k with
  | zero => simp
  | succ k => have := ih (k := k); simp only [List.take_succ_cons, List.map_cons, List.sum_cons]; omega
def N0 (j5 : List Int) (log : List (Int × List Int)) (i : Int) (k : Nat) : List (Int × List Int) :=
 ((o2 j5 k).filter fun v => !Q5 log (i, v)).map fun v => (i, v)
def c8 (j5 : List Int) (log : List (Int × List Int)) : List (Int × List Int × Int × Int × Int) → Int → List (Int × List Int)
 | [], _ => []
 | m :: l, i => (if m.2.2.1 ≠ 0 then [] else N0 j5 log i m.2.1.length) ++ c8 j5 log l (i + 1)
theorem a0a {j5 : List Int} {log : List (Int × List Int)} : ∀ {l l' : List (Int × List Int × Int × Int × Int)} {i : Int}, c8 j5 log (l ++ l') i = c8 j5 log l i ++ c8 j5 log l' (i + l.length)
 | [], l', i => by simp [c8]
 | m :: l, l', i => by
  rw [List.cons_append, c8, c8, a0a (l := l), List.append_assoc, List.length_cons, show i + 1 + (l.length : Int) = i + ((l.length + 1 : Nat) : Int) by omega]
theorem a2J {j5 : List Int} {log : List (Int × List Int)} {i : Int} (h : j5.length ≤ 10) : ∀ {l : List (Int × List Int × Int × Int × Int)}, (∀ m ∈ l, m.2.1.length ≤ 3) → (c8 j5 log l i).length ≤ l.length * 1000
 | [], _ => by simp [c8]
 | m :: l, hm => by
  have h1 := a2J (j5 := j5) (log := log) (i := i + 1) h (l := l) (fun x hx => hm x (by simp [hx]))
  have h2 := a4h (j5 := j5) h (hm m (by simp))
  have h3 := List.length_filter_le (fun v => !Q5 log (i, v)) (o2 j5 m.2.1.length)
  simp only [c8, List.length_append, List.length_cons]
  split
  ·rw [List.length_nil]; omega
  ·simp only [N0, List.length_map]; omega
def a0b (s : List Int) (l : List (Int × List Int × Int × Int × Int)) (j5 : List Int) (log : List (Int × List Int)) : List (Int × List Int) :=
 if B3 s l && O6 j5 then c8 j5 log l 0 else []
theorem a6z : ∀ {l : List Int} {a b : Int}, E6 ltB l = true → (∀ x ∈ l, a ≤ x ∧ x ≤ b) → a ≤ b + 1 → (l.length : Int) ≤ b - a + 1
 | [], _, _, _, _, _ => by simp; omega
 | [x], a, b, _, h, _ => by have := h x (by simp); simp; omega
 | x :: y :: l, a, b, hc, h, hab => by
  simp only [E6, ltB, Bool.and_eq_true, decide_eq_true_eq] at hc
  have hx := h x (by simp)
  have hge : ∀ z ∈ y :: l, x + 1 ≤ z := by
   have : ∀ {l : List Int} {y : Int}, E6 ltB (y :: l) = true → ∀ z ∈ y :: l, y ≤ z := by
    intro l
    induction l with
    | nil => intro y _ z hz; simp at hz; omega
    | cons u l ih =>
     intro y hc z hz
     simp only [E6, ltB, Bool.and_eq_true, decide_eq_true_eq] at hc
     rcases List.mem_cons.1 hz with rfl | hz
     ·omega
     ·have := ih hc.2 z hz; omega
   intro z hz
   have := this hc.2 z hz; omega
  have := a6z (l := y :: l) (a := x + 1) (b := b) hc.2 (fun z hz => ⟨hge z hz, (h z (by simp only [List.mem_cons] at hz ⊢; exact .inr hz)).2⟩) (by omega)
  simp only [List.length_cons] at this ⊢; omega
theorem V2 {v : List Int} (h : O6 v = true) : v.length ≤ 10 := by
 simp only [O6, G4, Bool.and_eq_true, Bool.not_eq_true', List.any_eq_false] at h
 have := a6z (a := 0) (b := 9) h.1 (fun x hx => by have := h.2 x hx; simpa [inR] using this) (by omega)
 omega
theorem b2Z {s : List Int} {m : Int × List Int × Int × Int × Int} (h : T0 s m = true) : m.2.1.length ≤ 3 := by
 simp only [T0, a0Q, S0, Bool.and_eq_true, Bool.not_eq_true', List.any_eq_false] at h
 have h1 := a0n h.1
 have := a6z (a := 0) (b := at0 s m.1 - 1) h.2.1 (fun x hx => by have := h.2.2.1 x hx; simpa [inR] using this) (by simp only [at0]; omega)
 simp only [at0] at this; omega
theorem a2s {s : List Int} {l : List (Int × List Int × Int × Int × Int)} (h : B3 s l = true) : (∀ m ∈ l, m.2.1.length ≤ 3) ∧ l.length ≤ 5 := by
 simp only [B3, Bool.and_eq_true, Bool.not_eq_true', List.any_eq_false, decide_eq_true_eq] at h
 refine ⟨fun m hm => b2Z (s := s) ?_, by omega⟩
 have := h.2.2 m hm
 simpa using this
theorem a8f {α : Type} {c : α → Nat} {n : Nat} : ∀ {l : List α}, (∀ x ∈ l, c x ≤ n) → D4 c l ≤ l.length * n
 | [], _ => by simp [D4]
 | x :: l, h => by
  have h1 := a8f (c := c) (n := n) (l := l) fun y hy => h y (by simp [hy])
  have h2 := h x (by simp)
  simp only [D4, List.map_cons, List.sum_cons, List.length_cons, Nat.succ_mul] at h1 ⊢; omega
theorem a9A {j5 : List Int} {log : List (Int × List Int)} : ∀ {l : List (Int × List Int × Int × Int × Int)} {i : Int}, (∀ m ∈ l, m.2.1.length ≤ 3) → ∀ a ∈ c8 j5 log l i, a.2.length ≤ 3
 | [], _, _, a, h => by simp [c8] at h
 | m :: l, i, hm, a, h => by
  simp only [c8, List.mem_append] at h
  rcases h with h | h
  ·split at h
   ·cases h
   ·simp only [N0, List.mem_map, List.mem_filter] at h
    obtain ⟨v, ⟨hv, _⟩, rfl⟩ := h
    have e1 := M4 v hv
    have e2 := hm m (by simp)
    show v.length ≤ 3; omega
  ·exact a9A (l := l) (fun x hx => hm x (by simp [hx])) a h
end Go.Proofs.YthapcdhdfaibkaaGreatDoor

namespace Go.Proofs.YthapcdhdfaibkaaGreatDoor
set_option linter.unusedVariables false
def O5 {α : Type} (p : α → Bool) (f : α) : List α → List α
 | [] => []
 | x :: l => if p x then f :: x :: l else x :: O5 p f l
def a0c {α : Type} (has : Bool) (p : α → Bool) (f : α) (l : List α) : List α := if has then l else if l.any p then O5 p f l else l ++ [f]
section
variable {α : Type} {p q : α → Bool} {f : α}
theorem a0i : ∀ {l : List α}, l.any p = false → O5 p f l = l
 | [], _ => rfl
 | x :: l, h => by
  simp only [List.any_cons, Bool.or_eq_false_iff] at h
  simp [O5, h.1, a0i h.2]
theorem W6 : ∀ {l : List α} {y : α}, O5 p f (l ++ [y]) = if l.any p then O5 p f l ++ [y] else if p y then l ++ [f, y] else l ++ [y]
 | [], y => by simp [O5]
 | x :: l, y => by
  have h := W6 (l := l) (y := y)
  simp only [List.cons_append, O5, List.any_cons, h]
  cases p x <;> cases l.any p <;> cases p y <;> simp
theorem a5U : ∀ {l : List α}, (O5 p f l).length ≤ l.length + 1
 | [] => by simp [O5]
 | x :: l => by
  have := a5U (l := l)
  simp only [O5]; split <;> simp <;> omega
theorem a3i {h : Bool} {l : List α} : (a0c h p f l).length ≤ l.length + 1 := by
 have := a5U (p := p) (f := f) (l := l)
 unfold a0c; split; omega; split; omega; simp
theorem a1R {h : Bool} {l : List α} {y : α} (hy : y ∈ a0c h p f l) : y ∈ l ∨ y = f := by
 have ins : ∀ {l : List α}, y ∈ O5 p f l → y ∈ l ∨ y = f := by
  intro l
  induction l with
  | nil => simp [O5]
  | cons x l ih =>
   intro h
   simp only [O5] at h
   split at h
   ·simp only [List.mem_cons] at h ⊢; rcases h with h | h | h <;> simp [h]
   ·simp only [List.mem_cons] at h ⊢
    rcases h with h | h
    ·simp [h]
    ·rcases ih h with h | h <;> simp [h]
 unfold a0c at hy
 split at hy
 ·exact .inl hy
 ·split at hy
  ·exact ins hy
  ·simpa using hy
theorem b5c {l : List α} (hpq : ∀ y ∈ l, p y = q y) : a0c false p f l = l.take (if M6 q l < 0 then l.length else (M6 q l).toNat) ++ f :: l.drop (if M6 q l < 0 then l.length else (M6 q l).toNat) := by
 have ha : l.any p = l.any q := by
  induction l with
  | nil => rfl
  | cons x l ih => simp [List.any_cons, hpq x (by simp), ih fun y hy => hpq y (by simp [hy])]
 unfold a0c M6
 rw [ha]
 by_cases h : l.any q = true
 ·simp only [h, if_true, Bool.false_eq_true, if_false]
  rw [if_neg (by omega), Int.toNat_natCast]
  clear ha
  induction l with
  | nil => simp at h
  | cons x l ih =>
   simp only [O5, List.findIdx_cons, hpq x (by simp)]
   cases hq : q x with
   | true => simp
   | false =>
    simp only [List.any_cons, hq, Bool.false_or] at h
    simp [ih (fun y hy => hpq y (by simp [hy])) h]
 ·simp [h]
end
def L9 (l : List Int) (x : Int) : Bool := l.any fun y => decide (y = x)
def E4 (l : List Int) (x : Int) : List Int := a0c (L9 l x) (fun y => decide (x < y)) x l
def H6 (l : List Int) : List Int := l.foldl E4 []
theorem a7m : ∀ {a b : List Int}, a.Pairwise (· < ·) → b.Pairwise (· < ·) → (∀ x, x ∈ a ↔ x ∈ b) → a = b
 | [], [], _, _, _ => rfl
 | [], y :: b, _, _, h => by have := (h y).2 (by simp); simp at this
 | x :: a, [], _, _, h => by have := (h x).1 (by simp); simp at this
 | x :: a, y :: b, ha, hb, h => by
  rw [List.pairwise_cons] at ha hb
  have e : x = y := by
   have h1 := (h x).1 (by simp)
   have h2 := (h y).2 (by simp)
   simp only [List.mem_cons] at h1 h2
   rcases h1 with h1 | h1
   ·exact h1
   ·rcases h2 with h2 | h2
    ·exact h2.symm
    ·have := hb.1 x h1; have := ha.1 y h2; omega
  subst e
  rw [a7m ha.2 hb.2 fun z => ?_]
  have := h z
  simp only [List.mem_cons] at this
  constructor
  ·intro hz
   rcases this.1 (.inr hz) with e | e
   ·have := ha.1 z hz; omega
   ·exact e
  ·intro hz
   rcases this.2 (.inr hz) with e | e
   ·have := hb.1 z hz; omega
   ·exact e
theorem b3T {l : List Int} {x : Int} (h : l.Pairwise (· < ·)) : (E4 l x).Pairwise (· < ·) ∧ ∀ y, y ∈ E4 l x ↔ y ∈ l ∨ y = x := by
 have ins : ∀ {l : List Int}, l.Pairwise (· < ·) → x ∉ l → (if (l.any fun y => decide (x < y)) then O5 (fun y => decide (x < y)) x l else l ++ [x]).Pairwise (· < ·) ∧ ∀ y, y ∈ (if (l.any fun y => decide (x < y)) then O5 (fun y => decide (x < y)) x l else l ++ [x]) ↔ y ∈ l ∨ y = x := by
  intro l
  induction l with
  | nil => intro _ _; simp
  | cons z l ih =>
   intro h hx
   rw [List.pairwise_cons] at h
   simp only [List.mem_cons, not_or] at hx
   have ih' := ih h.2 hx.2
   by_cases hz : x < z
   ·simp only [List.any_cons, hz, decide_true, Bool.true_or, if_true, O5]
    refine ⟨?_, fun y => by simp only [List.mem_cons]; constructor <;> (intro h; rcases h with h | h | h) <;> simp [h]⟩
    rw [List.pairwise_cons, List.pairwise_cons]
    refine ⟨fun y hy => ?_, h⟩
    simp only [List.mem_cons] at hy
    rcases hy with rfl | hy
    ·exact hz
    ·have := h.1 y hy; omega
   ·simp only [List.any_cons, hz, decide_false, Bool.false_or, O5, Bool.false_eq_true, if_false]
    have e : (if (l.any fun y => decide (x < y)) then z :: O5 (fun y => decide (x < y)) x l else z :: l ++ [x]) = z :: (if (l.any fun y => decide (x < y)) then O5 (fun y => decide (x < y)) x l else l ++ [x]) := by split <;> simp
    rw [e]
    refine ⟨?_, fun y => by rw [List.mem_cons, ih'.2 y, List.mem_cons, or_assoc]⟩
    rw [List.pairwise_cons]
    refine ⟨fun y hy => ?_, ih'.1⟩
    rcases (ih'.2 y).1 hy with hy | rfl
    ·exact h.1 y hy
    ·omega
 unfold E4 a0c L9
 by_cases hx : x ∈ l
 ·have : (l.any fun y => decide (y = x)) = true := List.any_eq_true.2 ⟨x, hx, by simp⟩
  rw [if_pos this]
  exact ⟨h, fun y => ⟨.inl, fun e => by rcases e with e | rfl; exact e; exact hx⟩⟩
 ·have : ¬ (l.any fun y => decide (y = x)) = true := fun e => by
   obtain ⟨y, hy, e⟩ := List.any_eq_true.1 e
   simp at e; subst e; exact hx hy
  rw [if_neg this]
  exact ins h hx
theorem a2K : ∀ {l s : List Int}, s.Pairwise (· < ·) → (l.foldl E4 s).Pairwise (· < ·) ∧ ∀ y, y ∈ l.foldl E4 s ↔ y ∈ s ∨ y ∈ l
 | [], s, h => ⟨h, by simp⟩
 | x :: l, s, h => by
  have h1 := b3T (x := x) h
  have h2 := a2K (l := l) h1.1
  refine ⟨h2.1, fun y => ?_⟩
  rw [List.foldl_cons, h2.2 y, h1.2 y, List.mem_cons, or_assoc]
theorem a2w {l : List Int} : (H6 l).Pairwise (· < ·) := (a2K .nil).1
theorem a1s {l : List Int} {y : Int} : y ∈ H6 l ↔ y ∈ l := by rw [H6, (a2K .nil).2 y]; simp
theorem a5F {l : List Int} : (H6 l).length ≤ l.length := by
 have : ∀ {l s : List Int}, (l.foldl E4 s).length ≤ s.length + l.length := by
  intro l
  induction l with
  | nil => intro s; simp
  | cons x l ih => intro s; have := ih (s := E4 s x); have h2 := a3i (h := L9 s x) (p := fun y => decide (x < y)) (f := x) (l := s); simp only [List.foldl_cons, List.length_cons]; unfold E4 at *; omega
 have h := this (l := l) (s := [])
 simpa [H6] using h
theorem a9f {d : List Int} (hd : d.Pairwise (· ≤ ·)) : (Lib.compact d).Pairwise (· < ·) ∧ ∀ y, y ∈ Lib.compact d ↔ y ∈ d := by
 have hle : ∀ i j, (hij : i ≤ j) → (hj : j < d.length) → d[i]'(by omega) ≤ d[j]'hj := by
  intro i j hij hj
  rcases Nat.lt_or_eq_of_le hij with h | h
  ·exact List.pairwise_iff_getElem.1 hd i j (by omega) hj h
  ·subst h; exact Int.le_refl _
 have hget : ∀ i, (h : i < d.length) → d.toArray[i]! = d[i] := by intro i h; simp [h]
 have key : ∀ m, m ≤ d.length → (Lib.compactUpTo d.toArray m).Pairwise (· < ·) ∧ ∀ y, y ∈ Lib.compactUpTo d.toArray m ↔ y ∈ d.take m := by
  intro m
  induction m with
  | zero => intro _; simp [Lib.compactUpTo]
  | succ m ih =>
   intro hm
   obtain ⟨h1, h2⟩ := ih (by omega)
   have hmem : ∀ y, y ∈ d.take (m + 1) ↔ y ∈ d.take m ∨ y = d[m] := by
    intro y; rw [List.take_succ_eq_append_getElem (show m < d.length by omega), List.mem_append, List.mem_singleton]
   rw [Lib.compactUpTo_succ, hget m (by omega)]
   by_cases hk : Lib.keeps d.toArray m = true
   ·rw [if_pos hk]
    refine ⟨List.pairwise_append.2 ⟨h1, by simp, fun a ha b hb => ?_⟩, fun y => by rw [List.mem_append, h2 y, hmem y]; simp⟩
    simp only [List.mem_singleton] at hb
    subst hb
    rw [h2 a, List.mem_take_iff_getElem] at ha
    obtain ⟨i, hi, rfl⟩ := ha
    have hi' : i < m := by omega
    have e1 := hle i (m - 1) (by omega) (by omega)
    have e2 := hle (m - 1) m (by omega) (by omega)
    have e3 : d[m - 1]'(by omega) ≠ d[m] := by
     intro e
     have := Lib.keeps_neg (d := d.toArray) (m := m) (by omega) (by rw [hget m (by omega), hget (m - 1) (by omega), e])
     rw [this] at hk; cases hk
    omega
   ·rw [if_neg hk, List.append_nil]
    refine ⟨h1, fun y => ?_⟩
    rw [h2 y, hmem y]
    refine ⟨.inl, fun h => h.elim id ?_⟩
    rintro rfl
    have h0 : 0 < m := by
     rcases Nat.eq_zero_or_pos m with e | e
     ·subst e; exact absurd (Lib.keeps_lt_one d.toArray 0 (by omega)) hk
     ·exact e
    have e3 : d[m - 1]'(by omega) = d[m] := by
     refine Classical.byContradiction fun e => hk (Lib.keeps_pos ?_)
     rw [hget m (by omega), hget (m - 1) (by omega)]
     exact fun e' => e e'.symm
    rw [List.mem_take_iff_getElem]
    exact ⟨m - 1, by omega, e3⟩
 have := key d.length (Nat.le_refl _)
 simpa [Lib.compact] using this
theorem b1B {l : List Int} : Lib.compact (l.mergeSort fun x y => decide (x ≤ y)) = H6 l := by
 have hs : (l.mergeSort fun x y => decide (x ≤ y)).Pairwise (· ≤ ·) := by
  have := List.pairwise_mergeSort (le := fun x y : Int => decide (x ≤ y)) (by intro a b c; simp only [decide_eq_true_eq]; omega) (by intro a b; simp only [Bool.or_eq_true, decide_eq_true_eq]; omega) l
  exact this.imp fun h => by simpa using h
 have h := a9f hs
 refine a7m h.1 a2w fun x => ?_
 rw [h.2 x, a1s]
 exact (List.mergeSort_perm l _).mem_iff
end Go.Proofs.YthapcdhdfaibkaaGreatDoor

namespace Go.Proofs.YthapcdhdfaibkaaGreatDoor
set_option linter.unusedVariables false
theorem a2D {l m : List Int} : H6 (l ++ m) = m.foldl E4 (H6 l) := by unfold H6; rw [List.foldl_append]
theorem Y4 {l : List Int} {x : Int} : H6 (l ++ [x]) = E4 (H6 l) x := by rw [a2D]; rfl
theorem a2B {l : List Int} {x : Int} : L9 l x = true ↔ x ∈ l := by
 unfold L9
 rw [List.any_eq_true]
 constructor
 ·rintro ⟨y, hy, e⟩; simp at e; subst e; exact hy
 ·intro h; exact ⟨x, h, by simp⟩
def G5 (is : Int → Bool) (y9 : List (Int × List Int)) : List Int := H6 ((y9.flatMap fun a => a.2).filter is)
theorem b1h : ∀ {l : List (Int × List Int)}, (l.flatMap fun a => a.2).length = D4 (fun x => x.2.length) l
 | [] => rfl
 | a :: l => by simp only [List.flatMap_cons, List.length_append, b1h (l := l), D4, List.map_cons, List.sum_cons]
theorem b2U {is : Int → Bool} {y9 : List (Int × List Int)} {g h : Nat} (hz : a0m (fun x => x.2.length) y9 ≤ 1048576) (hg : g < y9.length) : (((y9.take g).flatMap fun a => a.2).filter is ++ (y9[g].2.take h).filter is).length ≤ 1048576 := by
 have h1 := List.length_filter_le is ((y9.take g).flatMap fun a => a.2)
 have h2 := a9g (t := fun x : Int × List Int => x.2.length) (l := y9) (g := g + 1)
 have h3 := List.length_filter_le is (y9[g].2.take h)
 have h4 := List.length_take_le' h y9[g].2
 rw [a6F hg] at h2
 rw [b1h] at h1
 rw [List.length_append]
 unfold a0m at hz; omega
def b4w (t : Int) : Bool := inR t 0 9 || inR t 10 17
def b4p (s : List Int) (a : Int × List Int) : Bool := N6 s a.1 && (decide ((a.2.length : Int) = at0 s a.1) && !a.2.any fun t => !b4w t)
def b4v (q : List Int × List (Int × List Int)) : Bool := decide ((q.1.length : Int) ≤ 3) && !q.1.any fun t => !L9 (G5 (fun t => inR t 10 17) q.2) t
def S7 (s : List Int) (q : List Int × List (Int × List Int)) : Bool := Q6 s && (inR (q.2.length : Int) 1 4 && ((!q.2.any fun a => !b4p s a) && b4v q))
def b9u (s : List Int) (u : List (List Int × List (Int × List Int))) (q : List Int × List (Int × List Int)) : Bool := !S7 s q || decide ((q.1.length : Int) ≠ ((u.getD 0 ([], [])).1.length : Int))
def a9l (s : List Int) (u : List (List Int × List (Int × List Int))) : Bool := inR (u.length : Int) 1 3 && !u.any (b9u s u)
def b6D (s : List Int) (g : (List Int × List (Int × List Int)) × List (Int × List Int)) : Bool :=
 S7 s g.1 && (decide ((g.2.length : Int) ≤ 4) && ((!g.2.any fun a => !b4p s a) && !(G5 (fun t => inR t 10 17) g.2).any fun t => !L9 (G5 (fun t => inR t 10 17) g.1.2) t))
end Go.Proofs.YthapcdhdfaibkaaGreatDoor

namespace Go.Proofs.YthapcdhdfaibkaaGreatDoor
set_option linter.unusedVariables false
def ltF (a b : Int × List Int) : Bool := decide (J2 a b < 0)
def w4 (l : List (Int × List Int)) (f : Int × List Int) : List (Int × List Int) := a0c (F3 l f) (ltF f) f l
theorem b0P {a b : Int} : U5 a b = - U5 b a := by unfold U5; grind
theorem b1k : ∀ {l m : List Int}, L7 l m = - L7 m l
 | [], [] => by simp [L7]
 | [], _ :: _ => by simp [L7]
 | _ :: _, [] => by simp [L7]
 | a :: l, b :: m => by
  have h1 := b0P (a := a) (b := b)
  have h2 := b1k (l := l) (m := m)
  unfold L7; grind
theorem b1v {a b : Int × List Int} : J2 a b = - J2 b a := by
 have h1 := b0P (a := a.1) (b := b.1)
 have h2 := b1k (l := a.2) (m := b.2)
 unfold J2; grind
theorem a4q {l : List (Int × List Int)} {f : Int × List Int} (h : F3 l f = true) : w4 l f = l := by simp [w4, a0c, h]
theorem a7P {l : List (Int × List Int)} {f : Int × List Int} (h : F3 l f = false) : w4 l f = l.take (if M6 (fun z => decide (0 < J2 z f)) l < 0 then l.length else (M6 (fun z => decide (0 < J2 z f)) l).toNat) ++ f :: l.drop (if M6 (fun z => decide (0 < J2 z f)) l < 0 then l.length else (M6 (fun z => decide (0 < J2 z f)) l).toNat) := by
 rw [w4, h]
 refine b5c fun y _ => ?_
 have := b1v (a := f) (b := y)
 rw [ltF, decide_eq_decide]; omega
theorem a4O {α : Type} {p : α → Bool} {s : List α} : M6 p s ≤ s.length ∧ -1 ≤ M6 p s := by
 unfold M6
 split
 ·have := List.findIdx_le_length (p := p) (xs := s); omega
 ·omega
def addS {α : Type} (h : Bool) (p : α → Bool) (f : α) (l : List α) : List α := if h then l else O5 p f l
theorem b0W {α : Type} {h : Bool} {p : α → Bool} {f : α} {l : List α} : (addS h p f l).length ≤ l.length + 1 := by
 have := a5U (p := p) (f := f) (l := l)
 unfold addS; split <;> omega
theorem P8 {α : Type} {h : Bool} {p : α → Bool} {f : α} : addS h p f [] = [] := by unfold addS; cases h <;> rfl
theorem N8 {α : Type} {h : Bool} {p : α → Bool} {f : α} {l : List α} {y : α} : addS h p f (l ++ [y]) = if (h || l.any p) = true then addS h p f l ++ [y] else if p y = true then addS h p f l ++ [f, y] else addS h p f l ++ [y] := by
 unfold addS
 cases h
 ·simp only [Bool.false_eq_true, if_false, Bool.false_or, W6]
  cases ha : l.any p
  ·simp [a0i ha]
  ·simp
 ·simp
theorem N7 {α : Type} {h : Bool} {p : α → Bool} {f : α} {l : List α} : a0c h p f l = if (h || l.any p) = true then addS h p f l else addS h p f l ++ [f] := by
 unfold addS a0c
 cases h
 ·cases ha : l.any p
  ·simp [a0i ha]
  ·simp
 ·simp
theorem O1 {α : Type} {p : α → Bool} {l : List α} {g : Nat} (h : g < l.length) : (l.take (g + 1)).any p = ((l.take g).any p || p l[g]) := by
 rw [List.take_succ_eq_append_getElem h, List.any_append]; simp
theorem W5 {f : Int × List Int} {a : Int} {b : List Int} : ltF f (a, b) = decide (J2 f (a, b) < 0) := rfl
def a1I (s : List Int) (l : List (Int × List Int)) (g : Nat) : Bool := (l.drop g).all (B9 s) && E6 ltF (l.drop (g - 1))
def D7 (s : List Int) (l : List (Int × List Int)) : Bool := a1I s l 0 && (Q6 s && decide ((l.length : Int) ≤ 24))
def E0 (a8 : List (Int × List Int)) (f : Int × List Int) (out : List (Int × List Int)) (r : Int × Int × List Int) : List (Int × List Int) :=
 if f.1 = r.1 then (if F3 a8 (r.2.1, vals r.2.2 f.2) then out else w4 out (r.2.1, vals r.2.2 f.2)) else out
def D6 (l : List (Int × Int × List Int)) (a8 : List (Int × List Int)) (out : List (Int × List Int)) (f : Int × List Int) : List (Int × List Int) := l.foldl (E0 a8 f) out
def n9 (l : List (Int × Int × List Int)) (a8 : List (Int × List Int)) : List (Int × List Int) := a8.foldl (D6 l a8) []
theorem a6R {l : List (Int × Int × List Int)} {a8 : List (Int × List Int)} {f : Int × List Int} {out : List (Int × List Int)} {h : Nat} : ((l.take h).foldl (E0 a8 f) out).length ≤ out.length + (l.take h).length := by
 generalize l.take h = m
 induction m generalizing out with
 | nil => simp
 | cons r m ih =>
  have h1 := ih (out := E0 a8 f out r)
  have h2 : (E0 a8 f out r).length ≤ out.length + 1 := by
   unfold E0
   split
   ·split
    ·omega
    ·exact a3i
   ·omega
  simp only [List.foldl_cons, List.length_cons]; omega
theorem a8a {l : List (Int × Int × List Int)} {a8 fs : List (Int × List Int)} : (fs.foldl (D6 l a8) []).length ≤ fs.length * l.length := by
 have : ∀ {fs out : List (Int × List Int)}, (fs.foldl (D6 l a8) out).length ≤ out.length + fs.length * l.length := by
  intro fs
  induction fs with
  | nil => intro out; simp
  | cons f fs ih =>
   intro out
   have h1 := ih (out := D6 l a8 out f)
   have h2 := a6R (l := l) (a8 := a8) (f := f) (out := out) (h := l.length)
   rw [List.take_length] at h2
   unfold D6 at h1 ⊢
   simp only [List.foldl_cons, List.length_cons, Nat.succ_mul]; omega
 have h := this (fs := fs) (out := [])
 simpa using h
theorem a9i {m v : List Int} {n : Nat} (h : m.length ≤ n) : (vals m v).length ≤ n := by rw [b1l]; exact h
theorem a8d {a8 : List (Int × List Int)} {f : Int × List Int} {n : Nat} : ∀ {l : List (Int × Int × List Int)} {out : List (Int × List Int)}, (∀ r ∈ l, r.2.2.length ≤ n) → (∀ x ∈ out, x.2.length ≤ n) → ∀ x ∈ l.foldl (E0 a8 f) out, x.2.length ≤ n
 | [], out, _, h, x, hx => h x hx
 | r :: l, out, hr, h, x, hx => by
  refine a8d (l := l) (out := E0 a8 f out r) (fun r hr' => hr r (by simp [hr'])) (fun y hy => ?_) x hx
  unfold E0 at hy
  split at hy
  ·split at hy
   ·exact h y hy
   ·rcases a1R hy with hy | rfl
    ·exact h y hy
    ·exact a9i (hr r (by simp))
  ·exact h y hy
theorem b1J {l : List (Int × Int × List Int)} {a8 : List (Int × List Int)} {n : Nat} (hr : ∀ r ∈ l, r.2.2.length ≤ n) : ∀ {fs out : List (Int × List Int)}, (∀ x ∈ out, x.2.length ≤ n) → ∀ x ∈ fs.foldl (D6 l a8) out, x.2.length ≤ n
 | [], out, h, x, hx => h x hx
 | f :: fs, out, h, x, hx => b1J hr (fs := fs) (out := D6 l a8 out f) (a8d hr h) x hx
theorem b2J {l : List (Int × Int × List Int)} {a8 : List (Int × List Int)} {n g h : Nat} (hr : ∀ r ∈ l, r.2.2.length ≤ n) (hg : g < a8.length) : ∀ x ∈ (l.take h).foldl (E0 a8 a8[g]) ((a8.take g).foldl (D6 l a8) []), x.2.length ≤ n :=
 a8d (fun r h' => hr r (List.mem_of_mem_take h')) (b1J hr (by simp))
theorem b6W {b : Bool} {m v : List Int} {n : Nat} (h : m.length ≤ n) : (cond b (vals m v) []).length ≤ n := by
 cases b
 ·exact Nat.zero_le _
 ·exact a9i h
end Go.Proofs.YthapcdhdfaibkaaGreatDoor

namespace Go.Proofs.YthapcdhdfaibkaaGreatDoor
set_option linter.unusedVariables false
set_option linter.unusedSimpArgs false
theorem X2 {s : List Int} {l : List (Int × Int × List Int)} (h : B7 s l = true) : Q6 s = true ∧ l.length ≤ 4 ∧ ∀ r ∈ l, G3 s r = true := by
 simp only [B7, Bool.and_eq_true, decide_eq_true_eq, Bool.not_eq_true', List.any_eq_false, Bool.not_eq_true] at h
 exact ⟨h.1, by omega, fun r hr => by have := h.2.2 r hr; simpa using this⟩
theorem J5 {s : List Int} {l : List (Int × List Int)} (h : D7 s l = true) : l.length ≤ 24 ∧ ∀ f ∈ l, B9 s f = true := by
 simp only [D7, a1I, List.drop_zero, Bool.and_eq_true, decide_eq_true_eq, List.all_eq_true] at h
 exact ⟨by omega, h.1.1⟩
theorem H3 {s : List Int} {f : Int × List Int} (h : B9 s f = true) : f.2.length ≤ 3 := by
 simp only [B9, Bool.and_eq_true, decide_eq_true_eq] at h
 have := a0n h.1
 simp only [at0] at h; omega
theorem a2T {v : List Int} (h : G4 v = true) : ∀ x ∈ v, 0 ≤ x ∧ x ≤ 9 := by
 simp only [G4, Bool.not_eq_true', List.any_eq_false, Bool.not_eq_true] at h
 intro x hx
 have := h x hx
 simp [inR] at this; omega
theorem a6Y {v : List Int} (h : ∀ x ∈ v, 0 ≤ x ∧ x ≤ 9) : G4 v = true := by
 simp only [G4, Bool.not_eq_true', List.any_eq_false, Bool.not_eq_true]
 intro x hx
 have := h x hx
 simp [inR]; omega
theorem b3n {s : List Int} {r : Int × Int × List Int} {f : Int × List Int} (h1 : G3 s r = true) (h2 : B9 s f = true) (e : f.1 = r.1) : B9 s (r.2.1, vals r.2.2 f.2) = true := by
 have h3 := a4L h1 h2 e
 simp only [G3, B9, Bool.and_eq_true, decide_eq_true_eq] at h1 h2 ⊢
 refine ⟨h1.2.1, by rw [b1l]; exact h1.2.2.1, a6Y fun x hx => ?_⟩
 simp only [vals, List.mem_map] at hx
 obtain ⟨i, hi, rfl⟩ := hx
 have h4 := h3 i hi
 rw [G1 (show i.toNat < f.2.length by omega)]
 exact a2T h2.2.2 _ (List.getElem_mem _)
theorem a9X {P : Int × List Int → Prop} {a8 : List (Int × List Int)} {f : Int × List Int} : ∀ {l : List (Int × Int × List Int)} {out : List (Int × List Int)}, (∀ r ∈ l, f.1 = r.1 → F3 a8 (r.2.1, vals r.2.2 f.2) = false → P (r.2.1, vals r.2.2 f.2)) → (∀ x ∈ out, P x) → ∀ x ∈ l.foldl (E0 a8 f) out, P x
 | [], out, _, h, x, hx => h x hx
 | r :: l, out, hr, h, x, hx => by
  refine a9X (l := l) (out := E0 a8 f out r) (fun r hr' => hr r (by simp [hr'])) (fun y hy => ?_) x hx
  unfold E0 at hy
  split at hy
  ·split at hy
   ·exact h y hy
   ·rename_i h1 h2
    rcases a1R hy with hy | rfl
    ·exact h y hy
    ·exact hr r (by simp) h1 (by simpa using h2)
  ·exact h y hy
theorem a7Z {P : Int × List Int → Prop} {a8 : List (Int × List Int)} {l : List (Int × Int × List Int)} (H : ∀ r ∈ l, ∀ f ∈ a8, f.1 = r.1 → F3 a8 (r.2.1, vals r.2.2 f.2) = false → P (r.2.1, vals r.2.2 f.2)) : ∀ x ∈ n9 l a8, P x := by
 have : ∀ {fs out : List (Int × List Int)}, (∀ f ∈ fs, f ∈ a8) → (∀ x ∈ out, P x) → ∀ x ∈ fs.foldl (D6 l a8) out, P x := by
  intro fs
  induction fs with
  | nil => intro out _ h; exact h
  | cons f fs ih =>
   intro out hs h
   exact ih (fun g hg => hs g (by simp [hg])) (a9X (fun r hr => H r hr f (hs f (by simp))) h)
 exact this (fun f h => h) (by simp)
theorem a2I {s : List Int} {l : List (Int × Int × List Int)} {a8 : List (Int × List Int)} (h1 : B7 s l = true) (h2 : ∀ f ∈ a8, B9 s f = true) : ∀ x ∈ n9 l a8, B9 s x = true ∧ F3 a8 x = false :=
 a7Z fun r hr f hf e h => ⟨b3n ((X2 h1).2.2 r hr) (h2 f hf) e, h⟩
theorem a1C {s : List Int} {l : List (Int × Int × List Int)} {a8 : List (Int × List Int)} (h1 : B7 s l = true) (h2 : ∀ f ∈ a8, B9 s f = true) : (∀ r ∈ l, ∀ f ∈ a8, f.1 = r.1 → ∀ x ∈ r.2.2, 0 ≤ x ∧ x < f.2.length) ∧ (∀ r ∈ l, r.2.2.length ≤ 1048576) ∧ l.length ≤ 4 :=
 have h := X2 h1
 ⟨fun r hr f hf e => a4L (h.2.2 r hr) (h2 f hf) e, fun r hr => Nat.le_trans (a7U (h.2.2 r hr)) (by decide), h.2.1⟩
theorem a7i {s : List Int} {l : List (Int × Int × List Int)} {a8 : List (Int × List Int)} (h : (B7 s l && D7 s a8) = true) : (∀ r ∈ l, ∀ f ∈ a8, f.1 = r.1 → ∀ x ∈ r.2.2, 0 ≤ x ∧ x < f.2.length) ∧ (∀ r ∈ l, r.2.2.length ≤ 1048576) ∧ l.length ≤ 4 ∧ a8.length ≤ 1048576 := by
 rw [Bool.and_eq_true] at h
 have h2 := J5 h.2
 have h3 := a1C h.1 h2.2
 exact ⟨h3.1, h3.2.1, h3.2.2, by omega⟩
theorem b5H {s : List Int} {l : List (Int × Int × List Int)} {a8 : List (Int × List Int)} (h : (B7 s l && D7 s a8) = true) : ∃ s, B7 s l = true ∧ D7 s a8 = true := by
 rw [Bool.and_eq_true] at h
 exact ⟨s, h⟩
def b8E (s : List Int) (l : List (Int × Int × List Int)) (a8 : List (Int × List Int)) : List (Int × List Int) := if B7 s l && D7 s a8 then n9 l a8 else []
theorem a4E {l : List (Int × Int × List Int)} {a8 : List (Int × List Int)} (h : l.length ≤ 4) : (n9 l a8).length ≤ a8.length * 4 :=
 Nat.le_trans a8a (Nat.mul_le_mul_left _ h)
theorem b7W {l : List (Int × Int × List Int)} {a8 : List (Int × List Int)} (h : ∃ s, B7 s l = true ∧ D7 s a8 = true) : a8.length ≤ 24 := by
 obtain ⟨s, h1, h2⟩ := h
 exact (J5 h2).1
theorem b8o {l : List (Int × Int × List Int)} {a8 : List (Int × List Int)} (h : ∃ s, B7 s l = true ∧ D7 s a8 = true) : ∀ f ∈ a8, f.2.length ≤ 1048576 := by
 obtain ⟨s, h1, h2⟩ := h
 exact fun f hf => Nat.le_trans (H3 ((J5 h2).2 f hf)) (by decide)
def C5 (l : List (Int × Int × List Int)) (a8 : List (Int × List Int)) : Nat → List (Int × List Int)
 | 0 => a8
 | n + 1 => (n9 l (C5 l a8 n)).foldl w4 (C5 l a8 n)
def a5f (l : List (Int × Int × List Int)) (a8 : List (Int × List Int)) : List (Int × List Int) := C5 l a8 6001
theorem a8x {l : List (Int × Int × List Int)} {a8 : List (Int × List Int)} {n : Nat} (h : n9 l (C5 l a8 n) = []) : ∀ k, C5 l a8 (n + k) = C5 l a8 n
 | 0 => rfl
 | k + 1 => by
  show (n9 l (C5 l a8 (n + k))).foldl w4 (C5 l a8 (n + k)) = _
  rw [a8x h k, h]; rfl
theorem b3o {l : List (Int × Int × List Int)} {a8 : List (Int × List Int)} {n : Nat} (hn : n ≤ 6001) (h : n9 l (C5 l a8 n) = []) : C5 l a8 n = a5f l a8 := by
 have := a8x h (6001 - n)
 rw [show n + (6001 - n) = 6001 by omega] at this
 exact this.symm
theorem a7X : ∀ {n : Nat} {l : List Nat}, l.Nodup → (∀ x ∈ l, x < n) → l.length ≤ n
 | 0, l, _, h => by
  cases l with
  | nil => simp
  | cons x l => exact absurd (h x (by simp)) (by omega)
 | n + 1, l, hd, h => by
  by_cases hm : n ∈ l
  ·have h1 := a7X (n := n) (l := l.erase n) (hd.erase n) fun x hx => by
    have h2 := (hd.mem_erase_iff).1 hx
    have := h x h2.2; omega
   rw [List.length_erase_of_mem hm] at h1; omega
  ·have h1 := a7X (n := n) (l := l) hd fun x hx => by
    have h2 := h x hx
    have : x ≠ n := fun e => hm (e ▸ hx)
    omega
   omega
def a3w : List Int → Nat
 | [] => 0
 | v :: l => (v.toNat + 1) + 11 * a3w l
theorem b0n : ∀ {a b : List Int}, (∀ x ∈ a, 0 ≤ x ∧ x ≤ 9) → (∀ x ∈ b, 0 ≤ x ∧ x ≤ 9) → a3w a = a3w b → a = b
 | [], [], _, _, _ => rfl
 | [], y :: b, _, _, h => by simp [a3w] at h; omega
 | x :: a, [], _, _, h => by simp [a3w] at h
 | x :: a, y :: b, ha, hb, h => by
  have h1 := ha x (by simp)
  have h2 := hb y (by simp)
  simp only [a3w] at h
  rw [b0n (a := a) (b := b) (fun z hz => ha z (by simp [hz])) (fun z hz => hb z (by simp [hz])) (by omega), show x = y by omega]
theorem b1A : ∀ {n : Nat} {a : List Int}, (∀ x ∈ a, 0 ≤ x ∧ x ≤ 9) → a.length ≤ n → a3w a < 11 ^ n
 | n, [], _, _ => by simp [a3w]; exact Nat.pow_pos (by decide)
 | 0, x :: a, _, h => by simp at h
 | n + 1, x :: a, ha, h => by
  have h1 := b1A (n := n) (a := a) (fun z hz => ha z (by simp [hz])) (by simpa using h)
  have h2 := ha x (by simp)
  simp only [a3w, Nat.pow_succ]; omega
def b3r (f : Int × List Int) : Nat := f.1.toNat + 4 * a3w f.2
theorem a5V {s : List Int} {f : Int × List Int} (h : B9 s f = true) : 0 ≤ f.1 ∧ f.1 < 4 := by
 simp only [B9, Bool.and_eq_true, decide_eq_true_eq] at h
 have h1 := a0n h.1
 have h2 := h.1
 simp only [N6, Q6, inR, Bool.and_eq_true, decide_eq_true_eq] at h2
 omega
theorem a0X {s : List Int} {f : Int × List Int} (h : B9 s f = true) : ∀ x ∈ f.2, 0 ≤ x ∧ x ≤ 9 := by
 simp only [B9, Bool.and_eq_true] at h
 exact a2T h.2.2
theorem a9S {s : List Int} {D : List (Int × List Int)} (hd : D.Nodup) (h : ∀ f ∈ D, B9 s f = true) : D.length ≤ 5324 := by
 have h1 : (D.map b3r).Nodup := by
  unfold List.Nodup at hd ⊢
  rw [List.pairwise_map]
  refine List.Pairwise.imp_of_mem (fun {a b} ha hb hab e => hab ?_) hd
  have ra := a5V (h a ha)
  have rb := a5V (h b hb)
  simp only [b3r] at e
  have e2 := b0n (a0X (h a ha)) (a0X (h b hb)) (by omega)
  exact Prod.ext (by omega) e2
 have h2 := a7X (n := 5324) h1 fun x hx => by
  obtain ⟨f, hf, rfl⟩ := List.mem_map.1 hx
  have r := a5V (h f hf)
  have c := b1A (n := 3) (a0X (h f hf)) (H3 (h f hf))
  unfold b3r; omega
 simpa using h2
theorem b0Q {α : Type} {p : α → Bool} {f y : α} : ∀ {l : List α}, y ∈ l → y ∈ O5 p f l
 | x :: l, h => by
  simp only [O5]
  simp only [List.mem_cons] at h
  split
  ·simp [h]
  ·rcases h with h | h
   ·simp [h]
   ·simp [b0Q h]
theorem b0o {α : Type} {p : α → Bool} {f : α} : ∀ {l : List α}, l.any p = true → f ∈ O5 p f l
 | x :: l, h => by
  simp only [O5]
  split
  ·simp
  ·rename_i h1
   simp only [List.any_cons, h1, Bool.false_or] at h
   simp [b0o h]
theorem a3l {l : List (Int × List Int)} {f y : Int × List Int} (h : y ∈ l) : y ∈ w4 l f := by
 unfold w4 a0c
 split
 ·exact h
 ·split
  ·exact b0Q h
  ·simp [h]
theorem V8 {l : List (Int × List Int)} {f : Int × List Int} : F3 l f = true ↔ f ∈ l := by
 unfold F3
 rw [List.any_eq_true]
 constructor
 ·rintro ⟨x, hx, e⟩
  rw [decide_eq_true_eq, a0y] at e
  exact e ▸ hx
 ·intro h
  exact ⟨f, h, by rw [decide_eq_true_eq, a0y]⟩
theorem a4N {l : List (Int × List Int)} {f : Int × List Int} (h : F3 l f = false) : f ∈ w4 l f := by
 unfold w4 a0c
 rw [h]
 simp only [Bool.false_eq_true, if_false]
 split
 ·rename_i h1; exact b0o h1
 ·simp
def a6E (s : List Int) (x D : List (Int × List Int)) : Prop := D.Nodup ∧ (∀ f ∈ D, f ∈ x) ∧ x.length ≤ 24 + D.length ∧ ∀ f ∈ x, B9 s f = true
theorem b1O {s : List Int} {x D : List (Int × List Int)} {f : Int × List Int} (h : a6E s x D) (hf : B9 s f = true) : ∃ D', a6E s (w4 x f) D' ∧ D.length + (if F3 x f then 0 else 1) ≤ D'.length := by
 obtain ⟨h1, h2, h3, h4⟩ := h
 cases hx : F3 x f with
 | true => exact ⟨D, by rw [a4q hx]; exact ⟨h1, h2, h3, h4⟩, by simp⟩
 | false =>
  refine ⟨f :: D, ⟨?_, ?_, ?_, ?_⟩, by simp⟩
  ·rw [List.nodup_cons]
   exact ⟨fun hm => (by rw [V8.2 (h2 f hm)] at hx; cases hx), h1⟩
  ·intro y hy
   simp only [List.mem_cons] at hy
   rcases hy with rfl | hy
   ·exact a4N hx
   ·exact a3l (h2 y hy)
  ·have := a3i (h := F3 x f) (p := ltF f) (f := f) (l := x)
   simp only [w4, List.length_cons]; omega
  ·intro y hy
   rcases a1R hy with hy | rfl
   ·exact h4 y hy
   ·exact hf
theorem a9I {s : List Int} : ∀ {m x D : List (Int × List Int)}, a6E s x D → (∀ f ∈ m, B9 s f = true) → ∃ D', a6E s (m.foldl w4 x) D' ∧ D.length ≤ D'.length
 | [], x, D, h, _ => ⟨D, h, Nat.le_refl _⟩
 | f :: m, x, D, h, hm => by
  obtain ⟨D1, g1, l1⟩ := b1O h (hm f (by simp))
  obtain ⟨D2, g2, l2⟩ := a9I (m := m) g1 (fun y hy => hm y (by simp [hy]))
  exact ⟨D2, g2, by omega⟩
theorem b2T {s : List Int} {m x D : List (Int × List Int)} (h : a6E s x D) (hm : ∀ f ∈ m, B9 s f = true ∧ F3 x f = false) (h0 : m ≠ []) : ∃ D', a6E s (m.foldl w4 x) D' ∧ D.length + 1 ≤ D'.length := by
 cases m with
 | nil => exact absurd rfl h0
 | cons f m =>
  obtain ⟨D1, g1, l1⟩ := b1O h (hm f (by simp)).1
  obtain ⟨D2, g2, l2⟩ := a9I (m := m) g1 (fun y hy => (hm y (by simp [hy])).1)
  rw [(hm f (by simp)).2] at l1
  refine ⟨D2, g2, ?_⟩
  simp only [Bool.false_eq_true, if_false] at l1
  omega
def a7Y (l : List (Int × Int × List Int)) (a8 : List (Int × List Int)) (n : Nat) : Prop := ∃ s, B7 s l = true ∧ ∃ D, a6E s (C5 l a8 n) D ∧ n ≤ D.length
theorem b4n {s : List Int} {a8 : List (Int × List Int)} (h2 : D7 s a8 = true) : a6E s a8 [] := by
 have h := J5 h2
 exact ⟨by simp, by simp, by simpa using h.1, h.2⟩
theorem b3Z {l : List (Int × Int × List Int)} {a8 : List (Int × List Int)} (h : ∃ s, B7 s l = true ∧ D7 s a8 = true) : a7Y l a8 0 := by
 obtain ⟨s, h1, h2⟩ := h
 exact ⟨s, h1, [], b4n h2, by simp⟩
theorem b4D {l : List (Int × Int × List Int)} {a8 : List (Int × List Int)} {n : Nat} (h : a7Y l a8 n) (h0 : n9 l (C5 l a8 n) ≠ []) : a7Y l a8 (n + 1) := by
 obtain ⟨s, h1, D, g, hn⟩ := h
 obtain ⟨D', g', l'⟩ := b2T g (a2I h1 g.2.2.2) h0
 exact ⟨s, h1, D', g', by omega⟩
theorem b2w {l : List (Int × Int × List Int)} {a8 : List (Int × List Int)} {n : Nat} (h : a7Y l a8 n) : n ≤ 6000 ∧ (C5 l a8 n).length ≤ 6024 ∧ (n9 l (C5 l a8 n)).length ≤ 24096 ∧ l.length ≤ 4 := by
 obtain ⟨s, h1, D, g, hn⟩ := h
 have h2 := a9S g.1 (fun f hf => g.2.2.2 f (g.2.1 f hf))
 have h3 := g.2.2.1
 have h4 := (X2 h1).2.1
 have h5 := a4E (a8 := C5 l a8 n) h4
 omega
theorem a6I {l : List (Int × Int × List Int)} {a8 : List (Int × List Int)} {n : Nat} (h : a7Y l a8 n) : (∀ r ∈ l, ∀ f ∈ C5 l a8 n, f.1 = r.1 → ∀ x ∈ r.2.2, 0 ≤ x ∧ x < f.2.length) ∧ (∀ r ∈ l, r.2.2.length ≤ 1048576) ∧ (∀ f ∈ n9 l (C5 l a8 n), f.2.length ≤ 1048576) ∧ ∀ f ∈ C5 l a8 n, f.2.length ≤ 1048576 := by
 obtain ⟨s, h1, D, g, hn⟩ := h
 have h2 := a1C h1 g.2.2.2
 exact ⟨h2.1, h2.2.1, fun f hf => Nat.le_trans (H3 (a2I h1 g.2.2.2 f hf).1) (by decide), fun f hf => Nat.le_trans (H3 (g.2.2.2 f hf)) (by decide)⟩
theorem a2C {m x : List (Int × List Int)} : (m.foldl w4 x).length ≤ x.length + m.length := by
 induction m generalizing x with
 | nil => simp
 | cons f m ih =>
  have h1 := ih (x := w4 x f)
  have h2 := a3i (h := F3 x f) (p := ltF f) (f := f) (l := x)
  simp only [List.foldl_cons, List.length_cons]
  unfold w4 at h1 ⊢; omega
theorem a9y {n : Nat} : ∀ {m x : List (Int × List Int)}, (∀ f ∈ m, f.2.length ≤ n) → (∀ f ∈ x, f.2.length ≤ n) → ∀ f ∈ m.foldl w4 x, f.2.length ≤ n
 | [], x, _, h => h
 | y :: m, x, hm, h => by
  refine a9y (m := m) (x := w4 x y) (fun f hf => hm f (by simp [hf])) fun f hf => ?_
  rcases a1R hf with hf | rfl
  ·exact h f hf
  ·exact hm _ (by simp)
theorem a7V {n g : Nat} {m x : List (Int × List Int)} (hm : ∀ f ∈ m, f.2.length ≤ n) (hx : ∀ f ∈ x, f.2.length ≤ n) : ∀ f ∈ (m.take g).foldl w4 x, f.2.length ≤ n :=
 a9y (fun f hf => hm f (List.mem_of_mem_take hf)) hx
def a0S (s : List Int) (l : List (Int × Int × List Int)) (a8 : List (Int × List Int)) : List (Int × List Int) := if B7 s l && D7 s a8 then a5f l a8 else []
end Go.Proofs.YthapcdhdfaibkaaGreatDoor

namespace Go.Proofs.YthapcdhdfaibkaaGreatDoor
set_option linter.unusedVariables false
set_option linter.unusedSimpArgs false
def unb (b : List Int × List Int) (t : Int) : Bool := !(b.1.take (min b.1.length b.2.length)).any fun x => decide (x = t)
theorem b2G {α : Type} {p : α → Bool} {s : List α} : M6 p s < 0 ↔ s.any p = false := by
 unfold M6
 by_cases h : s.any p = true
 ·rw [if_pos h]; simp [h]
 ·rw [if_neg h]; simp at h; simp; exact h
def b5K (x : List Int × List Int) (t v : Int) : List Int × List Int := if inR t 10 17 && unb x t then (x.1 ++ [t], x.2 ++ [v]) else x
def b8J (b : List Int × List Int) (l : List (Int × Int)) : List Int × List Int := l.foldl (fun x p => b5K x p.1 p.2) b
def okV (b : List Int × List Int) : List (Int × Int) → Bool
 | [] => true
 | p :: l => decide (a4T (b5K b p.1 p.2) p.1 = p.2) && okV (b5K b p.1 p.2) l
def b7E (b : List Int × List Int) (a f : Int × List Int) : Bool := decide (a.1 = f.1) && (decide (a.2.length = f.2.length) && (decide (b.1.length = b.2.length) && okV b (a.2.zip f.2)))
def b7Q (b : List Int × List Int) (a f : Int × List Int) : List Int × List Int := b8J b (a.2.zip f.2)
def b7F (b : List Int × List Int) (a : Int × List Int) (a8 : List (Int × List Int)) : List (List Int × List Int) := (a8.filter (b7E b a)).map (b7Q b a)
def b7X (l : List (List Int × List Int)) (a : Int × List Int) (a8 : List (Int × List Int)) : List (List Int × List Int) := l.flatMap fun b => b7F b a a8
def a8K (y9 : List (Int × List Int)) (a8 : List (Int × List Int)) : List (List Int × List Int) := y9.foldl (fun l a => b7X l a a8) [([], [])]
def b9p (l : List (List Int)) (t : List Int) : Bool := l.any fun x => decide (x = t)
def ltT (a b : List Int) : Bool := decide (L7 a b < 0)
def b7R (l : List (List Int)) (t : List Int) : List (List Int) := a0c (b9p l t) (ltT t) t l
def b3q (h : List Int) (l : List (List Int × List Int)) : List (List Int) := l.foldl (fun out b => b7R out (h.map (a4T b))) []
def b9t (s : List Int) (q : List Int × List (Int × List Int)) (a8 : List (Int × List Int)) : List (List Int) := if S7 s q && D7 s a8 then b3q q.1 (a8K q.2 a8) else []
end Go.Proofs.YthapcdhdfaibkaaGreatDoor

namespace Go.Proofs.YthapcdhdfaibkaaGreatDoor
set_option linter.unusedVariables false
set_option linter.unusedSimpArgs false
def nxt (u : List Int) : Nat → Nat → Nat
 | 0, v => v
 | n + 1, v => if L9 u (v : Int) then nxt u n (v + 1) else v
def b3c (u : List Int) (v : Nat) : Nat := nxt u 11 v
def fzN (u : List Int) : Nat → Nat
 | 0 => 0
 | g + 1 => b3c u (fzN u g) + 1
def b8H (u : List Int) (n : Nat) : Bool := (List.range n).all fun i => decide (b3c u (fzN u i) ≤ 9)
def b4Y (u : List Int) (n : Nat) : List Int := (List.range n).map fun i => (b3c u (fzN u i) : Int)
def a3v (y9 : List (Int × List Int)) : List Int := G5 (fun t => inR t 10 17) y9
def c0m (y9 : List (Int × List Int)) : List Int := G5 (fun t => inR t 0 9) y9
def b9I (y9 : List (Int × List Int)) (b : List Int × List Int) : List (Int × List Int) := y9.foldl (fun out a => w4 out (b3t a b)) []
def fzB (u : List Int) (y9 : List (Int × List Int)) : Bool := b8H u (a3v y9).length
def fzV (u : List Int) (y9 : List (Int × List Int)) : List Int := cond (fzB u y9) (a3v y9) []
def fzX (u : List Int) (y9 : List (Int × List Int)) : List Int := cond (fzB u y9) (b4Y u (a3v y9).length) []
def fzF (u : List Int) (y9 : List (Int × List Int)) : List (Int × List Int) := cond (fzB u y9) (b9I y9 (a3v y9, b4Y u (a3v y9).length)) []
end Go.Proofs.YthapcdhdfaibkaaGreatDoor
