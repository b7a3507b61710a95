import Derived.Test.YtdopeopehgdccaaGreatBc
import Derived.Lib.SlicesCompact
namespace Go.Proofs.YtdopeopehgdccaaGreat
open Go.RowKit
set_option linter.unusedVariables false
def FnP2 {α : Type} (P : Program) (w : World) (L : List Nat) (g : FuncId) (caps : List Value) (E : Enc α) (val : List Value → Value) (p : α → α → Bool) : Prop :=
 a7q P g ∧ ∀ w', Keep w L w' → ∀ cs x ds y, Ro w' [] E cs x → Ro w' [] E ds y → Calls P g (val cs :: val ds :: caps).toArray w' fun e w'' => e = .returned (.bool (p x y)) ∧ Ext w' w''
section
variable {P : Program} {α : Type} {E : Enc α} {w w0 : World} {L L0 Lp : List Nat} {pre rest : List HP} {g : FuncId} {caps : List Value} {val : List Value → Value} {p : α → α → Bool}
end
section
variable {P : Program} {Q : Exit → Act → World → Prop} {n : Nat} {w0 : World} {L0 : List Nat} {fr : Fr} {H : List HP} {d : Nat} {ty : TypeId} {pos : String} {af : Array Edge} {g : Option (Nat × Bool)}
end
section
variable {P : Program} {w : World} {L : List Nat} {g : FuncId} {caps : List Value} {RR : World → List Nat → Prop}
theorem b9m {p : (Int × List Int) → (Int × List Int) → Bool} (tr : ∀ {x0 : Int} {ax1 : Option Addr} {mx1 cx1 : Nat} {x1 : List Int} {y0 : Int} {ay1 : Option Addr} {my1 cy1 : Nat} {y1 : List Int}, Tr P g (.agg #[.int .i64 x0, .slice ax1 mx1 cx1] :: .agg #[.int .i64 y0, .slice ay1 my1 cy1] :: caps) (fun w L => (I64 x0 ∧ Ro w L eIs [.slice ax1 mx1 cx1] x1 ∧ I64 y0 ∧ Ro w L eIs [.slice ay1 my1 cy1] y1) ∧ RR w L) [] (κ := Unit) (fun _ => True) (fun _ => .bool (p (x0, x1) (y0, y1))) (fun _ => [])) (hR : ∀ w', Keep w L w' → RR w' []) : FnP2 P w L g caps H7 a1d p :=
 ⟨(tr (x0 := 0) (x1 := []) (ax1 := none) (mx1 := 0) (cx1 := 0) (y0 := 0) (y1 := []) (ay1 := none) (my1 := 0) (cy1 := 0)).1, fun w' k cs x ds y hx hy => by obtain ⟨a0, c0, rfl, h0, h1⟩ := P2 hx; obtain ⟨b0, e0, rfl, k0, k1⟩ := P2 hy; exact Tr.bool tr ⟨⟨h0, h1, k0, k1⟩, hR w' k⟩⟩
theorem b8j {p : (Int × List Int) → (Int × List Int) → Bool} (tr : ∀ {x0 : Int} {ax1 : Option Addr} {mx1 cx1 : Nat} {x1 : List Int} {y0 : Int} {ay1 : Option Addr} {my1 cy1 : Nat} {y1 : List Int}, Tr P g (.agg #[.int .i64 x0, .slice ax1 mx1 cx1] :: .agg #[.int .i64 y0, .slice ay1 my1 cy1] :: caps) (fun w L => (I64 x0 ∧ Ro w L eIs [.slice ax1 mx1 cx1] x1 ∧ I64 y0 ∧ Ro w L eIs [.slice ay1 my1 cy1] y1) ∧ RR w L) [] (κ := Unit) (fun _ => True) (fun _ => .bool (p (x0, x1) (y0, y1))) (fun _ => [])) (hR : ∀ w', Keep w L w' → RR w' []) : FnP2 P w L g caps P4 a1d p :=
 ⟨(tr (x0 := 0) (x1 := []) (ax1 := none) (mx1 := 0) (cx1 := 0) (y0 := 0) (y1 := []) (ay1 := none) (my1 := 0) (cy1 := 0)).1, fun w' k cs x ds y hx hy => by obtain ⟨a0, c0, rfl, h0, h1⟩ := Y0 hx; obtain ⟨b0, e0, rfl, k0, k1⟩ := Y0 hy; exact Tr.bool tr ⟨⟨h0, h1, k0, k1⟩, hR w' k⟩⟩
theorem b9l {p : (Int × List Int) → (Int × List Int) → Bool} (tr : ∀ {x0 : Int} {ax1 : Option Addr} {mx1 cx1 : Nat} {x1 : List Int} {y0 : Int} {ay1 : Option Addr} {my1 cy1 : Nat} {y1 : List Int}, Tr P g (.agg #[.int .i64 x0, .slice ax1 mx1 cx1] :: .agg #[.int .i64 y0, .slice ay1 my1 cy1] :: caps) (fun w L => (I64 x0 ∧ Ro w L eIs [.slice ax1 mx1 cx1] x1 ∧ I64 y0 ∧ Ro w L eIs [.slice ay1 my1 cy1] y1) ∧ RR w L) [] (κ := Unit) (fun _ => True) (fun _ => .bool (p (x0, x1) (y0, y1))) (fun _ => [])) (hR : ∀ w', Keep w L w' → RR w' []) : FnP2 P w L g caps a2P a1d p :=
 ⟨(tr (x0 := 0) (x1 := []) (ax1 := none) (mx1 := 0) (cx1 := 0) (y0 := 0) (y1 := []) (ay1 := none) (my1 := 0) (cy1 := 0)).1, fun w' k cs x ds y hx hy => by obtain ⟨a0, c0, rfl, h0, h1⟩ := K0 hx; obtain ⟨b0, e0, rfl, k0, k1⟩ := K0 hy; exact Tr.bool tr ⟨⟨h0, h1, k0, k1⟩, hR w' k⟩⟩
theorem c0d {p : List Int → List Int → Bool} (tr : ∀ {ax : Option Addr} {mx cx : Nat} {x : List Int} {ay : Option Addr} {my cy : Nat} {y : List Int}, Tr P g (.slice ax mx cx :: .slice ay my cy :: caps) (fun w L => (Ro w L eIs [.slice ax mx cx] x ∧ Ro w L eIs [.slice ay my cy] y) ∧ RR w L) [] (κ := Unit) (fun _ => True) (fun _ => .bool (p x y)) (fun _ => [])) (hR : ∀ w', Keep w L w' → RR w' []) : FnP2 P w L g caps eIs a7f p :=
 ⟨(tr (ax := none) (mx := 0) (cx := 0) (x := []) (ay := none) (my := 0) (cy := 0) (y := [])).1, fun w' k cs x ds y hx hy => by obtain ⟨a, c, rfl⟩ := hx.sl; obtain ⟨b, e, rfl⟩ := hy.sl; exact (tr (x := x) (y := y)).bool ⟨⟨hx, hy⟩, hR w' k⟩⟩
end
end Go.Proofs.YtdopeopehgdccaaGreat

namespace Go.Proofs.YtdopeopehgdccaaGreat
open Go.RowKit
set_option linter.unusedVariables false
def owd {α : Type} (e : TypeId) (E : Enc α) (a : Option Addr) (m c : Nat) (xs : List α) (j : Nat) : HP where
 holds w L := ∃ c1 c2 L1 L2, L = L1 ++ L2 ∧ m = xs.length ∧ m ≤ maxLen ∧ c1.length = j * E.k ∧ D8 E w c2 (xs.drop j) L2 true ∧ (row e E.k a m c (c1 ++ c2)).holds w L1
 stable := by
  rintro w w' L ⟨c1, c2, L1, L2, rfl, h1, h2, h3, h4, h5⟩ hb
  exact ⟨c1, c2, L1, L2, rfl, h1, h2, h3, h4.stable fun b h => hb b (by simp [h]), (row e E.k a m c _).stable h5 fun b h => hb b (by simp [h])⟩
 inh := by
  rintro w L ⟨c1, c2, L1, L2, rfl, h1, h2, h3, h4, h5⟩ b hb
  rcases List.mem_append.1 hb with hb | hb
  ·exact (row e E.k a m c _).inh h5 b hb
  ·exact h4.inh b hb
def owt {α : Type} (e : TypeId) (E : Enc α) (a : Option Addr) (m c : Nat) (xs : List α) (j : Nat) (ce : List Value) : HP where
 holds w L := ∃ c1 c2 L1 L2, L = L1 ++ L2 ∧ m = xs.length ∧ m ≤ maxLen ∧ j < xs.length ∧ ce.length = E.k ∧ c1.length = j * E.k ∧ D8 E w c2 (xs.drop (j + 1)) L2 true ∧ (row e E.k a m c (c1 ++ (ce ++ c2))).holds w L1
 stable := by
  rintro w w' L ⟨c1, c2, L1, L2, rfl, h1, h2, h0, h6, h3, h4, h5⟩ hb
  exact ⟨c1, c2, L1, L2, rfl, h1, h2, h0, h6, h3, h4.stable fun b h => hb b (by simp [h]), (row e E.k a m c _).stable h5 fun b h => hb b (by simp [h])⟩
 inh := by
  rintro w L ⟨c1, c2, L1, L2, rfl, h1, h2, h0, h6, h3, h4, h5⟩ b hb
  rcases List.mem_append.1 hb with hb | hb
  ·exact (row e E.k a m c _).inh h5 b hb
  ·exact h4.inh b hb
section
variable {n : Nat} {w0 : World} {L0 : List Nat} {fr : Fr} {H R : List HP} {G : Act → World → Prop} {α : Type} {E : Enc α} {e : TypeId} {a : Option Addr} {m c : Nat} {xs : List α} {j : Nat}
theorem b0P (h : Ent n w0 L0 fr (owd e E a m c xs 0 :: R) G) : Ent n w0 L0 fr (ow (Enc.sl e E) [.slice a m c] xs :: R) G := fun ac w h1 h2 => by
 obtain ⟨L, ⟨Lo, LR, rfl, ho, hR⟩, hn, hst⟩ := h2
 obtain ⟨ccs, L1, L2, rfl, g1, g2, g3, g4⟩ := a2p ho
 exact h ac w h1 ⟨(L1 ++ L2) ++ LR, ⟨L1 ++ L2, LR, rfl, ⟨[], ccs, L1, L2, rfl, g1, g2, by simp, g3, g4⟩, hR⟩, hn, hst⟩
theorem b0R (hj : j < xs.length) (h : ∀ ce, Ent n w0 L0 fr (owt e E a m c xs j ce :: ow E ce xs[j] :: R) G) : Ent n w0 L0 fr (owd e E a m c xs j :: R) G := fun ac w h1 h2 => by
 obtain ⟨L, ⟨Lo, LR, rfl, ⟨c1, c2, L1, L2, rfl, g1, g2, g3, g4, g5⟩, hR⟩, hn, hst⟩ := h2
 rw [List.drop_eq_getElem_cons hj] at g4
 obtain ⟨d1, d2, N1, N2, rfl, rfl, k1, k2⟩ := g4
 have hperm : (L1 ++ (N1 ++ N2) ++ LR).Perm ((L1 ++ N2) ++ (N1 ++ LR)) := by
  simp only [List.append_assoc]
  refine List.Perm.append_left L1 ?_
  rw [← List.append_assoc, ← List.append_assoc]
  exact (List.perm_append_comm).append_right LR
 exact h d1 ac w h1 ⟨(L1 ++ N2) ++ (N1 ++ LR), ⟨_, _, rfl, ⟨c1, d2, L1, N2, rfl, g1, g2, hj, E.len k1, g3, k2, g5⟩, N1, LR, rfl, k1, hR⟩, hperm.nodup_iff.1 hn, hst.sublist fun b hb => hperm.mem_iff.2 hb⟩
theorem a3n {ce : List Value} (h : Ent n w0 L0 fr (owd e E a m c xs (j + 1) :: R) G) : Ent n w0 L0 fr (owt e E a m c xs j ce :: R) G := fun ac w h1 h2 => by
 obtain ⟨L, ⟨Lo, LR, rfl, ⟨c1, c2, L1, L2, rfl, g1, g2, g0, g6, g3, g4, g5⟩, hR⟩, hn, hst⟩ := h2
 exact h ac w h1 ⟨(L1 ++ L2) ++ LR, ⟨L1 ++ L2, LR, rfl, ⟨c1 ++ ce, c2, L1, L2, rfl, g1, g2, by rw [List.length_append, g3, g6, Nat.succ_mul], g4, by rw [List.append_assoc]; exact g5⟩, hR⟩, hn, hst⟩
theorem b8f {cs : List Value} (h : ∀ (a : Option Addr) (m c : Nat), cs = [.slice a m c] → m = xs.length → Ent n w0 L0 fr (ow (Enc.sl e E) [.slice a m c] xs :: R) G) : Ent n w0 L0 fr (ow (Enc.sl e E) cs xs :: R) G := fun ac w h1 h2 => by
 obtain ⟨L, ⟨Lx, LR, rfl, hx, hR⟩, hn, hst⟩ := h2
 obtain ⟨a, m, c, ccs, L1, L2, rfl, hm, hx2⟩ := id hx
 exact h a m c rfl hm ac w h1 ⟨Lx ++ LR, ⟨Lx, LR, rfl, hx, hR⟩, hn, hst⟩
theorem Has.owt {ce : List Value} {b o : Nat} (ha : a = some ⟨b, o, none⟩) (hm : Go.Proofs.YtdopeopehgdccaaGreat.owt e E a m c xs j ce ∈ H) : Has w0 L0 H b (o + j * E.k) ce := fun w h => by
 obtain ⟨L', c1, c2, L1, L2, _, g1, g2, hj, g6, g3, g4, h0, g8⟩ := h.mem hm
 rcases g8 with ⟨_, h, _⟩ | ⟨g', cur, h2, h3, h4, h5, h6, h7, _⟩
 ·omega
 rw [ha] at h2; cases h2
 intro i v hi
 have hi' : (c1 ++ (ce ++ c2))[j * E.k + i]? = some v := by
  rw [← g3, List.getElem?_append_right (by omega), show c1.length + i - c1.length = i from by omega]
  rw [List.getElem?_append_left (by exact (List.getElem?_eq_some_iff.1 hi).1)]; exact hi
 rw [← h7, List.getElem?_take] at hi'
 split at hi'
 ·simpa [World.cell?, h3] using hi'
 ·cases hi'
theorem a9q (hm : owd e E a m c xs j ∈ H) (hlt : 0 < m) (h : ∀ b, a = some ⟨b, 0, none⟩ → Ent n w0 L0 fr H G) : Ent n w0 L0 fr H G := fun ac w h1 h2 => by
 obtain ⟨L, hL⟩ := h2.mem hm
 obtain ⟨c1, c2, L1, L2, _, g1, g2, _, _, g4⟩ := hL
 rcases g4.2 with ⟨_, h0, _⟩ | ⟨g, cur, h3, _⟩
 ·omega
 ·exact h g h3 ac w h1 h2
end
theorem V2.has {w1 w0 : World} {L1 L0 : List Nat} {b off : Nat} {cs : List Value} (h : V2 w1 L1 w0 L0) (k : ∀ H, Has w0 L0 H b off cs) : ∀ H, Has w1 L1 H b off cs := fun H w hw => k H w (h H w hw)
theorem frB {a b : Bool} (h : a = b) : some (Value.bool a) = some (Value.bool b) := by rw [h]
end Go.Proofs.YtdopeopehgdccaaGreat

namespace Go.Proofs.YtdopeopehgdccaaGreat
set_option linter.unusedVariables false
def S1 (a b : Int) : Int := if a < b then -1 else if b < a then 1 else 0
def I2 : List Int → List Int → Int
 | [], [] => 0
 | [], _ :: _ => -1
 | _ :: _, [] => 1
 | a :: l, b :: m => if S1 a b ≠ 0 then S1 a b else I2 l m
def orI : List Int → Int
 | [] => 0
 | x :: l => if x ≠ 0 then x else orI l
def R4 (a b : Int × List Int) : Int := if S1 a.1 b.1 ≠ 0 then S1 a.1 b.1 else I2 a.2 b.2
theorem b3b {a b : Int} : I64 (S1 a b) := by unfold S1 I64; split; omega; split <;> omega
theorem b2f : ∀ {l m : List Int}, I64 (I2 l m)
 | [], [] => by unfold I2 I64; omega
 | [], _ :: _ => by unfold I2 I64; omega
 | _ :: _, [] => by unfold I2 I64; omega
 | a :: l, b :: m => by unfold I2; split; exact b3b; exact b2f
theorem b1l {a b : Int} : S1 a b = 0 ↔ a = b := by unfold S1; grind
theorem b1k : ∀ {l m : List Int}, I2 l m = 0 ↔ l = m
 | [], [] => by simp [I2]
 | [], _ :: _ => by simp [I2]
 | _ :: _, [] => by simp [I2]
 | a :: l, b :: m => by
  have := b1l (a := a) (b := b)
  have h2 := b1k (l := l) (m := m)
  unfold I2; grind
theorem a4e {a b : Int × List Int} : R4 a b = 0 ↔ a = b := by
 have h1 := b1l (a := a.1) (b := b.1)
 have h2 := b1k (l := a.2) (m := b.2)
 unfold R4
 rcases a with ⟨a1, a2⟩; rcases b with ⟨b1, b2⟩
 grind
def eqP {α : Type} (p : α → α → Bool) : List α → List α → Bool
 | [], [] => true
 | a :: l, b :: m => p a b && eqP p l m
 | _, _ => false
end Go.Proofs.YtdopeopehgdccaaGreat

namespace Go.Proofs.YtdopeopehgdccaaGreat
set_option linter.unusedVariables false
def K6 (l : List (Int × List Int)) (f : Int × List Int) : Bool := l.any fun z => decide (R4 z f = 0)
def S9 (a : Int × List Int) (b : List Int × List Int) : Int × List Int := (a.1, a.2.map (F3 b))
def c1n (q : List Int × List (Int × List Int)) (d8 : List (Int × List Int)) (head : List Int) (b : List Int × List Int) : Bool :=
 decide (b.1.length = b.2.length) && (decide (q.1.map (F3 b) = head) && !q.2.any fun a => !K6 d8 (S9 a b))
theorem Ro.i64A {w : World} {L : List Nat} {e : TypeId} {a : Option Addr} {m c : Nat} {xs : List (Int × List Int)} (h : Ro w L (Enc.sl e (Enc.pair Enc.int (Enc.sl tI Enc.int))) [.slice a m c] xs) : ∀ x ∈ xs, I64 x.1 ∧ ∀ y ∈ x.2, I64 y := by
 intro x hx
 obtain ⟨i, hi, rfl⟩ := List.getElem_of_mem hx
 obtain ⟨_, _, ci, _, h1, _⟩ := h.elem i hi
 obtain ⟨c1, c2, rfl, h2, h3⟩ := h1.pair
 obtain ⟨a', c', rfl⟩ := h3.sl
 exact ⟨h2.int.2, h3.i64⟩
end Go.Proofs.YtdopeopehgdccaaGreat

namespace Go.Proofs.YtdopeopehgdccaaGreat
set_option linter.unusedVariables false
def H6 {α : Type} (r : α → α → Bool) : List α → Bool
 | a :: b :: l => r a b && H6 r (b :: l)
 | _ => true
theorem b5w {α : Type} {l : List α} {g : Nat} (h : g < l.length) (h0 : 0 < g) : l.drop (g - 1) = l[g - 1] :: l[g] :: l.drop (g + 1) := by
 rw [List.drop_eq_getElem_cons (by omega), show g - 1 + 1 = g by omega, List.drop_eq_getElem_cons h]
def ltB (a b : Int) : Bool := decide (a < b)
theorem H8 {α : Type} {r : α → α → Bool} {l : List α} {g : Nat} (h : g < l.length) (h0 : 0 < g) : H6 r (l.drop (g - 1)) = (r l[g - 1] l[g] && H6 r (l.drop g)) := by
 rw [b5w h h0, H6, ← List.drop_eq_getElem_cons h]
theorem H5 {α : Type} {r : α → α → Bool} {l : List α} {g : Nat} (h : g = 0) : H6 r (l.drop (g - 1)) = H6 r (l.drop g) := by subst h; rfl
theorem J1 {α : Type} {r : α → α → Bool} {l : List α} {g : Nat} (h : l.length ≤ g) : H6 r (l.drop (g - 1)) = true := by
 have : (l.drop (g - 1)).length ≤ 1 := by simp; omega
 match l.drop (g - 1), this with
 | [], _ => rfl
 | [x], _ => rfl
 | x :: y :: z, h => simp at h
def a1j (m : Int × List Int × Int × Int × Int) (ar : Int) : Bool :=
 H6 ltB m.2.1 && (a0l m.2.1 ar && (inR m.2.2.1 0 9 && (inR m.2.2.2.1 0 99 && inR m.2.2.2.2 1 99)))
def S3 (s : List Int) (m : Int × List Int × Int × Int × Int) : Bool := N6 s m.1 && a1j m (at0 s m.1)
def G9 (s : List Int) (l : List (Int × List Int × Int × Int × Int)) : Bool := U6 s && (decide ((l.length : Int) ≤ 5) && !l.any fun m => !S3 s m)
def a7N (v : List Int) : Bool := H6 ltB v && U5 v
def a0e (l : List (Int × List Int)) (a : Int × List Int) : Bool := l.any fun z => decide (z = a)
def R6 (J4 : List Int) : Nat → List (List Int)
 | 0 => [[]]
 | n + 1 => (R6 J4 n).flatMap fun l => J4.map fun v => l ++ [v]
def a0I (J4 : List Int) (log : List (Int × List Int)) (i : Int) (k : Nat) : List (Int × List Int) :=
 ((R6 J4 k).filter fun v => !a0e log (i, v)).map fun v => (i, v)
def a0d (J4 : List Int) (log : List (Int × List Int)) : List (Int × List Int × Int × Int × Int) → Int → List (Int × List Int)
 | [], _ => []
 | m :: l, i => (if m.2.2.1 ≠ 0 then [] else a0I J4 log i m.2.1.length) ++ a0d J4 log l (i + 1)
def a1c (s : List Int) (l : List (Int × List Int × Int × Int × Int)) (J4 : List Int) (log : List (Int × List Int)) : List (Int × List Int) :=
 if G9 s l && a7N J4 then a0d J4 log l 0 else []
theorem b1o : ∀ {l : List Int} {a b : Int}, H6 ltB l = true → (∀ x ∈ l, a ≤ x ∧ x ≤ b) → a ≤ b + 1 → (l.length : Int) ≤ b - a + 1
 | [], _, _, _, _, _ => by simp; omega
 | [x], a, b, _, h, _ => by have := h x (by simp); simp; omega
 | x :: y :: l, a, b, hc, h, hab => by
  simp only [H6, ltB, Bool.and_eq_true, decide_eq_true_eq] at hc
  have hx := h x (by simp)
  have hge : ∀ z ∈ y :: l, x + 1 ≤ z := by
   have : ∀ {l : List Int} {y : Int}, H6 ltB (y :: l) = true → ∀ z ∈ y :: l, y ≤ z := by
    intro l
    induction l with
    | nil => intro y _ z hz; simp at hz; omega
    | cons u l ih =>
     intro y hc z hz
     simp only [H6, ltB, Bool.and_eq_true, decide_eq_true_eq] at hc
     rcases List.mem_cons.1 hz with rfl | hz
     ·omega
     ·have := ih hc.2 z hz; omega
   intro z hz
   have := this hc.2 z hz; omega
  have := b1o (l := y :: l) (a := x + 1) (b := b) hc.2 (fun z hz => ⟨hge z hz, (h z (by simp only [List.mem_cons] at hz ⊢; exact .inr hz)).2⟩) (by omega)
  simp only [List.length_cons] at this ⊢; omega
theorem b4F {s : List Int} {m : Int × List Int × Int × Int × Int} (h : S3 s m = true) : m.2.1.length ≤ 3 := by
 simp only [S3, a1j, a0l, Bool.and_eq_true, Bool.not_eq_true', List.any_eq_false] at h
 have h1 := a1e h.1
 have := b1o (a := 0) (b := at0 s m.1 - 1) h.2.1 (fun x hx => by have := h.2.2.1 x hx; simpa [inR] using this) (by simp only [at0]; omega)
 simp only [at0] at this; omega
theorem a0k {s : List Int} {l : List (Int × List Int × Int × Int × Int)} (h : G9 s l = true) : (∀ m ∈ l, m.2.1.length ≤ 3) ∧ l.length ≤ 5 := by
 simp only [G9, Bool.and_eq_true, Bool.not_eq_true', List.any_eq_false, decide_eq_true_eq] at h
 refine ⟨fun m hm => b4F (s := s) ?_, by omega⟩
 have := h.2.2 m hm
 simpa using this
theorem a8W {α : Type} {c : α → Nat} {n : Nat} : ∀ {l : List α}, (∀ x ∈ l, c x ≤ n) → r9 c l ≤ l.length * n
 | [], _ => by simp [r9]
 | x :: l, h => by
  have h1 := a8W (c := c) (n := n) (l := l) fun y hy => h y (by simp [hy])
  have h2 := h x (by simp)
  simp only [r9, List.map_cons, List.sum_cons, List.length_cons, Nat.succ_mul] at h1 ⊢; omega
end Go.Proofs.YtdopeopehgdccaaGreat

namespace Go.Proofs.YtdopeopehgdccaaGreat
set_option linter.unusedVariables false
def O4 {α : Type} (p : α → Bool) (f : α) : List α → List α
 | [] => []
 | x :: l => if p x then f :: x :: l else x :: O4 p f l
def X5 {α : Type} (has : Bool) (p : α → Bool) (f : α) (l : List α) : List α := if has then l else if l.any p then O4 p f l else l ++ [f]
section
variable {α : Type} {p q : α → Bool} {f : α}
theorem a0r : ∀ {l : List α}, l.any p = false → O4 p f l = l
 | [], _ => rfl
 | x :: l, h => by
  simp only [List.any_cons, Bool.or_eq_false_iff] at h
  simp [O4, h.1, a0r h.2]
theorem W5 : ∀ {l : List α} {y : α}, O4 p f (l ++ [y]) = if l.any p then O4 p f l ++ [y] else if p y then l ++ [f, y] else l ++ [y]
 | [], y => by simp [O4]
 | x :: l, y => by
  have h := W5 (l := l) (y := y)
  simp only [List.cons_append, O4, List.any_cons, h]
  cases p x <;> cases l.any p <;> cases p y <;> simp
theorem a6u : ∀ {l : List α}, (O4 p f l).length ≤ l.length + 1
 | [] => by simp [O4]
 | x :: l => by
  have := a6u (l := l)
  simp only [O4]; split <;> simp <;> omega
theorem a6d {h : Bool} {l : List α} : (X5 h p f l).length ≤ l.length + 1 := by
 have := a6u (p := p) (f := f) (l := l)
 unfold X5; split; omega; split; omega; simp
theorem b2O {h : Bool} {l : List α} {y : α} (hy : y ∈ X5 h p f l) : y ∈ l ∨ y = f := by
 have ins : ∀ {l : List α}, y ∈ O4 p f l → y ∈ l ∨ y = f := by
  intro l
  induction l with
  | nil => simp [O4]
  | cons x l ih =>
   intro h
   simp only [O4] at h
   split at h
   ·simp only [List.mem_cons] at h ⊢; rcases h with h | h | h <;> simp [h]
   ·simp only [List.mem_cons] at h ⊢
    rcases h with h | h
    ·simp [h]
    ·rcases ih h with h | h <;> simp [h]
 unfold X5 at hy
 split at hy
 ·exact .inl hy
 ·split at hy
  ·exact ins hy
  ·simpa using hy
theorem b2R {l : List α} (hpq : ∀ y ∈ l, p y = q y) : X5 false p f l = l.take (if H0 q l < 0 then l.length else (H0 q l).toNat) ++ f :: l.drop (if H0 q l < 0 then l.length else (H0 q l).toNat) := by
 have ha : l.any p = l.any q := by
  induction l with
  | nil => rfl
  | cons x l ih => simp [List.any_cons, hpq x (by simp), ih fun y hy => hpq y (by simp [hy])]
 unfold X5 H0
 rw [ha]
 by_cases h : l.any q = true
 ·simp only [h, if_true, Bool.false_eq_true, if_false]
  rw [if_neg (by omega), Int.toNat_natCast]
  clear ha
  induction l with
  | nil => simp at h
  | cons x l ih =>
   simp only [O4, List.findIdx_cons, hpq x (by simp)]
   cases hq : q x with
   | true => simp
   | false =>
    simp only [List.any_cons, hq, Bool.false_or] at h
    simp [ih (fun y hy => hpq y (by simp [hy])) h]
 ·simp [h]
end
def H9 (l : List Int) (x : Int) : Bool := l.any fun y => decide (y = x)
def M4 (l : List Int) (x : Int) : List Int := X5 (H9 l x) (fun y => decide (x < y)) x l
def V4 (l : List Int) : List Int := l.foldl M4 []
theorem b4a : ∀ {a b : List Int}, a.Pairwise (· < ·) → b.Pairwise (· < ·) → (∀ x, x ∈ a ↔ x ∈ b) → a = b
 | [], [], _, _, _ => rfl
 | [], y :: b, _, _, h => by have := (h y).2 (by simp); simp at this
 | x :: a, [], _, _, h => by have := (h x).1 (by simp); simp at this
 | x :: a, y :: b, ha, hb, h => by
  rw [List.pairwise_cons] at ha hb
  have e : x = y := by
   have h1 := (h x).1 (by simp)
   have h2 := (h y).2 (by simp)
   simp only [List.mem_cons] at h1 h2
   rcases h1 with h1 | h1
   ·exact h1
   ·rcases h2 with h2 | h2
    ·exact h2.symm
    ·have := hb.1 x h1; have := ha.1 y h2; omega
  subst e
  rw [b4a ha.2 hb.2 fun z => ?_]
  have := h z
  simp only [List.mem_cons] at this
  constructor
  ·intro hz
   rcases this.1 (.inr hz) with e | e
   ·have := ha.1 z hz; omega
   ·exact e
  ·intro hz
   rcases this.2 (.inr hz) with e | e
   ·have := hb.1 z hz; omega
   ·exact e
theorem b5F {l : List Int} {x : Int} (h : l.Pairwise (· < ·)) : (M4 l x).Pairwise (· < ·) ∧ ∀ y, y ∈ M4 l x ↔ y ∈ l ∨ y = x := by
 have ins : ∀ {l : List Int}, l.Pairwise (· < ·) → x ∉ l → (if (l.any fun y => decide (x < y)) then O4 (fun y => decide (x < y)) x l else l ++ [x]).Pairwise (· < ·) ∧ ∀ y, y ∈ (if (l.any fun y => decide (x < y)) then O4 (fun y => decide (x < y)) x l else l ++ [x]) ↔ y ∈ l ∨ y = x := by
  intro l
  induction l with
  | nil => intro _ _; simp
  | cons z l ih =>
   intro h hx
   rw [List.pairwise_cons] at h
   simp only [List.mem_cons, not_or] at hx
   have ih' := ih h.2 hx.2
   by_cases hz : x < z
   ·simp only [List.any_cons, hz, decide_true, Bool.true_or, if_true, O4]
    refine ⟨?_, fun y => by simp only [List.mem_cons]; constructor <;> (intro h; rcases h with h | h | h) <;> simp [h]⟩
    rw [List.pairwise_cons, List.pairwise_cons]
    refine ⟨fun y hy => ?_, h⟩
    simp only [List.mem_cons] at hy
    rcases hy with rfl | hy
    ·exact hz
    ·have := h.1 y hy; omega
   ·simp only [List.any_cons, hz, decide_false, Bool.false_or, O4, Bool.false_eq_true, if_false]
    have e : (if (l.any fun y => decide (x < y)) then z :: O4 (fun y => decide (x < y)) x l else z :: l ++ [x]) = z :: (if (l.any fun y => decide (x < y)) then O4 (fun y => decide (x < y)) x l else l ++ [x]) := by split <;> simp
    rw [e]
    refine ⟨?_, fun y => by rw [List.mem_cons, ih'.2 y, List.mem_cons, or_assoc]⟩
    rw [List.pairwise_cons]
    refine ⟨fun y hy => ?_, ih'.1⟩
    rcases (ih'.2 y).1 hy with hy | rfl
    ·exact h.1 y hy
    ·omega
 unfold M4 X5 H9
 by_cases hx : x ∈ l
 ·have : (l.any fun y => decide (y = x)) = true := List.any_eq_true.2 ⟨x, hx, by simp⟩
  rw [if_pos this]
  exact ⟨h, fun y => ⟨.inl, fun e => by rcases e with e | rfl; exact e; exact hx⟩⟩
 ·have : ¬ (l.any fun y => decide (y = x)) = true := fun e => by
   obtain ⟨y, hy, e⟩ := List.any_eq_true.1 e
   simp at e; subst e; exact hx hy
  rw [if_neg this]
  exact ins h hx
theorem a7o : ∀ {l s : List Int}, s.Pairwise (· < ·) → (l.foldl M4 s).Pairwise (· < ·) ∧ ∀ y, y ∈ l.foldl M4 s ↔ y ∈ s ∨ y ∈ l
 | [], s, h => ⟨h, by simp⟩
 | x :: l, s, h => by
  have h1 := b5F (x := x) h
  have h2 := a7o (l := l) h1.1
  refine ⟨h2.1, fun y => ?_⟩
  rw [List.foldl_cons, h2.2 y, h1.2 y, List.mem_cons, or_assoc]
theorem b6z {l : List Int} : (V4 l).Pairwise (· < ·) := (a7o .nil).1
theorem a6n {l : List Int} {y : Int} : y ∈ V4 l ↔ y ∈ l := by rw [V4, (a7o .nil).2 y]; simp
theorem b6c {l : List Int} : (V4 l).length ≤ l.length := by
 have : ∀ {l s : List Int}, (l.foldl M4 s).length ≤ s.length + l.length := by
  intro l
  induction l with
  | nil => intro s; simp
  | cons x l ih => intro s; have := ih (s := M4 s x); have h2 := a6d (h := H9 s x) (p := fun y => decide (x < y)) (f := x) (l := s); simp only [List.foldl_cons, List.length_cons]; unfold M4 at *; omega
 have h := this (l := l) (s := [])
 simpa [V4] using h
theorem b0F {d : List Int} (hd : d.Pairwise (· ≤ ·)) : (Lib.compact d).Pairwise (· < ·) ∧ ∀ y, y ∈ Lib.compact d ↔ y ∈ d := by
 have hle : ∀ i j, (hij : i ≤ j) → (hj : j < d.length) → d[i]'(by omega) ≤ d[j]'hj := by
  intro i j hij hj
  rcases Nat.lt_or_eq_of_le hij with h | h
  ·exact List.pairwise_iff_getElem.1 hd i j (by omega) hj h
  ·subst h; exact Int.le_refl _
 have hget : ∀ i, (h : i < d.length) → d.toArray[i]! = d[i] := by intro i h; simp [h]
 have key : ∀ m, m ≤ d.length → (Lib.compactUpTo d.toArray m).Pairwise (· < ·) ∧ ∀ y, y ∈ Lib.compactUpTo d.toArray m ↔ y ∈ d.take m := by
  intro m
  induction m with
  | zero => intro _; simp [Lib.compactUpTo]
  | succ m ih =>
   intro hm
   obtain ⟨h1, h2⟩ := ih (by omega)
   have hmem : ∀ y, y ∈ d.take (m + 1) ↔ y ∈ d.take m ∨ y = d[m] := by
    intro y; rw [List.take_succ_eq_append_getElem (show m < d.length by omega), List.mem_append, List.mem_singleton]
   rw [Lib.compactUpTo_succ, hget m (by omega)]
   by_cases hk : Lib.keeps d.toArray m = true
   ·rw [if_pos hk]
    refine ⟨List.pairwise_append.2 ⟨h1, by simp, fun a ha b hb => ?_⟩, fun y => by rw [List.mem_append, h2 y, hmem y]; simp⟩
    simp only [List.mem_singleton] at hb
    subst hb
    rw [h2 a, List.mem_take_iff_getElem] at ha
    obtain ⟨i, hi, rfl⟩ := ha
    have hi' : i < m := by omega
    have e1 := hle i (m - 1) (by omega) (by omega)
    have e2 := hle (m - 1) m (by omega) (by omega)
    have e3 : d[m - 1]'(by omega) ≠ d[m] := by
     intro e
     have := Lib.keeps_neg (d := d.toArray) (m := m) (by omega) (by rw [hget m (by omega), hget (m - 1) (by omega), e])
     rw [this] at hk; cases hk
    omega
   ·rw [if_neg hk, List.append_nil]
    refine ⟨h1, fun y => ?_⟩
    rw [h2 y, hmem y]
    refine ⟨.inl, fun h => h.elim id ?_⟩
    rintro rfl
    have h0 : 0 < m := by
     rcases Nat.eq_zero_or_pos m with e | e
     ·subst e; exact absurd (Lib.keeps_lt_one d.toArray 0 (by omega)) hk
     ·exact e
    have e3 : d[m - 1]'(by omega) = d[m] := by
     refine Classical.byContradiction fun e => hk (Lib.keeps_pos ?_)
     rw [hget m (by omega), hget (m - 1) (by omega)]
     exact fun e' => e e'.symm
    rw [List.mem_take_iff_getElem]
    exact ⟨m - 1, by omega, e3⟩
 have := key d.length (Nat.le_refl _)
 simpa [Lib.compact] using this
theorem a1D {l : List Int} : Lib.compact (l.mergeSort fun x y => decide (x ≤ y)) = V4 l := by
 have hs : (l.mergeSort fun x y => decide (x ≤ y)).Pairwise (· ≤ ·) := by
  have := List.pairwise_mergeSort (le := fun x y : Int => decide (x ≤ y)) (by intro a b c; simp only [decide_eq_true_eq]; omega) (by intro a b; simp only [Bool.or_eq_true, decide_eq_true_eq]; omega) l
  exact this.imp fun h => by simpa using h
 have h := b0F hs
 refine b4a h.1 b6z fun x => ?_
 rw [h.2 x, a6n]
 exact (List.mergeSort_perm l _).mem_iff
end Go.Proofs.YtdopeopehgdccaaGreat

namespace Go.Proofs.YtdopeopehgdccaaGreat
set_option linter.unusedVariables false
theorem b7j {P : Program} {f : FuncId} {args : List Value} {RR RR' : World → List Nat → Prop} {pre : List HP} {κ : Type} {φ : κ → Prop} {ret : κ → Value} {post : κ → List HP} (h : Tr P f args RR pre φ ret post) (hR : ∀ w L, RR' w L → RR w L) : Tr P f args RR' pre φ ret post :=
 ⟨h.1, fun w L hr hs hn => h.2 w L (hR w L hr) hs hn⟩
theorem a2Z {l m : List Int} : V4 (l ++ m) = m.foldl M4 (V4 l) := by unfold V4; rw [List.foldl_append]
theorem a3g {l : List Int} {x : Int} : V4 (l ++ [x]) = M4 (V4 l) x := by rw [a2Z]; rfl
theorem a6k {l : List Int} {x : Int} : H9 l x = true ↔ x ∈ l := by
 unfold H9
 rw [List.any_eq_true]
 constructor
 ·rintro ⟨y, hy, e⟩; simp at e; subst e; exact hy
 ·intro h; exact ⟨x, h, by simp⟩
def B5 (is : Int → Bool) (f5 : List (Int × List Int)) : List Int := V4 ((f5.flatMap fun a => a.2).filter is)
theorem a8u : ∀ {l : List (Int × List Int)}, (l.flatMap fun a => a.2).length = r9 (fun x => x.2.length) l
 | [] => rfl
 | a :: l => by simp only [List.flatMap_cons, List.length_append, a8u (l := l), r9, List.map_cons, List.sum_cons]
theorem b5m {is : Int → Bool} {f5 : List (Int × List Int)} {g : Nat} (hz : I9 (fun x => x.2.length) f5 ≤ 1048576) : (((f5.take g).flatMap fun a => a.2).filter is).length ≤ 1048576 := by
 have h1 := List.length_filter_le is ((f5.take g).flatMap fun a => a.2)
 have h2 := R3 (t := fun x : Int × List Int => x.2.length) (l := f5) (g := g)
 rw [a8u] at h1
 unfold I9 at hz; omega
theorem a9F {is : Int → Bool} {f5 : List (Int × List Int)} {g h : Nat} (hz : I9 (fun x => x.2.length) f5 ≤ 1048576) (hg : g < f5.length) : (((f5.take g).flatMap fun a => a.2).filter is ++ (f5[g].2.take h).filter is).length ≤ 1048576 := by
 have h1 := List.length_filter_le is ((f5.take g).flatMap fun a => a.2)
 have h2 := R3 (t := fun x : Int × List Int => x.2.length) (l := f5) (g := g + 1)
 have h3 := List.length_filter_le is (f5[g].2.take h)
 have h4 := List.length_take_le' h f5[g].2
 rw [P7 hg] at h2
 rw [a8u] at h1
 rw [List.length_append]
 unfold I9 at hz; omega
def V3 (t : Int) : Bool := inR t 0 9 || inR t 10 17
def J0 (s : List Int) (a : Int × List Int) : Bool := N6 s a.1 && (decide ((a.2.length : Int) = at0 s a.1) && !a.2.any fun t => !V3 t)
def a2N (q : List Int × List (Int × List Int)) : Bool := decide ((q.1.length : Int) ≤ 3) && !q.1.any fun t => !H9 (B5 (fun t => inR t 10 17) q.2) t
def I4 (s : List Int) (q : List Int × List (Int × List Int)) : Bool := U6 s && (inR (q.2.length : Int) 1 4 && ((!q.2.any fun a => !J0 s a) && a2N q))
def c0t (s : List Int) (u : List (List Int × List (Int × List Int))) (q : List Int × List (Int × List Int)) : Bool := !I4 s q || decide ((q.1.length : Int) ≠ ((u.getD 0 ([], [])).1.length : Int))
def b7l (s : List Int) (u : List (List Int × List (Int × List Int))) : Bool := inR (u.length : Int) 1 3 && !u.any (c0t s u)
def R2 (s : List Int) (g : (List Int × List (Int × List Int)) × List (Int × List Int)) : Bool :=
 I4 s g.1 && (decide ((g.2.length : Int) ≤ 4) && ((!g.2.any fun a => !J0 s a) && !(B5 (fun t => inR t 10 17) g.2).any fun t => !H9 (B5 (fun t => inR t 10 17) g.1.2) t))
theorem b7S {l : List Int} {p : Int → Bool} : (V4 l).any p = l.any p := by
 rw [Bool.eq_iff_iff, List.any_eq_true, List.any_eq_true]
 constructor
 ·rintro ⟨x, h, e⟩; exact ⟨x, a6n.1 h, e⟩
 ·rintro ⟨x, h, e⟩; exact ⟨x, a6n.2 h, e⟩
theorem b3D {s v : List Int} : ∀ {l : List (Int × List Int)}, (l.any fun a => !J0 s a || a.2.any fun t => inR t 10 17 && !H9 v t) = ((l.any fun a => !J0 s a) || (B5 (fun t => inR t 10 17) l).any fun t => !H9 v t) := by
 intro l
 rw [B5, b7S]
 induction l with
 | nil => rfl
 | cons a l ih =>
  have h : ∀ m : List Int, (m.filter fun t => inR t 10 17).any (fun t => !H9 v t) = m.any fun t => inR t 10 17 && !H9 v t := by
   intro m
   induction m with
   | nil => rfl
   | cons x m ih => simp only [List.filter_cons, List.any_cons, ← ih]; cases inR x 10 17 <;> simp
  simp only [List.any_cons, ih, List.flatMap_cons, List.filter_append, List.any_append, h]
  cases J0 s a <;> cases (a.2.any fun t => inR t 10 17 && !H9 v t) <;> cases (l.any fun a => !J0 s a) <;> simp
end Go.Proofs.YtdopeopehgdccaaGreat

namespace Go.Proofs.YtdopeopehgdccaaGreat
set_option linter.unusedVariables false
def ltF (a b : Int × List Int) : Bool := decide (R4 a b < 0)
def F0 (l : List (Int × List Int)) (f : Int × List Int) : List (Int × List Int) := X5 (K6 l f) (ltF f) f l
theorem b2g {a b : Int} : S1 a b = - S1 b a := by unfold S1; grind
theorem a8L : ∀ {l m : List Int}, I2 l m = - I2 m l
 | [], [] => by simp [I2]
 | [], _ :: _ => by simp [I2]
 | _ :: _, [] => by simp [I2]
 | a :: l, b :: m => by
  have h1 := b2g (a := a) (b := b)
  have h2 := a8L (l := l) (m := m)
  unfold I2; grind
theorem a8R {a b : Int × List Int} : R4 a b = - R4 b a := by
 have h1 := b2g (a := a.1) (b := b.1)
 have h2 := a8L (l := a.2) (m := b.2)
 unfold R4; grind
theorem a4z {l : List (Int × List Int)} {f : Int × List Int} (h : K6 l f = true) : F0 l f = l := by simp [F0, X5, h]
theorem a6q {l : List (Int × List Int)} {f : Int × List Int} (h : K6 l f = false) : F0 l f = l.take (if H0 (fun z => decide (0 < R4 z f)) l < 0 then l.length else (H0 (fun z => decide (0 < R4 z f)) l).toNat) ++ f :: l.drop (if H0 (fun z => decide (0 < R4 z f)) l < 0 then l.length else (H0 (fun z => decide (0 < R4 z f)) l).toNat) := by
 rw [F0, h]
 refine b2R fun y _ => ?_
 have := a8R (a := f) (b := y)
 rw [ltF, decide_eq_decide]; omega
theorem a0O {α : Type} {p : α → Bool} {s : List α} : H0 p s ≤ s.length ∧ -1 ≤ H0 p s := by
 unfold H0
 split
 ·have := List.findIdx_le_length (p := p) (xs := s); omega
 ·omega
def O5 {α : Type} (h : Bool) (p : α → Bool) (f : α) (l : List α) : List α := if h then l else O4 p f l
theorem a8V {α : Type} {h : Bool} {p : α → Bool} {f : α} {l : List α} : (O5 h p f l).length ≤ l.length + 1 := by
 have := a6u (p := p) (f := f) (l := l)
 unfold O5; split <;> omega
theorem H1 {α : Type} {h : Bool} {p : α → Bool} {f : α} : O5 h p f [] = [] := by unfold O5; cases h <;> rfl
theorem F8 {α : Type} {h : Bool} {p : α → Bool} {f : α} {l : List α} {y : α} : O5 h p f (l ++ [y]) = if (h || l.any p) = true then O5 h p f l ++ [y] else if p y = true then O5 h p f l ++ [f, y] else O5 h p f l ++ [y] := by
 unfold O5
 cases h
 ·simp only [Bool.false_eq_true, if_false, Bool.false_or, W5]
  cases ha : l.any p
  ·simp [a0r ha]
  ·simp
 ·simp
theorem F9 {α : Type} {h : Bool} {p : α → Bool} {f : α} {l : List α} : X5 h p f l = if (h || l.any p) = true then O5 h p f l else O5 h p f l ++ [f] := by
 unfold O5 X5
 cases h
 ·cases ha : l.any p
  ·simp [a0r ha]
  ·simp
 ·simp
theorem H3 {α : Type} {p : α → Bool} {l : List α} {g : Nat} (h : g < l.length) : (l.take (g + 1)).any p = ((l.take g).any p || p l[g]) := by
 rw [List.take_succ_eq_append_getElem h, List.any_append]; simp
theorem W3 {f : Int × List Int} {a : Int} {b : List Int} : ltF f (a, b) = decide (R4 f (a, b) < 0) := rfl
def a1X (s : List Int) (l : List (Int × List Int)) (g : Nat) : Bool := (l.drop g).all (J2 s) && H6 ltF (l.drop (g - 1))
def F2 (s : List Int) (l : List (Int × List Int)) : Bool := a1X s l 0 && (U6 s && decide ((l.length : Int) ≤ 24))
def b9t (d8 : List (Int × List Int)) (f : Int × List Int) (out : List (Int × List Int)) (r : Int × Int × List Int) : List (Int × List Int) :=
 if f.1 = r.1 then (if K6 d8 (r.2.1, a2W r.2.2 f.2) then out else F0 out (r.2.1, a2W r.2.2 f.2)) else out
def b9p (l : List (Int × Int × List Int)) (d8 : List (Int × List Int)) (out : List (Int × List Int)) (f : Int × List Int) : List (Int × List Int) := l.foldl (b9t d8 f) out
def b4J (l : List (Int × Int × List Int)) (d8 : List (Int × List Int)) : List (Int × List Int) := d8.foldl (b9p l d8) []
end Go.Proofs.YtdopeopehgdccaaGreat

namespace Go.Proofs.YtdopeopehgdccaaGreat
set_option linter.unusedVariables false
set_option linter.unusedSimpArgs false
theorem I3 {s : List Int} {l : List (Int × List Int)} (h : F2 s l = true) : l.length ≤ 24 ∧ ∀ f ∈ l, J2 s f = true := by
 simp only [F2, a1X, List.drop_zero, Bool.and_eq_true, decide_eq_true_eq, List.all_eq_true] at h
 exact ⟨by omega, h.1.1⟩
theorem U2 {s : List Int} {f : Int × List Int} (h : J2 s f = true) : f.2.length ≤ 3 := by
 simp only [J2, Bool.and_eq_true, decide_eq_true_eq] at h
 have := a1e h.1
 simp only [at0] at h; omega
theorem b4R {v : List Int} (h : U5 v = true) : ∀ x ∈ v, 0 ≤ x ∧ x ≤ 9 := by
 simp only [U5, Bool.not_eq_true', List.any_eq_false, Bool.not_eq_true] at h
 intro x hx
 have := h x hx
 simp [inR] at this; omega
theorem b5k {v : List Int} (h : ∀ x ∈ v, 0 ≤ x ∧ x ≤ 9) : U5 v = true := by
 simp only [U5, Bool.not_eq_true', List.any_eq_false, Bool.not_eq_true]
 intro x hx
 have := h x hx
 simp [inR]; omega
def c1j (s : List Int) (l : List (Int × Int × List Int)) (d8 : List (Int × List Int)) : List (Int × List Int) := if a5K s l && F2 s d8 then b4J l d8 else []
def a7R (l : List (Int × Int × List Int)) (d8 : List (Int × List Int)) : Nat → List (Int × List Int)
 | 0 => d8
 | n + 1 => (b4J l (a7R l d8 n)).foldl F0 (a7R l d8 n)
def b8S (l : List (Int × Int × List Int)) (d8 : List (Int × List Int)) : List (Int × List Int) := a7R l d8 6001
theorem a6j : ∀ {n : Nat} {l : List Nat}, l.Nodup → (∀ x ∈ l, x < n) → l.length ≤ n
 | 0, l, _, h => by
  cases l with
  | nil => simp
  | cons x l => exact absurd (h x (by simp)) (by omega)
 | n + 1, l, hd, h => by
  by_cases hm : n ∈ l
  ·have h1 := a6j (n := n) (l := l.erase n) (hd.erase n) fun x hx => by
    have h2 := (hd.mem_erase_iff).1 hx
    have := h x h2.2; omega
   rw [List.length_erase_of_mem hm] at h1; omega
  ·have h1 := a6j (n := n) (l := l) hd fun x hx => by
    have h2 := h x hx
    have : x ≠ n := fun e => hm (e ▸ hx)
    omega
   omega
def a4b : List Int → Nat
 | [] => 0
 | v :: l => (v.toNat + 1) + 11 * a4b l
theorem b1h : ∀ {a b : List Int}, (∀ x ∈ a, 0 ≤ x ∧ x ≤ 9) → (∀ x ∈ b, 0 ≤ x ∧ x ≤ 9) → a4b a = a4b b → a = b
 | [], [], _, _, _ => rfl
 | [], y :: b, _, _, h => by simp [a4b] at h; omega
 | x :: a, [], _, _, h => by simp [a4b] at h
 | x :: a, y :: b, ha, hb, h => by
  have h1 := ha x (by simp)
  have h2 := hb y (by simp)
  simp only [a4b] at h
  rw [b1h (a := a) (b := b) (fun z hz => ha z (by simp [hz])) (fun z hz => hb z (by simp [hz])) (by omega), show x = y by omega]
theorem b2i : ∀ {n : Nat} {a : List Int}, (∀ x ∈ a, 0 ≤ x ∧ x ≤ 9) → a.length ≤ n → a4b a < 11 ^ n
 | n, [], _, _ => by simp [a4b]; exact Nat.pow_pos (by decide)
 | 0, x :: a, _, h => by simp at h
 | n + 1, x :: a, ha, h => by
  have h1 := b2i (n := n) (a := a) (fun z hz => ha z (by simp [hz])) (by simpa using h)
  have h2 := ha x (by simp)
  simp only [a4b, Nat.pow_succ]; omega
def b4x (f : Int × List Int) : Nat := f.1.toNat + 4 * a4b f.2
theorem a6s {s : List Int} {f : Int × List Int} (h : J2 s f = true) : 0 ≤ f.1 ∧ f.1 < 4 := by
 simp only [J2, Bool.and_eq_true, decide_eq_true_eq] at h
 have h1 := a1e h.1
 have h2 := h.1
 simp only [N6, U6, inR, Bool.and_eq_true, decide_eq_true_eq] at h2
 omega
theorem a1y {s : List Int} {f : Int × List Int} (h : J2 s f = true) : ∀ x ∈ f.2, 0 ≤ x ∧ x ≤ 9 := by
 simp only [J2, Bool.and_eq_true] at h
 exact b4R h.2.2
theorem b1g {s : List Int} {D : List (Int × List Int)} (hd : D.Nodup) (h : ∀ f ∈ D, J2 s f = true) : D.length ≤ 5324 := by
 have h1 : (D.map b4x).Nodup := by
  unfold List.Nodup at hd ⊢
  rw [List.pairwise_map]
  refine List.Pairwise.imp_of_mem (fun {a b} ha hb hab e => hab ?_) hd
  have ra := a6s (h a ha)
  have rb := a6s (h b hb)
  simp only [b4x] at e
  have e2 := b1h (a1y (h a ha)) (a1y (h b hb)) (by omega)
  exact Prod.ext (by omega) e2
 have h2 := a6j (n := 5324) h1 fun x hx => by
  obtain ⟨f, hf, rfl⟩ := List.mem_map.1 hx
  have r := a6s (h f hf)
  have c := b2i (n := 3) (a1y (h f hf)) (U2 (h f hf))
  unfold b4x; omega
 simpa using h2
theorem b2m {α : Type} {p : α → Bool} {f y : α} : ∀ {l : List α}, y ∈ l → y ∈ O4 p f l
 | x :: l, h => by
  simp only [O4]
  simp only [List.mem_cons] at h
  split
  ·simp [h]
  ·rcases h with h | h
   ·simp [h]
   ·simp [b2m h]
theorem b1b {α : Type} {p : α → Bool} {f : α} : ∀ {l : List α}, l.any p = true → f ∈ O4 p f l
 | x :: l, h => by
  simp only [O4]
  split
  ·simp
  ·rename_i h1
   simp only [List.any_cons, h1, Bool.false_or] at h
   simp [b1b h]
theorem b2s {l : List (Int × List Int)} {f y : Int × List Int} (h : y ∈ l) : y ∈ F0 l f := by
 unfold F0 X5
 split
 ·exact h
 ·split
  ·exact b2m h
  ·simp [h]
theorem a8E {l : List (Int × List Int)} {f : Int × List Int} : K6 l f = true ↔ f ∈ l := by
 unfold K6
 rw [List.any_eq_true]
 constructor
 ·rintro ⟨x, hx, e⟩
  rw [decide_eq_true_eq, a4e] at e
  exact e ▸ hx
 ·intro h
  exact ⟨f, h, by rw [decide_eq_true_eq, a4e]⟩
theorem b5n {l : List (Int × List Int)} {f : Int × List Int} (h : K6 l f = false) : f ∈ F0 l f := by
 unfold F0 X5
 rw [h]
 simp only [Bool.false_eq_true, if_false]
 split
 ·rename_i h1; exact b1b h1
 ·simp
def c0w (s : List Int) (x D : List (Int × List Int)) : Prop := D.Nodup ∧ (∀ f ∈ D, f ∈ x) ∧ x.length ≤ 24 + D.length ∧ ∀ f ∈ x, J2 s f = true
def c1G (l : List (Int × Int × List Int)) (d8 : List (Int × List Int)) (n : Nat) : Prop := ∃ s, a5K s l = true ∧ ∃ D, c0w s (a7R l d8 n) D ∧ n ≤ D.length
theorem b6J {m x : List (Int × List Int)} : (m.foldl F0 x).length ≤ x.length + m.length := by
 induction m generalizing x with
 | nil => simp
 | cons f m ih =>
  have h1 := ih (x := F0 x f)
  have h2 := a6d (h := K6 x f) (p := ltF f) (f := f) (l := x)
  simp only [List.foldl_cons, List.length_cons]
  unfold F0 at h1 ⊢; omega
def c0Y (s : List Int) (l : List (Int × Int × List Int)) (d8 : List (Int × List Int)) : List (Int × List Int) := if a5K s l && F2 s d8 then b8S l d8 else []
end Go.Proofs.YtdopeopehgdccaaGreat

namespace Go.Proofs.YtdopeopehgdccaaGreat
set_option linter.unusedVariables false
set_option linter.unusedSimpArgs false
def unb (b : List Int × List Int) (t : Int) : Bool := !(b.1.take (min b.1.length b.2.length)).any fun x => decide (x = t)
theorem b0i {α : Type} {p : α → Bool} {s : List α} : H0 p s < 0 ↔ s.any p = false := by
 unfold H0
 by_cases h : s.any p = true
 ·rw [if_pos h]; simp [h]
 ·rw [if_neg h]; simp at h; simp; exact h
theorem C5 {b : List Int × List Int} {t : Int} : unb b t = decide (H0 (fun x => decide (x = t)) (b.1.take (min b.1.length b.2.length)) < 0) := by
 rw [unb, Bool.eq_iff_iff, decide_eq_true_eq, b0i]; simp
theorem a3z {V W : List Int} {p : Int → Bool} {g : Nat} (h : g < V.length) (h2 : g < W.length) : ((V.take (min V.length W.length)).drop g).any p = (p V[g] || ((V.take (min V.length W.length)).drop (g + 1)).any p) := by
 rw [List.drop_eq_getElem_cons (by simp; omega)]
 simp
theorem a5u {V W : List Int} {p : Int → Bool} {g : Nat} (h : ¬ (g < V.length ∧ g < W.length)) : ((V.take (min V.length W.length)).drop g).any p = false := by
 rw [List.drop_eq_nil_of_le (by simp; omega)]; rfl
def F4 (x : List Int × List Int) (t v : Int) : List Int × List Int := if inR t 10 17 && unb x t then (x.1 ++ [t], x.2 ++ [v]) else x
def E3 (b : List Int × List Int) (l : List (Int × Int)) : List Int × List Int := l.foldl (fun x p => F4 x p.1 p.2) b
def okV (b : List Int × List Int) : List (Int × Int) → Bool
 | [] => true
 | p :: l => decide (F3 (F4 b p.1 p.2) p.1 = p.2) && okV (F4 b p.1 p.2) l
def s9 (b : List Int × List Int) (a f : Int × List Int) : Bool := decide (a.1 = f.1) && (decide (a.2.length = f.2.length) && (decide (b.1.length = b.2.length) && okV b (a.2.zip f.2)))
def w3 (b : List Int × List Int) (a f : Int × List Int) : List Int × List Int := E3 b (a.2.zip f.2)
theorem C3 {b : List Int × List Int} {t v : List Int} {g : Nat} (h : g < t.length) (h2 : g < v.length) : E3 b ((t.zip v).take (g + 1)) = F4 (E3 b ((t.zip v).take g)) t[g] v[g] := by
 unfold E3
 rw [List.take_succ_eq_append_getElem (by simp; omega), List.foldl_append]
 simp
theorem z8 {b : List Int × List Int} {t v : List Int} {g : Nat} (h : g < t.length) (h2 : g < v.length) : okV b ((t.zip v).drop g) = (decide (F3 (F4 b t[g] v[g]) t[g] = v[g]) && okV (F4 b t[g] v[g]) ((t.zip v).drop (g + 1))) := by
 rw [List.drop_eq_getElem_cons (by simp; omega)]
 simp [okV]
theorem C4 {b : List Int × List Int} {t v : List Int} {g : Nat} (h : t.length ≤ g) : okV b ((t.zip v).drop g) = true := by
 rw [List.drop_eq_nil_of_le (by simp; omega)]; rfl
theorem E7 {b : List Int × List Int} {t v : List Int} {g : Nat} (h : t.length ≤ g) : E3 b ((t.zip v).take g) = E3 b (t.zip v) := by
 rw [List.take_of_length_le (by simp; omega)]
theorem b2D {x : List Int × List Int} {t v : Int} : (F4 x t v).1.length ≤ x.1.length + 1 ∧ (F4 x t v).2.length ≤ x.2.length + 1 := by
 unfold F4; split <;> simp
theorem b3P {x : List Int × List Int} {t v : Int} (h : x.1.length = x.2.length) : (F4 x t v).1.length = (F4 x t v).2.length := by
 unfold F4; split <;> simp [h]
theorem a7w : ∀ {l : List (Int × Int)} {x : List Int × List Int}, (E3 x l).1.length ≤ x.1.length + l.length ∧ (E3 x l).2.length ≤ x.2.length + l.length
 | [], x => by simp [E3]
 | p :: l, x => by
  have h1 := a7w (l := l) (x := F4 x p.1 p.2)
  have h2 := b2D (x := x) (t := p.1) (v := p.2)
  simp only [E3, List.foldl_cons, List.length_cons] at h1 ⊢; omega
theorem a9f : ∀ {l : List (Int × Int)} {x : List Int × List Int}, x.1.length = x.2.length → (E3 x l).1.length = (E3 x l).2.length
 | [], x, h => h
 | p :: l, x, h => by
  have := a9f (l := l) (b3P (t := p.1) (v := p.2) h)
  simpa only [E3, List.foldl_cons] using this
theorem b5b {b : List Int × List Int} {t v : List Int} {g : Nat} : (E3 b ((t.zip v).take g)).1.length ≤ b.1.length + t.length ∧ (E3 b ((t.zip v).take g)).2.length ≤ b.2.length + t.length := by
 have h := a7w (l := (t.zip v).take g) (x := b)
 have h2 : ((t.zip v).take g).length ≤ t.length := by simp; omega
 omega
theorem b7s {x : List Int × List Int} {t v : Int} (h : x.1.length = x.2.length) (h1 : inR t 10 17 = true) (h2 : unb x t = true) : F3 (x.1 ++ [t], x.2 ++ [v]) t = v := by
 have e := b3j (b := (x.1 ++ [t], x.2 ++ [v])) (t := t) (g := x.1.length) h1 (by simp) (by simp [h]) (by simp) (by
  intro y hy
  simp only [unb, h, Nat.min_self, Bool.not_eq_true', List.any_eq_false] at h2
  rw [List.take_append_of_le_length (Nat.le_refl _), List.take_length] at hy
  have := h2 y (by rw [← h, List.take_length]; exact hy)
  simpa using this)
 rw [← e]
 simp [h]
theorem b8P {x : List Int × List Int} {t v : Int} (h : (inR t 10 17 && unb x t) = false) : F4 x t v = x := by unfold F4; rw [h]; simp
theorem b7q {x : List Int × List Int} {t v : Int} (h : (inR t 10 17 && unb x t) = true) : F4 x t v = (x.1 ++ [t], x.2 ++ [v]) := by unfold F4; rw [h]; simp
theorem O8 {x : List Int × List Int} {t v : Int} (h : x.1.length = x.2.length) : decide (F3 (F4 x t v) t = v) = (inR t 10 17 && unb x t || decide (F3 x t = v)) := by
 cases hc : inR t 10 17 && unb x t with
 | false => rw [b8P hc]; simp
 | true =>
  rw [b7q hc]
  rw [Bool.and_eq_true] at hc
  rw [b7s h hc.1 hc.2]; simp
def Q7 (b : List Int × List Int) (a : Int × List Int) (d8 : List (Int × List Int)) : List (List Int × List Int) := (d8.filter (s9 b a)).map (w3 b a)
def G2 (l : List (List Int × List Int)) (a : Int × List Int) (d8 : List (Int × List Int)) : List (List Int × List Int) := l.flatMap fun b => Q7 b a d8
theorem a0C {b : List Int × List Int} {a : Int × List Int} : Q7 b a [] = [] := rfl
theorem Y6 {b : List Int × List Int} {a f : Int × List Int} {l : List (Int × List Int)} : Q7 b a (l ++ [f]) = if s9 b a f then Q7 b a l ++ [w3 b a f] else Q7 b a l := by
 unfold Q7
 cases h : s9 b a f <;> simp [List.filter_append, h]
theorem a0B {a : Int × List Int} {d8 : List (Int × List Int)} : G2 [] a d8 = [] := rfl
theorem Y4 {l : List (List Int × List Int)} {b : List Int × List Int} {a : Int × List Int} {d8 : List (Int × List Int)} : G2 (l ++ [b]) a d8 = G2 l a d8 ++ Q7 b a d8 := by
 simp [G2]
theorem a4w {b : List Int × List Int} {a : Int × List Int} {d8 : List (Int × List Int)} : (Q7 b a d8).length ≤ d8.length := by
 unfold Q7; rw [List.length_map]; exact List.length_filter_le _ _
theorem b3k {a : Int × List Int} {d8 : List (Int × List Int)} : ∀ {l : List (List Int × List Int)}, (G2 l a d8).length ≤ l.length * d8.length
 | [] => by simp [G2]
 | b :: l => by
  have h1 := b3k (a := a) (d8 := d8) (l := l)
  have h2 := a4w (b := b) (a := a) (d8 := d8)
  simp only [G2, List.flatMap_cons, List.length_append, List.length_cons, Nat.succ_mul] at h1 ⊢; omega
theorem b2L {n k : Nat} {a : Int × List Int} {d8 : List (Int × List Int)} {l : List (List Int × List Int)} (ha : a.2.length ≤ k) (h : ∀ b ∈ l, b.1.length ≤ n ∧ b.2.length ≤ n) : ∀ b ∈ G2 l a d8, b.1.length ≤ n + k ∧ b.2.length ≤ n + k := by
 intro b hb
 simp only [G2, Q7, List.mem_flatMap, List.mem_map] at hb
 obtain ⟨x, hx, f, _, rfl⟩ := hb
 have h1 := h x hx
 have h2 := a7w (l := a.2.zip f.2) (x := x)
 have h3 : (a.2.zip f.2).length ≤ a.2.length := by simp; omega
 unfold w3; omega
def I0 (f5 : List (Int × List Int)) (d8 : List (Int × List Int)) : List (List Int × List Int) := f5.foldl (fun l a => G2 l a d8) [([], [])]
theorem a1P {d8 : List (Int × List Int)} : I0 [] d8 = [([], [])] := rfl
theorem a1t {f5 d8 : List (Int × List Int)} {a : Int × List Int} : I0 (f5 ++ [a]) d8 = G2 (I0 f5 d8) a d8 := by
 simp [I0]
theorem b1j {d8 : List (Int × List Int)} (hf : d8.length ≤ 24) : ∀ {n : Nat} {f5 : List (Int × List Int)}, f5.length = n → (∀ a ∈ f5, a.2.length ≤ 3) → (I0 f5 d8).length ≤ 24 ^ n ∧ ∀ b ∈ I0 f5 d8, b.1.length ≤ 3 * n ∧ b.2.length ≤ 3 * n
 | 0, f5, hn, _ => by
  obtain rfl := List.length_eq_zero_iff.1 hn
  simp [a1P]
 | n + 1, f5, hn, h => by
  have h0 : f5 ≠ [] := by intro e; subst e; simp at hn
  rw [← List.dropLast_concat_getLast h0] at hn h ⊢
  rw [List.length_append] at hn
  have ih := b1j hf (n := n) (f5 := f5.dropLast) (by simpa using hn) (fun a ha => h a (by simp [ha]))
  rw [a1t]
  have h1 := b3k (a := f5.getLast h0) (d8 := d8) (l := I0 f5.dropLast d8)
  have h2 := Nat.mul_le_mul ih.1 hf
  have h3 := b2L (d8 := d8) (h (f5.getLast h0) (by simp)) ih.2
  exact ⟨by rw [Nat.pow_succ]; omega, fun b hb => by have := h3 b hb; omega⟩
theorem b6b {d8 f5 : List (Int × List Int)} (hf : d8.length ≤ 24) (hn : f5.length ≤ 4) (h : ∀ a ∈ f5, a.2.length ≤ 3) : (I0 f5 d8).length ≤ 331776 ∧ ∀ b ∈ I0 f5 d8, b.1.length ≤ 12 ∧ b.2.length ≤ 12 := by
 have h1 := b1j hf rfl h
 have h2 : 24 ^ f5.length ≤ 24 ^ 4 := Nat.pow_le_pow_right (by decide) hn
 exact ⟨by omega, fun b hb => by have := h1.2 b hb; omega⟩
def U3 (l : List (List Int)) (t : List Int) : Bool := l.any fun x => decide (x = t)
def ltT (a b : List Int) : Bool := decide (I2 a b < 0)
def S5 (l : List (List Int)) (t : List Int) : List (List Int) := X5 (U3 l t) (ltT t) t l
theorem a8I {l : List (List Int)} {t : List Int} (h : U3 l t = true) : S5 l t = l := by simp [S5, X5, h]
theorem a8t {l : List (List Int)} {f : List Int} (h : U3 l f = false) : S5 l f = l.take (if H0 (fun z => decide (0 < I2 z f)) l < 0 then l.length else (H0 (fun z => decide (0 < I2 z f)) l).toNat) ++ f :: l.drop (if H0 (fun z => decide (0 < I2 z f)) l < 0 then l.length else (H0 (fun z => decide (0 < I2 z f)) l).toNat) := by
 rw [S5, h]
 refine b2R fun y _ => ?_
 have := a8L (l := f) (m := y)
 rw [ltT, decide_eq_decide]; omega
theorem b6n {l : List (List Int)} {t : List Int} : (S5 l t).length ≤ l.length + 1 := a6d
def S0 (h : List Int) (l : List (List Int × List Int)) : List (List Int) := l.foldl (fun out b => S5 out (h.map (F3 b))) []
theorem a3k {h : List Int} : S0 h [] = [] := rfl
theorem a2v {h : List Int} {l : List (List Int × List Int)} {b : List Int × List Int} : S0 h (l ++ [b]) = S5 (S0 h l) (h.map (F3 b)) := by simp [S0]
theorem a9e {h : List Int} : ∀ {l : List (List Int × List Int)} {out : List (List Int)}, (l.foldl (fun out b => S5 out (h.map (F3 b))) out).length ≤ out.length + l.length ∧ ((∀ t ∈ out, t.length ≤ h.length) → ∀ t ∈ l.foldl (fun out b => S5 out (h.map (F3 b))) out, t.length ≤ h.length)
 | [], out => by simp
 | b :: l, out => by
  have h1 := a9e (h := h) (l := l) (out := S5 out (h.map (F3 b)))
  have h2 := b6n (l := out) (t := h.map (F3 b))
  refine ⟨by simp only [List.foldl_cons, List.length_cons]; omega, fun ho => h1.2 fun t ht => ?_⟩
  rcases b2O ht with ht | rfl
  ·exact ho t ht
  ·simp
theorem b0p {h : List Int} {l : List (List Int × List Int)} : (S0 h l).length ≤ l.length := by have := (a9e (h := h) (l := l) (out := [])).1; simpa [S0] using this
theorem b2o {h : List Int} {l : List (List Int × List Int)} : ∀ t ∈ S0 h l, t.length ≤ h.length := (a9e (h := h) (l := l) (out := [])).2 (by simp)
theorem a0P {s : List Int} {q : List Int × List (Int × List Int)} (h : I4 s q = true) : q.2.length ≤ 4 ∧ q.1.length ≤ 3 ∧ ∀ a ∈ q.2, a.2.length ≤ 3 := by
 simp only [I4, a2N, inR, Bool.and_eq_true, decide_eq_true_eq, Bool.not_eq_true', List.any_eq_false, Bool.not_eq_true] at h
 refine ⟨by omega, by omega, fun a ha => ?_⟩
 have h1 := h.2.2.1 a ha
 have h1 : J0 s a = true := by simpa using h1
 simp only [J0, Bool.and_eq_true, decide_eq_true_eq] at h1
 have := a1e h1.1
 simp only [at0] at h1; omega
def b8o (s : List Int) (q : List Int × List (Int × List Int)) (d8 : List (Int × List Int)) : List (List Int) := if I4 s q && F2 s d8 then S0 q.1 (I0 q.2 d8) else []
theorem b4G {n : Nat} {l : List (List Int)} (h : ∀ t ∈ l, t.length ≤ 3) (hn : l.length ≤ n) : r9 O9 l ≤ n * 3 := by
 have h5 := a8W (c := O9) (n := 3) (l := l) fun a ha => by
  have := h a ha
  simp only [O9, a3s]; omega
 omega
end Go.Proofs.YtdopeopehgdccaaGreat

namespace Go.Proofs.YtdopeopehgdccaaGreat
set_option linter.unusedVariables false
set_option linter.unusedSimpArgs false
def nxt (u : List Int) : Nat → Nat → Nat
 | 0, v => v
 | n + 1, v => if H9 u (v : Int) then nxt u n (v + 1) else v
def b4y (u : List Int) (v : Nat) : Nat := nxt u 11 v
def fzN (u : List Int) : Nat → Nat
 | 0 => 0
 | g + 1 => b4y u (fzN u g) + 1
def b9v (u : List Int) (n : Nat) : Bool := (List.range n).all fun i => decide (b4y u (fzN u i) ≤ 9)
def b8J (u : List Int) (n : Nat) : List Int := (List.range n).map fun i => (b4y u (fzN u i) : Int)
def b0a (f5 : List (Int × List Int)) : List Int := B5 (fun t => inR t 10 17) f5
def c1p (f5 : List (Int × List Int)) : List Int := B5 (fun t => inR t 0 9) f5
def c0o (f5 : List (Int × List Int)) (b : List Int × List Int) : List (Int × List Int) := f5.foldl (fun out a => F0 out (S9 a b)) []
def fzB (u : List Int) (f5 : List (Int × List Int)) : Bool := b9v u (b0a f5).length
def fzV (u : List Int) (f5 : List (Int × List Int)) : List Int := cond (fzB u f5) (b0a f5) []
def fzX (u : List Int) (f5 : List (Int × List Int)) : List Int := cond (fzB u f5) (b8J u (b0a f5).length) []
def fzF (u : List Int) (f5 : List (Int × List Int)) : List (Int × List Int) := cond (fzB u f5) (c0o f5 (b0a f5, b8J u (b0a f5).length)) []
end Go.Proofs.YtdopeopehgdccaaGreat
