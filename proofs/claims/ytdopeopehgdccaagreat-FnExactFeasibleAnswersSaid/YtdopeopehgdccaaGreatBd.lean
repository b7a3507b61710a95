import Derived.Test.YtdopeopehgdccaaGreatBc
import Derived.Test.YtdopeopehgdccaaGreatBb
import Derived.Lib.SlicesCompact
namespace Go.Proofs.YtdopeopehgdccaaGreat
open Go.RowKit
set_option linter.unusedVariables false
/-- g, with what it has captured, says p of every two elements, in every later world -/
def FnP2 {α : Type} (P : Program) (w : World) (L : List Nat) (g : FuncId) (caps : List Value) (E : Enc α) (val : List Value → Value) (p : α → α → Bool) : Prop :=
  a4N P g ∧ ∀ w', Keep w L w' → ∀ cs x ds y, Ro w' [] E cs x → Ro w' [] E ds y → Calls P g (val cs :: val ds :: caps).toArray w' fun e w'' => e = .returned (.bool (p x y)) ∧ Ext w' w''
section
variable {P : Program} {α : Type} {E : Enc α} {w w0 : World} {L L0 Lp : List Nat} {pre rest : List HP} {g : FuncId} {caps : List Value} {val : List Value → Value} {p : α → α → Bool}
end
section
variable {P : Program} {Q : Exit → Act → World → Prop} {n : Nat} {w0 : World} {L0 : List Nat} {fr : Fr} {H : List HP} {d : Nat} {ty : TypeId} {pos : String} {af : Array Edge} {g : Option (Nat × Bool)}
end
section
variable {P : Program} {w : World} {L : List Nat} {g : FuncId} {caps : List Value} {RR : World → List Nat → Prop}
theorem FnP2.ofFact {p : (Int × List Int) → (Int × List Int) → Bool} (tr : ∀ {x0 : Int} {ax1 : Option Addr} {mx1 cx1 : Nat} {x1 : List Int} {y0 : Int} {ay1 : Option Addr} {my1 cy1 : Nat} {y1 : List Int}, Tr P g (.agg #[.int .i64 x0, .slice ax1 mx1 cx1] :: .agg #[.int .i64 y0, .slice ay1 my1 cy1] :: caps) (fun w L => (I64 x0 ∧ Ro w L eIs [.slice ax1 mx1 cx1] x1 ∧ I64 y0 ∧ Ro w L eIs [.slice ay1 my1 cy1] y1) ∧ RR w L) [] (κ := Unit) (fun _ => True) (fun _ => .bool (p (x0, x1) (y0, y1))) (fun _ => [])) (hR : ∀ w', Keep w L w' → RR w' []) : FnP2 P w L g caps B8 a0S p :=
  ⟨(tr (x0 := 0) (x1 := []) (ax1 := none) (mx1 := 0) (cx1 := 0) (y0 := 0) (y1 := []) (ay1 := none) (my1 := 0) (cy1 := 0)).1, fun w' k cs x ds y hx hy => by obtain ⟨a0, c0, rfl, h0, h1⟩ := Ro.pFact hx; obtain ⟨b0, e0, rfl, k0, k1⟩ := Ro.pFact hy; exact Tr.bool tr ⟨⟨h0, h1, k0, k1⟩, hR w' k⟩⟩
theorem FnP2.ofAccess {p : (Int × List Int) → (Int × List Int) → Bool} (tr : ∀ {x0 : Int} {ax1 : Option Addr} {mx1 cx1 : Nat} {x1 : List Int} {y0 : Int} {ay1 : Option Addr} {my1 cy1 : Nat} {y1 : List Int}, Tr P g (.agg #[.int .i64 x0, .slice ax1 mx1 cx1] :: .agg #[.int .i64 y0, .slice ay1 my1 cy1] :: caps) (fun w L => (I64 x0 ∧ Ro w L eIs [.slice ax1 mx1 cx1] x1 ∧ I64 y0 ∧ Ro w L eIs [.slice ay1 my1 cy1] y1) ∧ RR w L) [] (κ := Unit) (fun _ => True) (fun _ => .bool (p (x0, x1) (y0, y1))) (fun _ => [])) (hR : ∀ w', Keep w L w' → RR w' []) : FnP2 P w L g caps Q9 a0S p :=
  ⟨(tr (x0 := 0) (x1 := []) (ax1 := none) (mx1 := 0) (cx1 := 0) (y0 := 0) (y1 := []) (ay1 := none) (my1 := 0) (cy1 := 0)).1, fun w' k cs x ds y hx hy => by obtain ⟨a0, c0, rfl, h0, h1⟩ := Ro.pAccess hx; obtain ⟨b0, e0, rfl, k0, k1⟩ := Ro.pAccess hy; exact Tr.bool tr ⟨⟨h0, h1, k0, k1⟩, hR w' k⟩⟩
theorem FnP2.ofAtom {p : (Int × List Int) → (Int × List Int) → Bool} (tr : ∀ {x0 : Int} {ax1 : Option Addr} {mx1 cx1 : Nat} {x1 : List Int} {y0 : Int} {ay1 : Option Addr} {my1 cy1 : Nat} {y1 : List Int}, Tr P g (.agg #[.int .i64 x0, .slice ax1 mx1 cx1] :: .agg #[.int .i64 y0, .slice ay1 my1 cy1] :: caps) (fun w L => (I64 x0 ∧ Ro w L eIs [.slice ax1 mx1 cx1] x1 ∧ I64 y0 ∧ Ro w L eIs [.slice ay1 my1 cy1] y1) ∧ RR w L) [] (κ := Unit) (fun _ => True) (fun _ => .bool (p (x0, x1) (y0, y1))) (fun _ => [])) (hR : ∀ w', Keep w L w' → RR w' []) : FnP2 P w L g caps P1 a0S p :=
  ⟨(tr (x0 := 0) (x1 := []) (ax1 := none) (mx1 := 0) (cx1 := 0) (y0 := 0) (y1 := []) (ay1 := none) (my1 := 0) (cy1 := 0)).1, fun w' k cs x ds y hx hy => by obtain ⟨a0, c0, rfl, h0, h1⟩ := Ro.pAtom hx; obtain ⟨b0, e0, rfl, k0, k1⟩ := Ro.pAtom hy; exact Tr.bool tr ⟨⟨h0, h1, k0, k1⟩, hR w' k⟩⟩
theorem FnP2.ofIs {p : List Int → List Int → Bool} (tr : ∀ {ax : Option Addr} {mx cx : Nat} {x : List Int} {ay : Option Addr} {my cy : Nat} {y : List Int}, Tr P g (.slice ax mx cx :: .slice ay my cy :: caps) (fun w L => (Ro w L eIs [.slice ax mx cx] x ∧ Ro w L eIs [.slice ay my cy] y) ∧ RR w L) [] (κ := Unit) (fun _ => True) (fun _ => .bool (p x y)) (fun _ => [])) (hR : ∀ w', Keep w L w' → RR w' []) : FnP2 P w L g caps eIs a4G p :=
  ⟨(tr (ax := none) (mx := 0) (cx := 0) (x := []) (ay := none) (my := 0) (cy := 0) (y := [])).1, fun w' k cs x ds y hx hy => by obtain ⟨a, c, rfl⟩ := hx.sl; obtain ⟨b, e, rfl⟩ := hy.sl; exact (tr (x := x) (y := y)).bool ⟨⟨hx, hy⟩, hR w' k⟩⟩
end
end Go.Proofs.YtdopeopehgdccaaGreat

namespace Go.Proofs.YtdopeopehgdccaaGreat
open Go.RowKit
set_option linter.unusedVariables false
/-- of an owned list, whose row is there whole, the elements from j on -/
def owd {α : Type} (e : TypeId) (E : Enc α) (a : Option Addr) (m c : Nat) (xs : List α) (j : Nat) : HP where
  holds w L := ∃ c1 c2 L1 L2, L = L1 ++ L2 ∧ m = xs.length ∧ m ≤ maxLen ∧ c1.length = j * E.k ∧ x5 E w c2 (xs.drop j) L2 true ∧ (row e E.k a m c (c1 ++ c2)).holds w L1
  stable := by
    rintro w w' L ⟨c1, c2, L1, L2, rfl, h1, h2, h3, h4, h5⟩ hb
    exact ⟨c1, c2, L1, L2, rfl, h1, h2, h3, h4.stable fun b h => hb b (by simp [h]), (row e E.k a m c _).stable h5 fun b h => hb b (by simp [h])⟩
  inh := by
    rintro w L ⟨c1, c2, L1, L2, rfl, h1, h2, h3, h4, h5⟩ b hb
    rcases List.mem_append.1 hb with hb | hb
    · exact (row e E.k a m c _).inh h5 b hb
    · exact h4.inh b hb
/-- the same, where element j (cells ce) has been taken out -/
def owt {α : Type} (e : TypeId) (E : Enc α) (a : Option Addr) (m c : Nat) (xs : List α) (j : Nat) (ce : List Value) : HP where
  holds w L := ∃ c1 c2 L1 L2, L = L1 ++ L2 ∧ m = xs.length ∧ m ≤ maxLen ∧ j < xs.length ∧ ce.length = E.k ∧ c1.length = j * E.k ∧ x5 E w c2 (xs.drop (j + 1)) L2 true ∧ (row e E.k a m c (c1 ++ (ce ++ c2))).holds w L1
  stable := by
    rintro w w' L ⟨c1, c2, L1, L2, rfl, h1, h2, h0, h6, h3, h4, h5⟩ hb
    exact ⟨c1, c2, L1, L2, rfl, h1, h2, h0, h6, h3, h4.stable fun b h => hb b (by simp [h]), (row e E.k a m c _).stable h5 fun b h => hb b (by simp [h])⟩
  inh := by
    rintro w L ⟨c1, c2, L1, L2, rfl, h1, h2, h0, h6, h3, h4, h5⟩ b hb
    rcases List.mem_append.1 hb with hb | hb
    · exact (row e E.k a m c _).inh h5 b hb
    · exact h4.inh b hb
section
variable {n : Nat} {w0 : World} {L0 : List Nat} {fr : Fr} {H R : List HP} {G : Act → World → Prop} {α : Type} {E : Enc α} {e : TypeId} {a : Option Addr} {m c : Nat} {xs : List α} {j : Nat}
theorem Ent.od0 (h : Ent n w0 L0 fr (owd e E a m c xs 0 :: R) G) : Ent n w0 L0 fr (ow (Enc.sl e E) [.slice a m c] xs :: R) G := fun ac w h1 h2 => by
  obtain ⟨L, ⟨Lo, LR, rfl, ho, hR⟩, hn, hst⟩ := h2
  obtain ⟨ccs, L1, L2, rfl, g1, g2, g3, g4⟩ := a1a ho
  exact h ac w h1 ⟨(L1 ++ L2) ++ LR, ⟨L1 ++ L2, LR, rfl, ⟨[], ccs, L1, L2, rfl, g1, g2, by simp, g3, g4⟩, hR⟩, hn, hst⟩
theorem Ent.odt (hj : j < xs.length) (h : ∀ ce, Ent n w0 L0 fr (owt e E a m c xs j ce :: ow E ce xs[j] :: R) G) : Ent n w0 L0 fr (owd e E a m c xs j :: R) G := fun ac w h1 h2 => by
  obtain ⟨L, ⟨Lo, LR, rfl, ⟨c1, c2, L1, L2, rfl, g1, g2, g3, g4, g5⟩, hR⟩, hn, hst⟩ := h2
  rw [List.drop_eq_getElem_cons hj] at g4
  obtain ⟨d1, d2, N1, N2, rfl, rfl, k1, k2⟩ := g4
  have hperm : (L1 ++ (N1 ++ N2) ++ LR).Perm ((L1 ++ N2) ++ (N1 ++ LR)) := by
    simp only [List.append_assoc]
    refine List.Perm.append_left L1 ?_
    rw [← List.append_assoc, ← List.append_assoc]
    exact (List.perm_append_comm).append_right LR
  exact h d1 ac w h1 ⟨(L1 ++ N2) ++ (N1 ++ LR), ⟨_, _, rfl, ⟨c1, d2, L1, N2, rfl, g1, g2, hj, E.len k1, g3, k2, g5⟩, N1, LR, rfl, k1, hR⟩, hperm.nodup_iff.1 hn, hst.sublist fun b hb => hperm.mem_iff.2 hb⟩
theorem Ent.otd {ce : List Value} (h : Ent n w0 L0 fr (owd e E a m c xs (j + 1) :: R) G) : Ent n w0 L0 fr (owt e E a m c xs j ce :: R) G := fun ac w h1 h2 => by
  obtain ⟨L, ⟨Lo, LR, rfl, ⟨c1, c2, L1, L2, rfl, g1, g2, g0, g6, g3, g4, g5⟩, hR⟩, hn, hst⟩ := h2
  exact h ac w h1 ⟨(L1 ++ L2) ++ LR, ⟨L1 ++ L2, LR, rfl, ⟨c1 ++ ce, c2, L1, L2, rfl, g1, g2, by rw [List.length_append, g3, g6, Nat.succ_mul], g4, by rw [List.append_assoc]; exact g5⟩, hR⟩, hn, hst⟩
theorem Ent.osl {cs : List Value} (h : ∀ (a : Option Addr) (m c : Nat), cs = [.slice a m c] → m = xs.length → Ent n w0 L0 fr (ow (Enc.sl e E) [.slice a m c] xs :: R) G) : Ent n w0 L0 fr (ow (Enc.sl e E) cs xs :: R) G := fun ac w h1 h2 => by
  obtain ⟨L, ⟨Lx, LR, rfl, hx, hR⟩, hn, hst⟩ := h2
  obtain ⟨a, m, c, ccs, L1, L2, rfl, hm, hx2⟩ := id hx
  exact h a m c rfl hm ac w h1 ⟨Lx ++ LR, ⟨Lx, LR, rfl, hx, hR⟩, hn, hst⟩
theorem Has.owt {ce : List Value} {b o : Nat} (ha : a = some ⟨b, o, none⟩) (hm : Go.Proofs.YtdopeopehgdccaaGreat.owt e E a m c xs j ce ∈ H) : Has w0 L0 H b (o + j * E.k) ce := fun w h => by
  obtain ⟨L', c1, c2, L1, L2, _, g1, g2, hj, g6, g3, g4, h0, g8⟩ := h.mem hm
  rcases g8 with ⟨_, h, _⟩ | ⟨g', cur, h2, h3, h4, h5, h6, h7, _⟩
  · omega
  rw [ha] at h2; cases h2
  intro i v hi
  have hi' : (c1 ++ (ce ++ c2))[j * E.k + i]? = some v := by
    rw [← g3, List.getElem?_append_right (by omega), show c1.length + i - c1.length = i from by omega]
    rw [List.getElem?_append_left (by exact (List.getElem?_eq_some_iff.1 hi).1)]; exact hi
  rw [← h7, List.getElem?_take] at hi'
  split at hi'
  · simpa [World.cell?, h3] using hi'
  · cases hi'
theorem Ent.adrd (hm : owd e E a m c xs j ∈ H) (hlt : 0 < m) (h : ∀ b, a = some ⟨b, 0, none⟩ → Ent n w0 L0 fr H G) : Ent n w0 L0 fr H G := fun ac w h1 h2 => by
  obtain ⟨L, hL⟩ := h2.mem hm
  obtain ⟨c1, c2, L1, L2, _, g1, g2, _, _, g4⟩ := hL
  rcases g4.2 with ⟨_, h0, _⟩ | ⟨g, cur, h3, _⟩
  · omega
  · exact h g h3 ac w h1 h2
end
theorem T4.has {w1 w0 : World} {L1 L0 : List Nat} {b off : Nat} {cs : List Value} (h : T4 w1 L1 w0 L0) (k : ∀ H, Has w0 L0 H b off cs) : ∀ H, Has w1 L1 H b off cs := fun H w hw => k H w (h H w hw)
theorem frB {a b : Bool} (h : a = b) : some (Value.bool a) = some (Value.bool b) := by rw [h]
end Go.Proofs.YtdopeopehgdccaaGreat

namespace Go.Proofs.YtdopeopehgdccaaGreat
set_option linter.unusedVariables false
def J6 (a b : Int) : Int := if a < b then -1 else if b < a then 1 else 0
def E1 : List Int → List Int → Int
  | [], [] => 0
  | [], _ :: _ => -1
  | _ :: _, [] => 1
  | a :: l, b :: m => if J6 a b ≠ 0 then J6 a b else E1 l m
def orI : List Int → Int
  | [] => 0
  | x :: l => if x ≠ 0 then x else orI l
def I9 (a b : Int × List Int) : Int := if J6 a.1 b.1 ≠ 0 then J6 a.1 b.1 else E1 a.2 b.2
theorem b0r {a b : Int} : I64 (J6 a b) := by unfold J6 I64; split; omega; split <;> omega
theorem a9C : ∀ {l m : List Int}, I64 (E1 l m)
  | [], [] => by unfold E1 I64; omega
  | [], _ :: _ => by unfold E1 I64; omega
  | _ :: _, [] => by unfold E1 I64; omega
  | a :: l, b :: m => by unfold E1; split; exact b0r; exact a9C
theorem a8T {a b : Int} : J6 a b = 0 ↔ a = b := by unfold J6; grind
theorem a8w : ∀ {l m : List Int}, E1 l m = 0 ↔ l = m
  | [], [] => by simp [E1]
  | [], _ :: _ => by simp [E1]
  | _ :: _, [] => by simp [E1]
  | a :: l, b :: m => by
    have := a8T (a := a) (b := b)
    have h2 := a8w (l := l) (m := m)
    unfold E1; grind
theorem a2n {a b : Int × List Int} : I9 a b = 0 ↔ a = b := by
  have h1 := a8T (a := a.1) (b := b.1)
  have h2 := a8w (l := a.2) (m := b.2)
  unfold I9
  rcases a with ⟨a1, a2⟩; rcases b with ⟨b1, b2⟩
  grind
/-- slices.EqualFunc -/
def eqP {α : Type} (p : α → α → Bool) : List α → List α → Bool
  | [], [] => true
  | a :: l, b :: m => p a b && eqP p l m
  | _, _ => false
end Go.Proofs.YtdopeopehgdccaaGreat

namespace Go.Proofs.YtdopeopehgdccaaGreat
set_option linter.unusedVariables false
def G6 (l : List (Int × List Int)) (f : Int × List Int) : Bool := l.any fun z => decide (I9 z f = 0)
def E2 (a : Int × List Int) (b : List Int × List Int) : Int × List Int := (a.1, a.2.map (w4 b))
def b7c (q : List Int × List (Int × List Int)) (d8 : List (Int × List Int)) (head : List Int) (b : List Int × List Int) : Bool :=
  decide (b.1.length = b.2.length) && (decide (q.1.map (w4 b) = head) && !q.2.any fun a => !G6 d8 (E2 a b))
theorem Ro.i64A {w : World} {L : List Nat} {e : TypeId} {a : Option Addr} {m c : Nat} {xs : List (Int × List Int)} (h : Ro w L (Enc.sl e (Enc.pair Enc.int (Enc.sl tI Enc.int))) [.slice a m c] xs) : ∀ x ∈ xs, I64 x.1 ∧ ∀ y ∈ x.2, I64 y := by
  intro x hx
  obtain ⟨i, hi, rfl⟩ := List.getElem_of_mem hx
  obtain ⟨_, _, ci, _, h1, _⟩ := h.elem i hi
  obtain ⟨c1, c2, rfl, h2, h3⟩ := h1.pair
  obtain ⟨a', c', rfl⟩ := h3.sl
  exact ⟨h2.int.2, h3.i64⟩
theorem b4G {α : Type} {t : α → Nat} {l : List α} {n : Nat} (h : C8 t l ≤ n) : ∀ x ∈ l, t x ≤ n := by
  intro x hx
  obtain ⟨i, hi, rfl⟩ := List.getElem_of_mem hx
  exact Nat.le_trans (a3Y hi) h
theorem a8M {l : List (Int × List Int)} {n : Nat} (h : C8 (fun x => x.2.length) l ≤ n) : ∀ x ∈ l, x.2.length ≤ n := b4G h
end Go.Proofs.YtdopeopehgdccaaGreat

namespace Go.Proofs.YtdopeopehgdccaaGreat
set_option linter.unusedVariables false
def E0 {α : Type} (r : α → α → Bool) : List α → Bool
  | a :: b :: l => r a b && E0 r (b :: l)
  | _ => true
theorem b2d {α : Type} {l : List α} {g : Nat} (h : g < l.length) (h0 : 0 < g) : l.drop (g - 1) = l[g - 1] :: l[g] :: l.drop (g + 1) := by
  rw [List.drop_eq_getElem_cons (by omega), show g - 1 + 1 = g by omega, List.drop_eq_getElem_cons h]
def ltB (a b : Int) : Bool := decide (a < b)
theorem D3 {α : Type} {r : α → α → Bool} {l : List α} {g : Nat} (h : g < l.length) (h0 : 0 < g) : E0 r (l.drop (g - 1)) = (r l[g - 1] l[g] && E0 r (l.drop g)) := by
  rw [b2d h h0, E0, ← List.drop_eq_getElem_cons h]
theorem D2 {α : Type} {r : α → α → Bool} {l : List α} {g : Nat} (h : g = 0) : E0 r (l.drop (g - 1)) = E0 r (l.drop g) := by subst h; rfl
theorem E6 {α : Type} {r : α → α → Bool} {l : List α} {g : Nat} (h : l.length ≤ g) : E0 r (l.drop (g - 1)) = true := by
  have : (l.drop (g - 1)).length ≤ 1 := by simp; omega
  match l.drop (g - 1), this with
  | [], _ => rfl
  | [x], _ => rfl
  | x :: y :: z, h => simp at h
def W1 (m : Int × List Int × Int × Int × Int) (ar : Int) : Bool :=
  E0 ltB m.2.1 && (R7 m.2.1 ar && (inR m.2.2.1 0 9 && (inR m.2.2.2.1 0 99 && inR m.2.2.2.2 1 99)))
def J9 (s : List Int) (m : Int × List Int × Int × Int × Int) : Bool := G5 s m.1 && W1 m (at0 s m.1)
def B3 (s : List Int) (l : List (Int × List Int × Int × Int × Int)) : Bool := L5 s && (decide ((l.length : Int) ≤ 5) && !l.any fun m => !J9 s m)
def a8e (v : List Int) : Bool := E0 ltB v && M6 v
def a0v (l : List (Int × List Int)) (a : Int × List Int) : Bool := l.any fun z => decide (z = a)
def K9 (F4 : List Int) : Nat → List (List Int)
  | 0 => [[]]
  | n + 1 => (K9 F4 n).flatMap fun l => F4.map fun v => l ++ [v]
def W3 (F4 : List Int) (log : List (Int × List Int)) (i : Int) (k : Nat) : List (Int × List Int) :=
  ((K9 F4 k).filter fun v => !a0v log (i, v)).map fun v => (i, v)
def U8 (F4 : List Int) (log : List (Int × List Int)) : List (Int × List Int × Int × Int × Int) → Int → List (Int × List Int)
  | [], _ => []
  | m :: l, i => (if m.2.2.1 ≠ 0 then [] else W3 F4 log i m.2.1.length) ++ U8 F4 log l (i + 1)
def X6 (s : List Int) (l : List (Int × List Int × Int × Int × Int)) (F4 : List Int) (log : List (Int × List Int)) : List (Int × List Int) :=
  if B3 s l && a8e F4 then U8 F4 log l 0 else []
/-- an ascending list between two numbers is short -/
theorem a8W : ∀ {l : List Int} {a b : Int}, E0 ltB l = true → (∀ x ∈ l, a ≤ x ∧ x ≤ b) → a ≤ b + 1 → (l.length : Int) ≤ b - a + 1
  | [], _, _, _, _, _ => by simp; omega
  | [x], a, b, _, h, _ => by have := h x (by simp); simp; omega
  | x :: y :: l, a, b, hc, h, hab => by
    simp only [E0, ltB, Bool.and_eq_true, decide_eq_true_eq] at hc
    have hx := h x (by simp)
    have hge : ∀ z ∈ y :: l, x + 1 ≤ z := by
      have : ∀ {l : List Int} {y : Int}, E0 ltB (y :: l) = true → ∀ z ∈ y :: l, y ≤ z := by
        intro l
        induction l with
        | nil => intro y _ z hz; simp at hz; omega
        | cons u l ih =>
          intro y hc z hz
          simp only [E0, ltB, Bool.and_eq_true, decide_eq_true_eq] at hc
          rcases List.mem_cons.1 hz with rfl | hz
          · omega
          · have := ih hc.2 z hz; omega
      intro z hz
      have := this hc.2 z hz; omega
    have := a8W (l := y :: l) (a := x + 1) (b := b) hc.2 (fun z hz => ⟨hge z hz, (h z (by simp only [List.mem_cons] at hz ⊢; exact .inr hz)).2⟩) (by omega)
    simp only [List.length_cons] at this ⊢; omega
theorem b1N {s : List Int} {m : Int × List Int × Int × Int × Int} (h : J9 s m = true) : m.2.1.length ≤ 3 := by
  simp only [J9, W1, R7, Bool.and_eq_true, Bool.not_eq_true', List.any_eq_false] at h
  have h1 := V6 h.1
  have := a8W (a := 0) (b := at0 s m.1 - 1) h.2.1 (fun x hx => by have := h.2.2.1 x hx; simpa [inR] using this) (by simp only [at0]; omega)
  simp only [at0] at this; omega
theorem R8 {s : List Int} {l : List (Int × List Int × Int × Int × Int)} (h : B3 s l = true) : (∀ m ∈ l, m.2.1.length ≤ 3) ∧ l.length ≤ 5 := by
  simp only [B3, Bool.and_eq_true, Bool.not_eq_true', List.any_eq_false, decide_eq_true_eq] at h
  refine ⟨fun m hm => b1N (s := s) ?_, by omega⟩
  have := h.2.2 m hm
  simpa using this
theorem a6s {α : Type} {c : α → Nat} {n : Nat} : ∀ {l : List α}, (∀ x ∈ l, c x ≤ n) → o5 c l ≤ l.length * n
  | [], _ => by simp [o5]
  | x :: l, h => by
    have h1 := a6s (c := c) (n := n) (l := l) fun y hy => h y (by simp [hy])
    have h2 := h x (by simp)
    simp only [o5, List.map_cons, List.sum_cons, List.length_cons, Nat.succ_mul] at h1 ⊢; omega
end Go.Proofs.YtdopeopehgdccaaGreat

namespace Go.Proofs.YtdopeopehgdccaaGreat
set_option linter.unusedVariables false
/-- f ahead of the first element of which p is true; nothing if there is none -/
def G4 {α : Type} (p : α → Bool) (f : α) : List α → List α
  | [] => []
  | x :: l => if p x then f :: x :: l else x :: G4 p f l
def O9 {α : Type} (has : Bool) (p : α → Bool) (f : α) (l : List α) : List α := if has then l else if l.any p then G4 p f l else l ++ [f]
section
variable {α : Type} {p q : α → Bool} {f : α}
theorem T0 : ∀ {l : List α}, l.any p = false → G4 p f l = l
  | [], _ => rfl
  | x :: l, h => by
    simp only [List.any_cons, Bool.or_eq_false_iff] at h
    simp [G4, h.1, T0 h.2]
theorem O3 : ∀ {l : List α} {y : α}, G4 p f (l ++ [y]) = if l.any p then G4 p f l ++ [y] else if p y then l ++ [f, y] else l ++ [y]
  | [], y => by simp [G4]
  | x :: l, y => by
    have h := O3 (l := l) (y := y)
    simp only [List.cons_append, G4, List.any_cons, h]
    cases p x <;> cases l.any p <;> cases p y <;> simp
theorem a3M : ∀ {l : List α}, (G4 p f l).length ≤ l.length + 1
  | [] => by simp [G4]
  | x :: l => by
    have := a3M (l := l)
    simp only [G4]; split <;> simp <;> omega
theorem a3X {h : Bool} {l : List α} : (O9 h p f l).length ≤ l.length + 1 := by
  have := a3M (p := p) (f := f) (l := l)
  unfold O9; split; omega; split; omega; simp
theorem a3N {h : Bool} {l : List α} {y : α} (hy : y ∈ O9 h p f l) : y ∈ l ∨ y = f := by
  have ins : ∀ {l : List α}, y ∈ G4 p f l → y ∈ l ∨ y = f := by
    intro l
    induction l with
    | nil => simp [G4]
    | cons x l ih =>
      intro h
      simp only [G4] at h
      split at h
      · simp only [List.mem_cons] at h ⊢; rcases h with h | h | h <;> simp [h]
      · simp only [List.mem_cons] at h ⊢
        rcases h with h | h
        · simp [h]
        · rcases ih h with h | h <;> simp [h]
  unfold O9 at hy
  split at hy
  · exact .inl hy
  · split at hy
    · exact ins hy
    · simpa using hy
theorem b0H {l : List α} (hpq : ∀ y ∈ l, p y = q y) : O9 false p f l = l.take (if E8 q l < 0 then l.length else (E8 q l).toNat) ++ f :: l.drop (if E8 q l < 0 then l.length else (E8 q l).toNat) := by
  have ha : l.any p = l.any q := by
    induction l with
    | nil => rfl
    | cons x l ih => simp [List.any_cons, hpq x (by simp), ih fun y hy => hpq y (by simp [hy])]
  unfold O9 E8
  rw [ha]
  by_cases h : l.any q = true
  · simp only [h, if_true, Bool.false_eq_true, if_false]
    rw [if_neg (by omega), Int.toNat_natCast]
    clear ha
    induction l with
    | nil => simp at h
    | cons x l ih =>
      simp only [G4, List.findIdx_cons, hpq x (by simp)]
      cases hq : q x with
      | true => simp
      | false =>
        simp only [List.any_cons, hq, Bool.false_or] at h
        simp [ih (fun y hy => hpq y (by simp [hy])) h]
  · simp [h]
end
/-- the numbers of a list, each once, ascending -/
def B9 (l : List Int) (x : Int) : Bool := l.any fun y => decide (y = x)
def F2 (l : List Int) (x : Int) : List Int := O9 (B9 l x) (fun y => decide (x < y)) x l
def G9 (l : List Int) : List Int := l.foldl F2 []
theorem b1a : ∀ {a b : List Int}, a.Pairwise (· < ·) → b.Pairwise (· < ·) → (∀ x, x ∈ a ↔ x ∈ b) → a = b
  | [], [], _, _, _ => rfl
  | [], y :: b, _, _, h => by have := (h y).2 (by simp); simp at this
  | x :: a, [], _, _, h => by have := (h x).1 (by simp); simp at this
  | x :: a, y :: b, ha, hb, h => by
    rw [List.pairwise_cons] at ha hb
    have e : x = y := by
      have h1 := (h x).1 (by simp)
      have h2 := (h y).2 (by simp)
      simp only [List.mem_cons] at h1 h2
      rcases h1 with h1 | h1
      · exact h1
      · rcases h2 with h2 | h2
        · exact h2.symm
        · have := hb.1 x h1; have := ha.1 y h2; omega
    subst e
    rw [b1a ha.2 hb.2 fun z => ?_]
    have := h z
    simp only [List.mem_cons] at this
    constructor
    · intro hz
      rcases this.1 (.inr hz) with e | e
      · have := ha.1 z hz; omega
      · exact e
    · intro hz
      rcases this.2 (.inr hz) with e | e
      · have := hb.1 z hz; omega
      · exact e
theorem b2s {l : List Int} {x : Int} (h : l.Pairwise (· < ·)) : (F2 l x).Pairwise (· < ·) ∧ ∀ y, y ∈ F2 l x ↔ y ∈ l ∨ y = x := by
  have ins : ∀ {l : List Int}, l.Pairwise (· < ·) → x ∉ l → (if (l.any fun y => decide (x < y)) then G4 (fun y => decide (x < y)) x l else l ++ [x]).Pairwise (· < ·) ∧ ∀ y, y ∈ (if (l.any fun y => decide (x < y)) then G4 (fun y => decide (x < y)) x l else l ++ [x]) ↔ y ∈ l ∨ y = x := by
    intro l
    induction l with
    | nil => intro _ _; simp
    | cons z l ih =>
      intro h hx
      rw [List.pairwise_cons] at h
      simp only [List.mem_cons, not_or] at hx
      have ih' := ih h.2 hx.2
      by_cases hz : x < z
      · simp only [List.any_cons, hz, decide_true, Bool.true_or, if_true, G4]
        refine ⟨?_, fun y => by simp only [List.mem_cons]; constructor <;> (intro h; rcases h with h | h | h) <;> simp [h]⟩
        rw [List.pairwise_cons, List.pairwise_cons]
        refine ⟨fun y hy => ?_, h⟩
        simp only [List.mem_cons] at hy
        rcases hy with rfl | hy
        · exact hz
        · have := h.1 y hy; omega
      · simp only [List.any_cons, hz, decide_false, Bool.false_or, G4, Bool.false_eq_true, if_false]
        have e : (if (l.any fun y => decide (x < y)) then z :: G4 (fun y => decide (x < y)) x l else z :: l ++ [x]) = z :: (if (l.any fun y => decide (x < y)) then G4 (fun y => decide (x < y)) x l else l ++ [x]) := by split <;> simp
        rw [e]
        refine ⟨?_, fun y => by rw [List.mem_cons, ih'.2 y, List.mem_cons, or_assoc]⟩
        rw [List.pairwise_cons]
        refine ⟨fun y hy => ?_, ih'.1⟩
        rcases (ih'.2 y).1 hy with hy | rfl
        · exact h.1 y hy
        · omega
  unfold F2 O9 B9
  by_cases hx : x ∈ l
  · have : (l.any fun y => decide (y = x)) = true := List.any_eq_true.2 ⟨x, hx, by simp⟩
    rw [if_pos this]
    exact ⟨h, fun y => ⟨.inl, fun e => by rcases e with e | rfl; exact e; exact hx⟩⟩
  · have : ¬ (l.any fun y => decide (y = x)) = true := fun e => by
      obtain ⟨y, hy, e⟩ := List.any_eq_true.1 e
      simp at e; subst e; exact hx hy
    rw [if_neg this]
    exact ins h hx
theorem a2i : ∀ {l s : List Int}, s.Pairwise (· < ·) → (l.foldl F2 s).Pairwise (· < ·) ∧ ∀ y, y ∈ l.foldl F2 s ↔ y ∈ s ∨ y ∈ l
  | [], s, h => ⟨h, by simp⟩
  | x :: l, s, h => by
    have h1 := b2s (x := x) h
    have h2 := a2i (l := l) h1.1
    refine ⟨h2.1, fun y => ?_⟩
    rw [List.foldl_cons, h2.2 y, h1.2 y, List.mem_cons, or_assoc]
theorem b2Z {l : List Int} : (G9 l).Pairwise (· < ·) := (a2i .nil).1
theorem a3W {l : List Int} {y : Int} : y ∈ G9 l ↔ y ∈ l := by rw [G9, (a2i .nil).2 y]; simp
theorem b0L {l : List Int} : (G9 l).length ≤ l.length := by
  have : ∀ {l s : List Int}, (l.foldl F2 s).length ≤ s.length + l.length := by
    intro l
    induction l with
    | nil => intro s; simp
    | cons x l ih => intro s; have := ih (s := F2 s x); have h2 := a3X (h := B9 s x) (p := fun y => decide (x < y)) (f := x) (l := s); simp only [List.foldl_cons, List.length_cons]; unfold F2 at *; omega
  have h := this (l := l) (s := [])
  simpa [G9] using h
theorem a7F {d : List Int} (hd : d.Pairwise (· ≤ ·)) : (Lib.compact d).Pairwise (· < ·) ∧ ∀ y, y ∈ Lib.compact d ↔ y ∈ d := by
  have hle : ∀ i j, (hij : i ≤ j) → (hj : j < d.length) → d[i]'(by omega) ≤ d[j]'hj := by
    intro i j hij hj
    rcases Nat.lt_or_eq_of_le hij with h | h
    · exact List.pairwise_iff_getElem.1 hd i j (by omega) hj h
    · subst h; exact Int.le_refl _
  have hget : ∀ i, (h : i < d.length) → d.toArray[i]! = d[i] := by intro i h; simp [h]
  have key : ∀ m, m ≤ d.length → (Lib.compactUpTo d.toArray m).Pairwise (· < ·) ∧ ∀ y, y ∈ Lib.compactUpTo d.toArray m ↔ y ∈ d.take m := by
    intro m
    induction m with
    | zero => intro _; simp [Lib.compactUpTo]
    | succ m ih =>
      intro hm
      obtain ⟨h1, h2⟩ := ih (by omega)
      have hmem : ∀ y, y ∈ d.take (m + 1) ↔ y ∈ d.take m ∨ y = d[m] := by
        intro y; rw [List.take_succ_eq_append_getElem (show m < d.length by omega), List.mem_append, List.mem_singleton]
      rw [Lib.compactUpTo_succ, hget m (by omega)]
      by_cases hk : Lib.keeps d.toArray m = true
      · rw [if_pos hk]
        refine ⟨List.pairwise_append.2 ⟨h1, by simp, fun a ha b hb => ?_⟩, fun y => by rw [List.mem_append, h2 y, hmem y]; simp⟩
        simp only [List.mem_singleton] at hb
        subst hb
        rw [h2 a, List.mem_take_iff_getElem] at ha
        obtain ⟨i, hi, rfl⟩ := ha
        have hi' : i < m := by omega
        have e1 := hle i (m - 1) (by omega) (by omega)
        have e2 := hle (m - 1) m (by omega) (by omega)
        have e3 : d[m - 1]'(by omega) ≠ d[m] := by
          intro e
          have := Lib.keeps_neg (d := d.toArray) (m := m) (by omega) (by rw [hget m (by omega), hget (m - 1) (by omega), e])
          rw [this] at hk; cases hk
        omega
      · rw [if_neg hk, List.append_nil]
        refine ⟨h1, fun y => ?_⟩
        rw [h2 y, hmem y]
        refine ⟨.inl, fun h => h.elim id ?_⟩
        rintro rfl
        have h0 : 0 < m := by
          rcases Nat.eq_zero_or_pos m with e | e
          · subst e; exact absurd (Lib.keeps_lt_one d.toArray 0 (by omega)) hk
          · exact e
        have e3 : d[m - 1]'(by omega) = d[m] := by
          refine Classical.byContradiction fun e => hk (Lib.keeps_pos ?_)
          rw [hget m (by omega), hget (m - 1) (by omega)]
          exact fun e' => e e'.symm
        rw [List.mem_take_iff_getElem]
        exact ⟨m - 1, by omega, e3⟩
  have := key d.length (Nat.le_refl _)
  simpa [Lib.compact] using this
/-- sorted, and of equal ones one kept: the set -/
theorem Y0 {l : List Int} : Lib.compact (l.mergeSort fun x y => decide (x ≤ y)) = G9 l := by
  have hs : (l.mergeSort fun x y => decide (x ≤ y)).Pairwise (· ≤ ·) := by
    have := List.pairwise_mergeSort (le := fun x y : Int => decide (x ≤ y)) (by intro a b c; simp only [decide_eq_true_eq]; omega) (by intro a b; simp only [Bool.or_eq_true, decide_eq_true_eq]; omega) l
    exact this.imp fun h => by simpa using h
  have h := a7F hs
  refine b1a h.1 b2Z fun x => ?_
  rw [h.2 x, a3W]
  exact (List.mergeSort_perm l _).mem_iff
end Go.Proofs.YtdopeopehgdccaaGreat

namespace Go.Proofs.YtdopeopehgdccaaGreat
set_option linter.unusedVariables false
theorem Tr.wk {P : Program} {f : FuncId} {args : List Value} {RR RR' : World → List Nat → Prop} {pre : List HP} {κ : Type} {φ : κ → Prop} {ret : κ → Value} {post : κ → List HP} (h : Tr P f args RR pre φ ret post) (hR : ∀ w L, RR' w L → RR w L) : Tr P f args RR' pre φ ret post :=
  ⟨h.1, fun w L hr hs hn => h.2 w L (hR w L hr) hs hn⟩
theorem R0 {l m : List Int} : G9 (l ++ m) = m.foldl F2 (G9 l) := by unfold G9; rw [List.foldl_append]
theorem Q0 {l : List Int} {x : Int} : G9 (l ++ [x]) = F2 (G9 l) x := by rw [R0]; rfl
theorem a0d {l : List Int} {x : Int} : B9 l x = true ↔ x ∈ l := by
  unfold B9
  rw [List.any_eq_true]
  constructor
  · rintro ⟨y, hy, e⟩; simp at e; subst e; exact hy
  · intro h; exact ⟨x, h, by simp⟩
def f5 (is : Int → Bool) (d7 : List (Int × List Int)) : List Int := G9 ((d7.flatMap fun a => a.2).filter is)
theorem a6f : ∀ {l : List (Int × List Int)}, (l.flatMap fun a => a.2).length = o5 (fun x => x.2.length) l
  | [] => rfl
  | a :: l => by simp only [List.flatMap_cons, List.length_append, a6f (l := l), o5, List.map_cons, List.sum_cons]
theorem b2a {is : Int → Bool} {d7 : List (Int × List Int)} {g : Nat} (hz : C8 (fun x => x.2.length) d7 ≤ 1048576) : (((d7.take g).flatMap fun a => a.2).filter is).length ≤ 1048576 := by
  have h1 := List.length_filter_le is ((d7.take g).flatMap fun a => a.2)
  have h2 := N5 (t := fun x : Int × List Int => x.2.length) (l := d7) (g := g)
  rw [a6f] at h1
  unfold C8 at hz; omega
theorem a4f {is : Int → Bool} {d7 : List (Int × List Int)} {g h : Nat} (hz : C8 (fun x => x.2.length) d7 ≤ 1048576) (hg : g < d7.length) : (((d7.take g).flatMap fun a => a.2).filter is ++ (d7[g].2.take h).filter is).length ≤ 1048576 := by
  have h1 := List.length_filter_le is ((d7.take g).flatMap fun a => a.2)
  have h2 := N5 (t := fun x : Int × List Int => x.2.length) (l := d7) (g := g + 1)
  have h3 := List.length_filter_le is (d7[g].2.take h)
  have h4 := List.length_take_le' h d7[g].2
  rw [J3 hg] at h2
  rw [a6f] at h1
  rw [List.length_append]
  unfold C8 at hz; omega
def O0 (t : Int) : Bool := inR t 0 9 || inR t 10 17
def I2 (s : List Int) (a : Int × List Int) : Bool := G5 s a.1 && (decide ((a.2.length : Int) = at0 s a.1) && !a.2.any fun t => !O0 t)
def a0X (q : List Int × List (Int × List Int)) : Bool := decide ((q.1.length : Int) ≤ 3) && !q.1.any fun t => !B9 (f5 (fun t => inR t 10 17) q.2) t
def y8 (s : List Int) (q : List Int × List (Int × List Int)) : Bool := L5 s && (inR (q.2.length : Int) 1 4 && ((!q.2.any fun a => !I2 s a) && a0X q))
def b6C (s : List Int) (u : List (List Int × List (Int × List Int))) (q : List Int × List (Int × List Int)) : Bool := !y8 s q || decide ((q.1.length : Int) ≠ ((u.getD 0 ([], [])).1.length : Int))
def b4w (s : List Int) (u : List (List Int × List (Int × List Int))) : Bool := inR (u.length : Int) 1 3 && !u.any (b6C s u)
def a7S (s : List Int) (g : (List Int × List (Int × List Int)) × List (Int × List Int)) : Bool :=
  y8 s g.1 && (decide ((g.2.length : Int) ≤ 4) && ((!g.2.any fun a => !I2 s a) && !(f5 (fun t => inR t 10 17) g.2).any fun t => !B9 (f5 (fun t => inR t 10 17) g.1.2) t))
end Go.Proofs.YtdopeopehgdccaaGreat

namespace Go.Proofs.YtdopeopehgdccaaGreat
set_option linter.unusedVariables false
def ltF (a b : Int × List Int) : Bool := decide (I9 a b < 0)
def x6 (l : List (Int × List Int)) (f : Int × List Int) : List (Int × List Int) := O9 (G6 l f) (ltF f) f l
theorem b0e {a b : Int} : J6 a b = - J6 b a := by unfold J6; grind
theorem a6m : ∀ {l m : List Int}, E1 l m = - E1 m l
  | [], [] => by simp [E1]
  | [], _ :: _ => by simp [E1]
  | _ :: _, [] => by simp [E1]
  | a :: l, b :: m => by
    have h1 := b0e (a := a) (b := b)
    have h2 := a6m (l := l) (m := m)
    unfold E1; grind
theorem a6y {a b : Int × List Int} : I9 a b = - I9 b a := by
  have h1 := b0e (a := a.1) (b := b.1)
  have h2 := a6m (l := a.2) (m := b.2)
  unfold I9; grind
theorem a2D {l : List (Int × List Int)} {f : Int × List Int} (h : G6 l f = true) : x6 l f = l := by simp [x6, O9, h]
theorem a3V {l : List (Int × List Int)} {f : Int × List Int} (h : G6 l f = false) : x6 l f = l.take (if E8 (fun z => decide (0 < I9 z f)) l < 0 then l.length else (E8 (fun z => decide (0 < I9 z f)) l).toNat) ++ f :: l.drop (if E8 (fun z => decide (0 < I9 z f)) l < 0 then l.length else (E8 (fun z => decide (0 < I9 z f)) l).toNat) := by
  rw [x6, h]
  refine b0H fun y _ => ?_
  have := a6y (a := f) (b := y)
  rw [ltF, decide_eq_decide]; omega
theorem a1l {α : Type} {p : α → Bool} {s : List α} : E8 p s ≤ s.length ∧ -1 ≤ E8 p s := by
  unfold E8
  split
  · have := List.findIdx_le_length (p := p) (xs := s); omega
  · omega
/-- what AddFact has put together of the first elements -/
def H0 {α : Type} (h : Bool) (p : α → Bool) (f : α) (l : List α) : List α := if h then l else G4 p f l
theorem a6h {α : Type} {h : Bool} {p : α → Bool} {f : α} {l : List α} : (H0 h p f l).length ≤ l.length + 1 := by
  have := a3M (p := p) (f := f) (l := l)
  unfold H0; split <;> omega
theorem C5 {α : Type} {h : Bool} {p : α → Bool} {f : α} : H0 h p f [] = [] := by unfold H0; cases h <;> rfl
theorem B5 {α : Type} {h : Bool} {p : α → Bool} {f : α} {l : List α} {y : α} : H0 h p f (l ++ [y]) = if (h || l.any p) = true then H0 h p f l ++ [y] else if p y = true then H0 h p f l ++ [f, y] else H0 h p f l ++ [y] := by
  unfold H0
  cases h
  · simp only [Bool.false_eq_true, if_false, Bool.false_or, O3]
    cases ha : l.any p
    · simp [T0 ha]
    · simp
  · simp
theorem B4 {α : Type} {h : Bool} {p : α → Bool} {f : α} {l : List α} : O9 h p f l = if (h || l.any p) = true then H0 h p f l else H0 h p f l ++ [f] := by
  unfold H0 O9
  cases h
  · cases ha : l.any p
    · simp [T0 ha]
    · simp
  · simp
theorem C6 {α : Type} {p : α → Bool} {l : List α} {g : Nat} (h : g < l.length) : (l.take (g + 1)).any p = ((l.take g).any p || p l[g]) := by
  rw [List.take_succ_eq_append_getElem h, List.any_append]; simp
theorem O2 {f : Int × List Int} {a : Int} {b : List Int} : ltF f (a, b) = decide (I9 f (a, b) < 0) := rfl
/-- the facts from g on are valid, and ascending from the one ahead of g on -/
def a0f (s : List Int) (l : List (Int × List Int)) (g : Nat) : Bool := (l.drop g).all (H2 s) && E0 ltF (l.drop (g - 1))
def B7 (s : List Int) (l : List (Int × List Int)) : Bool := a0f s l 0 && (L5 s && decide ((l.length : Int) ≤ 24))
/-- a rule at a fact: what it demands, if that is not there -/
def b5Z (d8 : List (Int × List Int)) (f : Int × List Int) (out : List (Int × List Int)) (r : Int × Int × List Int) : List (Int × List Int) :=
  if f.1 = r.1 then (if G6 d8 (r.2.1, vals r.2.2 f.2) then out else x6 out (r.2.1, vals r.2.2 f.2)) else out
def b5V (l : List (Int × Int × List Int)) (d8 : List (Int × List Int)) (out : List (Int × List Int)) (f : Int × List Int) : List (Int × List Int) := l.foldl (b5Z d8 f) out
def b3R (l : List (Int × Int × List Int)) (d8 : List (Int × List Int)) : List (Int × List Int) := d8.foldl (b5V l d8) []
end Go.Proofs.YtdopeopehgdccaaGreat

namespace Go.Proofs.YtdopeopehgdccaaGreat
set_option linter.unusedVariables false
set_option linter.unusedSimpArgs false
theorem J1 {s : List Int} {l : List (Int × List Int)} (h : B7 s l = true) : l.length ≤ 24 ∧ ∀ f ∈ l, H2 s f = true := by
  simp only [B7, a0f, List.drop_zero, Bool.and_eq_true, decide_eq_true_eq, List.all_eq_true] at h
  exact ⟨by omega, h.1.1⟩
theorem U4 {s : List Int} {f : Int × List Int} (h : H2 s f = true) : f.2.length ≤ 3 := by
  simp only [H2, Bool.and_eq_true, decide_eq_true_eq] at h
  have := V6 h.1
  simp only [at0] at h; omega
theorem b1L {v : List Int} (h : M6 v = true) : ∀ x ∈ v, 0 ≤ x ∧ x ≤ 9 := by
  simp only [M6, Bool.not_eq_true', List.any_eq_false, Bool.not_eq_true] at h
  intro x hx
  have := h x hx
  simp [inR] at this; omega
theorem b1Z {v : List Int} (h : ∀ x ∈ v, 0 ≤ x ∧ x ≤ 9) : M6 v = true := by
  simp only [M6, Bool.not_eq_true', List.any_eq_false, Bool.not_eq_true]
  intro x hx
  have := h x hx
  simp [inR]; omega
def b7b (s : List Int) (l : List (Int × Int × List Int)) (d8 : List (Int × List Int)) : List (Int × List Int) := if a5s s l && B7 s d8 then b3R l d8 else []
/- the closure -/
def a5t (l : List (Int × Int × List Int)) (d8 : List (Int × List Int)) : Nat → List (Int × List Int)
  | 0 => d8
  | n + 1 => (b3R l (a5t l d8 n)).foldl x6 (a5t l d8 n)
def b5y (l : List (Int × Int × List Int)) (d8 : List (Int × List Int)) : List (Int × List Int) := a5t l d8 6001
theorem a1Y : ∀ {n : Nat} {l : List Nat}, l.Nodup → (∀ x ∈ l, x < n) → l.length ≤ n
  | 0, l, _, h => by
    cases l with
    | nil => simp
    | cons x l => exact absurd (h x (by simp)) (by omega)
  | n + 1, l, hd, h => by
    by_cases hm : n ∈ l
    · have h1 := a1Y (n := n) (l := l.erase n) (hd.erase n) fun x hx => by
        have h2 := (hd.mem_erase_iff).1 hx
        have := h x h2.2; omega
      rw [List.length_erase_of_mem hm] at h1; omega
    · have h1 := a1Y (n := n) (l := l) hd fun x hx => by
        have h2 := h x hx
        have : x ≠ n := fun e => hm (e ▸ hx)
        omega
      omega
def a2h : List Int → Nat
  | [] => 0
  | v :: l => (v.toNat + 1) + 11 * a2h l
theorem a8P : ∀ {a b : List Int}, (∀ x ∈ a, 0 ≤ x ∧ x ≤ 9) → (∀ x ∈ b, 0 ≤ x ∧ x ≤ 9) → a2h a = a2h b → a = b
  | [], [], _, _, _ => rfl
  | [], y :: b, _, _, h => by simp [a2h] at h; omega
  | x :: a, [], _, _, h => by simp [a2h] at h
  | x :: a, y :: b, ha, hb, h => by
    have h1 := ha x (by simp)
    have h2 := hb y (by simp)
    simp only [a2h] at h
    rw [a8P (a := a) (b := b) (fun z hz => ha z (by simp [hz])) (fun z hz => hb z (by simp [hz])) (by omega), show x = y by omega]
theorem b0J : ∀ {n : Nat} {a : List Int}, (∀ x ∈ a, 0 ≤ x ∧ x ≤ 9) → a.length ≤ n → a2h a < 11 ^ n
  | n, [], _, _ => by simp [a2h]; exact Nat.pow_pos (by decide)
  | 0, x :: a, _, h => by simp at h
  | n + 1, x :: a, ha, h => by
    have h1 := b0J (n := n) (a := a) (fun z hz => ha z (by simp [hz])) (by simpa using h)
    have h2 := ha x (by simp)
    simp only [a2h, Nat.pow_succ]; omega
def b1T (f : Int × List Int) : Nat := f.1.toNat + 4 * a2h f.2
theorem a4c {s : List Int} {f : Int × List Int} (h : H2 s f = true) : 0 ≤ f.1 ∧ f.1 < 4 := by
  simp only [H2, Bool.and_eq_true, decide_eq_true_eq] at h
  have h1 := V6 h.1
  have h2 := h.1
  simp only [G5, L5, inR, Bool.and_eq_true, decide_eq_true_eq] at h2
  omega
theorem X5 {s : List Int} {f : Int × List Int} (h : H2 s f = true) : ∀ x ∈ f.2, 0 ≤ x ∧ x ≤ 9 := by
  simp only [H2, Bool.and_eq_true] at h
  exact b1L h.2.2
theorem b2p {s : List Int} {D : List (Int × List Int)} (hd : D.Nodup) (h : ∀ f ∈ D, H2 s f = true) : D.length ≤ 5324 := by
  have h1 : (D.map b1T).Nodup := by
    unfold List.Nodup at hd ⊢
    rw [List.pairwise_map]
    refine List.Pairwise.imp_of_mem (fun {a b} ha hb hab e => hab ?_) hd
    have ra := a4c (h a ha)
    have rb := a4c (h b hb)
    simp only [b1T] at e
    have e2 := a8P (X5 (h a ha)) (X5 (h b hb)) (by omega)
    exact Prod.ext (by omega) e2
  have h2 := a1Y (n := 5324) h1 fun x hx => by
    obtain ⟨f, hf, rfl⟩ := List.mem_map.1 hx
    have r := a4c (h f hf)
    have c := b0J (n := 3) (X5 (h f hf)) (U4 (h f hf))
    unfold b1T; omega
  simpa using h2
theorem b0G {α : Type} {p : α → Bool} {f y : α} : ∀ {l : List α}, y ∈ l → y ∈ G4 p f l
  | x :: l, h => by
    simp only [G4]
    simp only [List.mem_cons] at h
    split
    · simp [h]
    · rcases h with h | h
      · simp [h]
      · simp [b0G h]
theorem a8v {α : Type} {p : α → Bool} {f : α} : ∀ {l : List α}, l.any p = true → f ∈ G4 p f l
  | x :: l, h => by
    simp only [G4]
    split
    · simp
    · rename_i h1
      simp only [List.any_cons, h1, Bool.false_or] at h
      simp [a8v h]
theorem b0l {l : List (Int × List Int)} {f y : Int × List Int} (h : y ∈ l) : y ∈ x6 l f := by
  unfold x6 O9
  split
  · exact h
  · split
    · exact b0G h
    · simp [h]
theorem b0I {l : List (Int × List Int)} {f : Int × List Int} : G6 l f = true ↔ f ∈ l := by
  unfold G6
  rw [List.any_eq_true]
  constructor
  · rintro ⟨x, hx, e⟩
    rw [decide_eq_true_eq, a2n] at e
    exact e ▸ hx
  · intro h
    exact ⟨f, h, by rw [decide_eq_true_eq, a2n]⟩
theorem b2y {l : List (Int × List Int)} {f : Int × List Int} (h : G6 l f = false) : f ∈ x6 l f := by
  unfold x6 O9
  rw [h]
  simp only [Bool.false_eq_true, if_false]
  split
  · rename_i h1; exact a8v h1
  · simp
def b6J (s : List Int) (x D : List (Int × List Int)) : Prop := D.Nodup ∧ (∀ f ∈ D, f ∈ x) ∧ x.length ≤ 24 + D.length ∧ ∀ f ∈ x, H2 s f = true
def b7k (l : List (Int × Int × List Int)) (d8 : List (Int × List Int)) (n : Nat) : Prop := ∃ s, a5s s l = true ∧ ∃ D, b6J s (a5t l d8 n) D ∧ n ≤ D.length
def b7a (s : List Int) (l : List (Int × Int × List Int)) (d8 : List (Int × List Int)) : List (Int × List Int) := if a5s s l && B7 s d8 then b5y l d8 else []
end Go.Proofs.YtdopeopehgdccaaGreat

namespace Go.Proofs.YtdopeopehgdccaaGreat
set_option linter.unusedVariables false
set_option linter.unusedSimpArgs false
/-- no value for t -/
def unb (b : List Int × List Int) (t : Int) : Bool := !(b.1.take (min b.1.length b.2.length)).any fun x => decide (x = t)
theorem a7C {α : Type} {p : α → Bool} {s : List α} : E8 p s < 0 ↔ s.any p = false := by
  unfold E8
  by_cases h : s.any p = true
  · rw [if_pos h]; simp [h]
  · rw [if_neg h]; simp at h; simp; exact h
theorem w8 {b : List Int × List Int} {t : Int} : unb b t = decide (E8 (fun x => decide (x = t)) (b.1.take (min b.1.length b.2.length)) < 0) := by
  rw [unb, Bool.eq_iff_iff, decide_eq_true_eq, a7C]; simp
theorem a1B {V W : List Int} {p : Int → Bool} {g : Nat} (h : g < V.length) (h2 : g < W.length) : ((V.take (min V.length W.length)).drop g).any p = (p V[g] || ((V.take (min V.length W.length)).drop (g + 1)).any p) := by
  rw [List.drop_eq_getElem_cons (by simp; omega)]
  simp
theorem a3g {V W : List Int} {p : Int → Bool} {g : Nat} (h : ¬ (g < V.length ∧ g < W.length)) : ((V.take (min V.length W.length)).drop g).any p = false := by
  rw [List.drop_eq_nil_of_le (by simp; omega)]; rfl
def B1 (x : List Int × List Int) (t v : Int) : List Int × List Int := if inR t 10 17 && unb x t then (x.1 ++ [t], x.2 ++ [v]) else x
def y4 (b : List Int × List Int) (l : List (Int × Int)) : List Int × List Int := l.foldl (fun x p => B1 x p.1 p.2) b
def okV (b : List Int × List Int) : List (Int × Int) → Bool
  | [] => true
  | p :: l => decide (w4 (B1 b p.1 p.2) p.1 = p.2) && okV (B1 b p.1 p.2) l
def o4 (b : List Int × List Int) (a f : Int × List Int) : Bool := decide (a.1 = f.1) && (decide (a.2.length = f.2.length) && (decide (b.1.length = b.2.length) && okV b (a.2.zip f.2)))
def r8 (b : List Int × List Int) (a f : Int × List Int) : List Int × List Int := y4 b (a.2.zip f.2)
theorem w7 {b : List Int × List Int} {t v : List Int} {g : Nat} (h : g < t.length) (h2 : g < v.length) : y4 b ((t.zip v).take (g + 1)) = B1 (y4 b ((t.zip v).take g)) t[g] v[g] := by
  unfold y4
  rw [List.take_succ_eq_append_getElem (by simp; omega), List.foldl_append]
  simp
theorem t8 {b : List Int × List Int} {t v : List Int} {g : Nat} (h : g < t.length) (h2 : g < v.length) : okV b ((t.zip v).drop g) = (decide (w4 (B1 b t[g] v[g]) t[g] = v[g]) && okV (B1 b t[g] v[g]) ((t.zip v).drop (g + 1))) := by
  rw [List.drop_eq_getElem_cons (by simp; omega)]
  simp [okV]
theorem w6 {b : List Int × List Int} {t v : List Int} {g : Nat} (h : t.length ≤ g) : okV b ((t.zip v).drop g) = true := by
  rw [List.drop_eq_nil_of_le (by simp; omega)]; rfl
theorem y7 {b : List Int × List Int} {t v : List Int} {g : Nat} (h : t.length ≤ g) : y4 b ((t.zip v).take g) = y4 b (t.zip v) := by
  rw [List.take_of_length_le (by simp; omega)]
theorem a9B {x : List Int × List Int} {t v : Int} : (B1 x t v).1.length ≤ x.1.length + 1 ∧ (B1 x t v).2.length ≤ x.2.length + 1 := by
  unfold B1; split <;> simp
theorem b1l {x : List Int × List Int} {t v : Int} (h : x.1.length = x.2.length) : (B1 x t v).1.length = (B1 x t v).2.length := by
  unfold B1; split <;> simp [h]
theorem a5b : ∀ {l : List (Int × Int)} {x : List Int × List Int}, (y4 x l).1.length ≤ x.1.length + l.length ∧ (y4 x l).2.length ≤ x.2.length + l.length
  | [], x => by simp [y4]
  | p :: l, x => by
    have h1 := a5b (l := l) (x := B1 x p.1 p.2)
    have h2 := a9B (x := x) (t := p.1) (v := p.2)
    simp only [y4, List.foldl_cons, List.length_cons] at h1 ⊢; omega
theorem a6n : ∀ {l : List (Int × Int)} {x : List Int × List Int}, x.1.length = x.2.length → (y4 x l).1.length = (y4 x l).2.length
  | [], x, h => h
  | p :: l, x, h => by
    have := a6n (l := l) (b1l (t := p.1) (v := p.2) h)
    simpa only [y4, List.foldl_cons] using this
theorem b2z {b : List Int × List Int} {t v : List Int} {g : Nat} : (y4 b ((t.zip v).take g)).1.length ≤ b.1.length + t.length ∧ (y4 b ((t.zip v).take g)).2.length ≤ b.2.length + t.length := by
  have h := a5b (l := (t.zip v).take g) (x := b)
  have h2 : ((t.zip v).take g).length ≤ t.length := by simp; omega
  omega
/-- a variable just bound has its value -/
theorem b4q {x : List Int × List Int} {t v : Int} (h : x.1.length = x.2.length) (h1 : inR t 10 17 = true) (h2 : unb x t = true) : w4 (x.1 ++ [t], x.2 ++ [v]) t = v := by
  have e := a9W (b := (x.1 ++ [t], x.2 ++ [v])) (t := t) (g := x.1.length) h1 (by simp) (by simp [h]) (by simp) (by
    intro y hy
    simp only [unb, h, Nat.min_self, Bool.not_eq_true', List.any_eq_false] at h2
    rw [List.take_append_of_le_length (Nat.le_refl _), List.take_length] at hy
    have := h2 y (by rw [← h, List.take_length]; exact hy)
    simpa using this)
  rw [← e]
  simp [h]
theorem b5t {x : List Int × List Int} {t v : Int} (h : (inR t 10 17 && unb x t) = false) : B1 x t v = x := by unfold B1; rw [h]; simp
theorem b4a {x : List Int × List Int} {t v : Int} (h : (inR t 10 17 && unb x t) = true) : B1 x t v = (x.1 ++ [t], x.2 ++ [v]) := by unfold B1; rw [h]; simp
theorem H3 {x : List Int × List Int} {t v : Int} (h : x.1.length = x.2.length) : decide (w4 (B1 x t v) t = v) = (inR t 10 17 && unb x t || decide (w4 x t = v)) := by
  cases hc : inR t 10 17 && unb x t with
  | false => rw [b5t hc]; simp
  | true =>
    rw [b4a hc]
    rw [Bool.and_eq_true] at hc
    rw [b4q h hc.1 hc.2]; simp
/- all bindings -/
def I3 (b : List Int × List Int) (a : Int × List Int) (d8 : List (Int × List Int)) : List (List Int × List Int) := (d8.filter (o4 b a)).map (r8 b a)
def C0 (l : List (List Int × List Int)) (a : Int × List Int) (d8 : List (Int × List Int)) : List (List Int × List Int) := l.flatMap fun b => I3 b a d8
theorem T2 {b : List Int × List Int} {a : Int × List Int} : I3 b a [] = [] := rfl
theorem P7 {b : List Int × List Int} {a f : Int × List Int} {l : List (Int × List Int)} : I3 b a (l ++ [f]) = if o4 b a f then I3 b a l ++ [r8 b a f] else I3 b a l := by
  unfold I3
  cases h : o4 b a f <;> simp [List.filter_append, h]
theorem T7 {a : Int × List Int} {d8 : List (Int × List Int)} : C0 [] a d8 = [] := rfl
theorem P8 {l : List (List Int × List Int)} {b : List Int × List Int} {a : Int × List Int} {d8 : List (Int × List Int)} : C0 (l ++ [b]) a d8 = C0 l a d8 ++ I3 b a d8 := by
  simp [C0]
theorem a3Z {b : List Int × List Int} {a : Int × List Int} {d8 : List (Int × List Int)} : (I3 b a d8).length ≤ d8.length := by
  unfold I3; rw [List.length_map]; exact List.length_filter_le _ _
theorem b3d {n k : Nat} {a : Int × List Int} {d8 : List (Int × List Int)} {l : List (List Int × List Int)} (ha : a.2.length ≤ k) (h : ∀ b ∈ l, b.1.length ≤ n ∧ b.2.length ≤ n) : ∀ b ∈ C0 l a d8, b.1.length ≤ n + k ∧ b.2.length ≤ n + k := by
  intro b hb
  simp only [C0, I3, List.mem_flatMap, List.mem_map] at hb
  obtain ⟨x, hx, f, _, rfl⟩ := hb
  have h1 := h x hx
  have h2 := a5b (l := a.2.zip f.2) (x := x)
  have h3 : (a.2.zip f.2).length ≤ a.2.length := by simp; omega
  unfold r8; omega
def t7 (d7 : List (Int × List Int)) (d8 : List (Int × List Int)) : List (List Int × List Int) := d7.foldl (fun l a => C0 l a d8) [([], [])]
theorem a0B {d8 : List (Int × List Int)} : t7 [] d8 = [([], [])] := rfl
theorem Z0 {d7 d8 : List (Int × List Int)} {a : Int × List Int} : t7 (d7 ++ [a]) d8 = C0 (t7 d7 d8) a d8 := by
  simp [t7]
/- tuples in order, each once -/
def L9 (l : List (List Int)) (t : List Int) : Bool := l.any fun x => decide (x = t)
def ltT (a b : List Int) : Bool := decide (E1 a b < 0)
def K3 (l : List (List Int)) (t : List Int) : List (List Int) := O9 (L9 l t) (ltT t) t l
theorem a6o {l : List (List Int)} {t : List Int} (h : L9 l t = true) : K3 l t = l := by simp [K3, O9, h]
theorem a5W {l : List (List Int)} {f : List Int} (h : L9 l f = false) : K3 l f = l.take (if E8 (fun z => decide (0 < E1 z f)) l < 0 then l.length else (E8 (fun z => decide (0 < E1 z f)) l).toNat) ++ f :: l.drop (if E8 (fun z => decide (0 < E1 z f)) l < 0 then l.length else (E8 (fun z => decide (0 < E1 z f)) l).toNat) := by
  rw [K3, h]
  refine b0H fun y _ => ?_
  have := a6m (l := f) (m := y)
  rw [ltT, decide_eq_decide]; omega
theorem b3y {l : List (List Int)} {t : List Int} : (K3 l t).length ≤ l.length + 1 := a3X
def M0 (h : List Int) (l : List (List Int × List Int)) : List (List Int) := l.foldl (fun out b => K3 out (h.map (w4 b))) []
theorem a1k {h : List Int} : M0 h [] = [] := rfl
theorem a0x {h : List Int} {l : List (List Int × List Int)} {b : List Int × List Int} : M0 h (l ++ [b]) = K3 (M0 h l) (h.map (w4 b)) := by simp [M0]
theorem a6j {h : List Int} : ∀ {l : List (List Int × List Int)} {out : List (List Int)}, (l.foldl (fun out b => K3 out (h.map (w4 b))) out).length ≤ out.length + l.length ∧ ((∀ t ∈ out, t.length ≤ h.length) → ∀ t ∈ l.foldl (fun out b => K3 out (h.map (w4 b))) out, t.length ≤ h.length)
  | [], out => by simp
  | b :: l, out => by
    have h1 := a6j (h := h) (l := l) (out := K3 out (h.map (w4 b)))
    have h2 := b3y (l := out) (t := h.map (w4 b))
    refine ⟨by simp only [List.foldl_cons, List.length_cons]; omega, fun ho => h1.2 fun t ht => ?_⟩
    rcases a3N ht with ht | rfl
    · exact ho t ht
    · simp
theorem a8i {h : List Int} {l : List (List Int × List Int)} : (M0 h l).length ≤ l.length := by have := (a6j (h := h) (l := l) (out := [])).1; simpa [M0] using this
theorem b0D {h : List Int} {l : List (List Int × List Int)} : ∀ t ∈ M0 h l, t.length ≤ h.length := (a6j (h := h) (l := l) (out := [])).2 (by simp)
theorem C1 {s : List Int} {q : List Int × List (Int × List Int)} (h : y8 s q = true) : q.2.length ≤ 4 ∧ q.1.length ≤ 3 ∧ ∀ a ∈ q.2, a.2.length ≤ 3 := by
  simp only [y8, a0X, inR, Bool.and_eq_true, decide_eq_true_eq, Bool.not_eq_true', List.any_eq_false, Bool.not_eq_true] at h
  refine ⟨by omega, by omega, fun a ha => ?_⟩
  have h1 := h.2.2.1 a ha
  have h1 : I2 s a = true := by simpa using h1
  simp only [I2, Bool.and_eq_true, decide_eq_true_eq] at h1
  have := V6 h1.1
  simp only [at0] at h1; omega
def b5j (s : List Int) (q : List Int × List (Int × List Int)) (d8 : List (Int × List Int)) : List (List Int) := if y8 s q && B7 s d8 then M0 q.1 (t7 q.2 d8) else []
theorem b1W {n : Nat} {l : List (List Int)} (h : ∀ t ∈ l, t.length ≤ 3) (hn : l.length ≤ n) : o5 H4 l ≤ n * 3 := by
  have h5 := a6s (c := H4) (n := 3) (l := l) fun a ha => by
    have := h a ha
    simp only [H4, a2G]; omega
  omega
end Go.Proofs.YtdopeopehgdccaaGreat

namespace Go.Proofs.YtdopeopehgdccaaGreat
set_option linter.unusedVariables false
set_option linter.unusedSimpArgs false
/-- the first number from v on that is not in u (u holds numbers below 10) -/
def nxt (u : List Int) : Nat → Nat → Nat
  | 0, v => v
  | n + 1, v => if B9 u (v : Int) then nxt u n (v + 1) else v
def I0 (u : List Int) (v : Nat) : Nat := nxt u 11 v
theorem a8d {u : List Int} (hu : ∀ x ∈ u, 0 ≤ x ∧ x ≤ 9) {v : Nat} (h : B9 u (v : Int) = true) : v ≤ 9 := by
  have := (hu _ (a0d.1 h)).2; omega
theorem a9E {u : List Int} (hu : ∀ x ∈ u, 0 ≤ x ∧ x ≤ 9) : ∀ {n v : Nat}, 10 ≤ v + n → nxt u (n + 1) v = nxt u n v
  | 0, v, h => by
    simp only [nxt]
    split
    · rename_i h1; have := a8d hu h1; omega
    · rfl
  | n + 1, v, h => by
    have ih := a9E hu (n := n) (v := v + 1) (by omega)
    show (if B9 u (v : Int) then nxt u (n + 1) (v + 1) else v) = (if B9 u (v : Int) then nxt u n (v + 1) else v)
    rw [ih]
theorem a8D {u : List Int} (hu : ∀ x ∈ u, 0 ≤ x ∧ x ≤ 9) {v : Nat} (h : B9 u (v : Int) = true) : I0 u (v + 1) = I0 u v := by
  have h1 : I0 u v = nxt u 10 (v + 1) := by unfold I0; rw [nxt, if_pos h]
  rw [h1]
  exact a9E hu (by omega)
theorem a7s {u : List Int} {v : Nat} (h : B9 u (v : Int) = false) : I0 u v = v := by
  unfold I0; rw [nxt, if_neg (by simp [h])]
theorem a8B {u u' : List Int} (h : ∀ x, B9 u x = B9 u' x) : ∀ {n v : Nat}, nxt u n v = nxt u' n v
  | 0, v => rfl
  | n + 1, v => by rw [nxt, nxt, h, a8B h]
theorem a3k {u u' : List Int} (h : ∀ x, B9 u x = B9 u' x) : I0 u = I0 u' := funext fun _ => a8B h
/-- the number from which the search for the g-th variable's value starts -/
def fzN (u : List Int) : Nat → Nat
  | 0 => 0
  | g + 1 => I0 u (fzN u g) + 1
theorem a4F {u u' : List Int} (h : ∀ x, B9 u x = B9 u' x) : ∀ {n : Nat}, fzN u n = fzN u' n
  | 0 => rfl
  | n + 1 => by rw [fzN, fzN, a3k h, a4F h]
def a2Z (u : List Int) (n : Nat) : Bool := (List.range n).all fun i => decide (I0 u (fzN u i) ≤ 9)
def C2 (u : List Int) (n : Nat) : List Int := (List.range n).map fun i => (I0 u (fzN u i) : Int)
theorem F9 {u : List Int} : C2 u 0 = [] := rfl
theorem G0 {u : List Int} {n : Nat} : C2 u (n + 1) = C2 u n ++ [(I0 u (fzN u n) : Int)] := by
  unfold C2; rw [List.range_succ, List.map_append]; rfl
theorem a4a {u : List Int} {n : Nat} : (C2 u n).length = n := by simp [C2]
theorem a9T {u : List Int} {i n : Nat} (h : i < n) (h2 : ¬ I0 u (fzN u i) ≤ 9) : a2Z u n = false := by
  rw [← Bool.not_eq_true, a2Z, List.all_eq_true]
  intro e
  have := e i (List.mem_range.2 h)
  rw [decide_eq_true_eq] at this
  exact h2 this
theorem a8F {u : List Int} {n : Nat} (h : ∀ i, i < n → I0 u (fzN u i) ≤ 9) : a2Z u n = true := by
  rw [a2Z, List.all_eq_true]
  intro i hi
  rw [decide_eq_true_eq]
  exact h i (List.mem_range.1 hi)
theorem b2w {u : List Int} {g : Nat} (h : ∀ i, i < g → I0 u (fzN u i) ≤ 9) : fzN u g ≤ 10 := by
  cases g with
  | zero => simp [fzN]
  | succ g => have := h g (by omega); simp only [fzN]; omega
theorem b1k {u : List Int} {g : Nat} (h : ∀ i, i < g → I0 u (fzN u i) ≤ 9) (h1 : I0 u (fzN u g) ≤ 9) : ∀ i, i < g + 1 → I0 u (fzN u i) ≤ 9 := by
  intro i hi
  rcases Nat.lt_succ_iff_lt_or_eq.1 hi with h2 | rfl
  · exact h i h2
  · exact h1
def B2 (d7 : List (Int × List Int)) : List Int := f5 (fun t => inR t 10 17) d7
def b3V (d7 : List (Int × List Int)) : List Int := f5 (fun t => inR t 0 9) d7
def U2 (d7 : List (Int × List Int)) (b : List Int × List Int) : List (Int × List Int) := d7.foldl (fun out a => x6 out (E2 a b)) []
theorem G8 {b : List Int × List Int} : U2 [] b = [] := rfl
theorem F8 {d7 : List (Int × List Int)} {a : Int × List Int} {b : List Int × List Int} : U2 (d7 ++ [a]) b = x6 (U2 d7 b) (E2 a b) := by simp [U2]
theorem b0t : ∀ {d7 out : List (Int × List Int)} {b : List Int × List Int}, (d7.foldl (fun out a => x6 out (E2 a b)) out).length ≤ out.length + d7.length
  | [], out, b => by simp
  | a :: d7, out, b => by
    have h1 := b0t (d7 := d7) (out := x6 out (E2 a b)) (b := b)
    have h2 := a3X (h := G6 out (E2 a b)) (p := ltF (E2 a b)) (f := E2 a b) (l := out)
    simp only [List.foldl_cons, List.length_cons]
    unfold x6 at h1 ⊢; omega
theorem a7A {d7 : List (Int × List Int)} {b : List Int × List Int} : (U2 d7 b).length ≤ d7.length := by
  have := b0t (d7 := d7) (out := []) (b := b); simpa [U2] using this
theorem b1i {n : Nat} : ∀ {d7 out : List (Int × List Int)} {b : List Int × List Int}, (∀ a ∈ d7, a.2.length ≤ n) → (∀ f ∈ out, f.2.length ≤ n) → ∀ f ∈ d7.foldl (fun out a => x6 out (E2 a b)) out, f.2.length ≤ n
  | [], out, b, _, h => h
  | a :: d7, out, b, ha, h => by
    refine b1i (d7 := d7) (out := x6 out (E2 a b)) (fun x hx => ha x (by simp [hx])) fun f hf => ?_
    rcases a3N hf with hf | rfl
    · exact h f hf
    · simp only [E2, List.length_map]; exact ha a (by simp)
theorem b5J {n : Nat} {d7 : List (Int × List Int)} {b : List Int × List Int} (h : ∀ a ∈ d7, a.2.length ≤ n) : ∀ f ∈ U2 d7 b, f.2.length ≤ n := b1i h (by simp)
theorem b4z {n g : Nat} {d7 : List (Int × List Int)} {b : List Int × List Int} (h : ∀ a ∈ d7, a.2.length ≤ n) : ∀ f ∈ U2 (d7.take g) b, f.2.length ≤ n := b5J fun a ha => h a (List.mem_of_mem_take ha)
def fzB (u : List Int) (d7 : List (Int × List Int)) : Bool := a2Z u (B2 d7).length
def fzV (u : List Int) (d7 : List (Int × List Int)) : List Int := cond (fzB u d7) (B2 d7) []
def fzX (u : List Int) (d7 : List (Int × List Int)) : List Int := cond (fzB u d7) (C2 u (B2 d7).length) []
def fzF (u : List Int) (d7 : List (Int × List Int)) : List (Int × List Int) := cond (fzB u d7) (U2 d7 (B2 d7, C2 u (B2 d7).length)) []
theorem a2B {d7 : List (Int × List Int)} : ∀ x ∈ b3V d7, 0 ≤ x ∧ x ≤ 9 := by
  intro x hx
  unfold b3V f5 at hx
  rw [a3W, List.mem_filter] at hx
  have := hx.2
  simpa [inR] using this
theorem a7H {d7 : List (Int × List Int)} : ∀ x ∈ B2 d7, 10 ≤ x ∧ x ≤ 17 := by
  intro x hx
  unfold B2 f5 at hx
  rw [a3W, List.mem_filter] at hx
  have := hx.2
  simpa [inR] using this
theorem a4L {u u' : List Int} (h : ∀ x, B9 u x = B9 u' x) {n : Nat} : a2Z u n = a2Z u' n ∧ C2 u n = C2 u' n := by
  constructor
  · unfold a2Z; congr 1; funext i; rw [a3k h, a4F h]
  · unfold C2; congr 1; funext i; rw [a3k h, a4F h]
theorem b3l {u u' : List Int} (h : ∀ x, x ∈ u ↔ x ∈ u') : ∀ x, B9 u x = B9 u' x := by
  intro x
  rw [Bool.eq_iff_iff, a0d, a0d, h]
end Go.Proofs.YtdopeopehgdccaaGreat
