import Derived.Test.YtdopeopehgdccaaGreatBc
import Derived.Test.YtdopeopehgdccaaGreatBb
import Derived.Lib.SlicesCompact
namespace Go.Proofs.YtdopeopehgdccaaGreat
open Go.RowKit
set_option linter.unusedVariables false
/-- g, with what it has captured, says p of every two elements, in every later world -/
def FnP2 {α : Type} (P : Program) (w : World) (L : List Nat) (g : FuncId) (caps : List Value) (E : Enc α) (val : List Value → Value) (p : α → α → Bool) : Prop :=
  a5o P g ∧ ∀ w', Keep w L w' → ∀ cs x ds y, Ro w' [] E cs x → Ro w' [] E ds y → Calls P g (val cs :: val ds :: caps).toArray w' fun e w'' => e = .returned (.bool (p x y)) ∧ Ext w' w''
section
variable {P : Program} {α : Type} {E : Enc α} {w w0 : World} {L L0 Lp : List Nat} {pre rest : List HP} {g : FuncId} {caps : List Value} {val : List Value → Value} {p : α → α → Bool}
end
section
variable {P : Program} {Q : Exit → Act → World → Prop} {n : Nat} {w0 : World} {L0 : List Nat} {fr : Fr} {H : List HP} {d : Nat} {ty : TypeId} {pos : String} {af : Array Edge} {g : Option (Nat × Bool)}
end
section
variable {P : Program} {w : World} {L : List Nat} {g : FuncId} {caps : List Value} {RR : World → List Nat → Prop}
theorem FnP2.ofFact {p : (Int × List Int) → (Int × List Int) → Bool} (tr : ∀ {x0 : Int} {ax1 : Option Addr} {mx1 cx1 : Nat} {x1 : List Int} {y0 : Int} {ay1 : Option Addr} {my1 cy1 : Nat} {y1 : List Int}, Tr P g (.agg #[.int .i64 x0, .slice ax1 mx1 cx1] :: .agg #[.int .i64 y0, .slice ay1 my1 cy1] :: caps) (fun w L => (I64 x0 ∧ Ro w L eIs [.slice ax1 mx1 cx1] x1 ∧ I64 y0 ∧ Ro w L eIs [.slice ay1 my1 cy1] y1) ∧ RR w L) [] (κ := Unit) (fun _ => True) (fun _ => .bool (p (x0, x1) (y0, y1))) (fun _ => [])) (hR : ∀ w', Keep w L w' → RR w' []) : FnP2 P w L g caps z7 Y4 p :=
  ⟨(tr (x0 := 0) (x1 := []) (ax1 := none) (mx1 := 0) (cx1 := 0) (y0 := 0) (y1 := []) (ay1 := none) (my1 := 0) (cy1 := 0)).1, fun w' k cs x ds y hx hy => by obtain ⟨a0, c0, rfl, h0, h1⟩ := Ro.pFact hx; obtain ⟨b0, e0, rfl, k0, k1⟩ := Ro.pFact hy; exact Tr.bool tr ⟨⟨h0, h1, k0, k1⟩, hR w' k⟩⟩
theorem FnP2.ofAccess {p : (Int × List Int) → (Int × List Int) → Bool} (tr : ∀ {x0 : Int} {ax1 : Option Addr} {mx1 cx1 : Nat} {x1 : List Int} {y0 : Int} {ay1 : Option Addr} {my1 cy1 : Nat} {y1 : List Int}, Tr P g (.agg #[.int .i64 x0, .slice ax1 mx1 cx1] :: .agg #[.int .i64 y0, .slice ay1 my1 cy1] :: caps) (fun w L => (I64 x0 ∧ Ro w L eIs [.slice ax1 mx1 cx1] x1 ∧ I64 y0 ∧ Ro w L eIs [.slice ay1 my1 cy1] y1) ∧ RR w L) [] (κ := Unit) (fun _ => True) (fun _ => .bool (p (x0, x1) (y0, y1))) (fun _ => [])) (hR : ∀ w', Keep w L w' → RR w' []) : FnP2 P w L g caps E7 Y4 p :=
  ⟨(tr (x0 := 0) (x1 := []) (ax1 := none) (mx1 := 0) (cx1 := 0) (y0 := 0) (y1 := []) (ay1 := none) (my1 := 0) (cy1 := 0)).1, fun w' k cs x ds y hx hy => by obtain ⟨a0, c0, rfl, h0, h1⟩ := Ro.pAccess hx; obtain ⟨b0, e0, rfl, k0, k1⟩ := Ro.pAccess hy; exact Tr.bool tr ⟨⟨h0, h1, k0, k1⟩, hR w' k⟩⟩
theorem FnP2.ofAtom {p : (Int × List Int) → (Int × List Int) → Bool} (tr : ∀ {x0 : Int} {ax1 : Option Addr} {mx1 cx1 : Nat} {x1 : List Int} {y0 : Int} {ay1 : Option Addr} {my1 cy1 : Nat} {y1 : List Int}, Tr P g (.agg #[.int .i64 x0, .slice ax1 mx1 cx1] :: .agg #[.int .i64 y0, .slice ay1 my1 cy1] :: caps) (fun w L => (I64 x0 ∧ Ro w L eIs [.slice ax1 mx1 cx1] x1 ∧ I64 y0 ∧ Ro w L eIs [.slice ay1 my1 cy1] y1) ∧ RR w L) [] (κ := Unit) (fun _ => True) (fun _ => .bool (p (x0, x1) (y0, y1))) (fun _ => [])) (hR : ∀ w', Keep w L w' → RR w' []) : FnP2 P w L g caps a1h Y4 p :=
  ⟨(tr (x0 := 0) (x1 := []) (ax1 := none) (mx1 := 0) (cx1 := 0) (y0 := 0) (y1 := []) (ay1 := none) (my1 := 0) (cy1 := 0)).1, fun w' k cs x ds y hx hy => by obtain ⟨a0, c0, rfl, h0, h1⟩ := Ro.pAtom hx; obtain ⟨b0, e0, rfl, k0, k1⟩ := Ro.pAtom hy; exact Tr.bool tr ⟨⟨h0, h1, k0, k1⟩, hR w' k⟩⟩
theorem FnP2.ofIs {p : List Int → List Int → Bool} (tr : ∀ {ax : Option Addr} {mx cx : Nat} {x : List Int} {ay : Option Addr} {my cy : Nat} {y : List Int}, Tr P g (.slice ax mx cx :: .slice ay my cy :: caps) (fun w L => (Ro w L eIs [.slice ax mx cx] x ∧ Ro w L eIs [.slice ay my cy] y) ∧ RR w L) [] (κ := Unit) (fun _ => True) (fun _ => .bool (p x y)) (fun _ => [])) (hR : ∀ w', Keep w L w' → RR w' []) : FnP2 P w L g caps eIs a6c p :=
  ⟨(tr (ax := none) (mx := 0) (cx := 0) (x := []) (ay := none) (my := 0) (cy := 0) (y := [])).1, fun w' k cs x ds y hx hy => by obtain ⟨a, c, rfl⟩ := hx.sl; obtain ⟨b, e, rfl⟩ := hy.sl; exact (tr (x := x) (y := y)).bool ⟨⟨hx, hy⟩, hR w' k⟩⟩
end
end Go.Proofs.YtdopeopehgdccaaGreat

namespace Go.Proofs.YtdopeopehgdccaaGreat
open Go.RowKit
set_option linter.unusedVariables false
/-- of an owned list, whose row is there whole, the elements from j on -/
def owd {α : Type} (e : TypeId) (E : Enc α) (a : Option Addr) (m c : Nat) (xs : List α) (j : Nat) : HP where
  holds w L := ∃ c1 c2 L1 L2, L = L1 ++ L2 ∧ m = xs.length ∧ m ≤ maxLen ∧ c1.length = j * E.k ∧ w5 E w c2 (xs.drop j) L2 true ∧ (row e E.k a m c (c1 ++ c2)).holds w L1
  stable := by
    rintro w w' L ⟨c1, c2, L1, L2, rfl, h1, h2, h3, h4, h5⟩ hb
    exact ⟨c1, c2, L1, L2, rfl, h1, h2, h3, h4.stable fun b h => hb b (by simp [h]), (row e E.k a m c _).stable h5 fun b h => hb b (by simp [h])⟩
  inh := by
    rintro w L ⟨c1, c2, L1, L2, rfl, h1, h2, h3, h4, h5⟩ b hb
    rcases List.mem_append.1 hb with hb | hb
    · exact (row e E.k a m c _).inh h5 b hb
    · exact h4.inh b hb
/-- the same, where element j (cells ce) has been taken out -/
def owt {α : Type} (e : TypeId) (E : Enc α) (a : Option Addr) (m c : Nat) (xs : List α) (j : Nat) (ce : List Value) : HP where
  holds w L := ∃ c1 c2 L1 L2, L = L1 ++ L2 ∧ m = xs.length ∧ m ≤ maxLen ∧ j < xs.length ∧ ce.length = E.k ∧ c1.length = j * E.k ∧ w5 E w c2 (xs.drop (j + 1)) L2 true ∧ (row e E.k a m c (c1 ++ (ce ++ c2))).holds w L1
  stable := by
    rintro w w' L ⟨c1, c2, L1, L2, rfl, h1, h2, h0, h6, h3, h4, h5⟩ hb
    exact ⟨c1, c2, L1, L2, rfl, h1, h2, h0, h6, h3, h4.stable fun b h => hb b (by simp [h]), (row e E.k a m c _).stable h5 fun b h => hb b (by simp [h])⟩
  inh := by
    rintro w L ⟨c1, c2, L1, L2, rfl, h1, h2, h0, h6, h3, h4, h5⟩ b hb
    rcases List.mem_append.1 hb with hb | hb
    · exact (row e E.k a m c _).inh h5 b hb
    · exact h4.inh b hb
section
variable {n : Nat} {w0 : World} {L0 : List Nat} {fr : Fr} {H R : List HP} {G : Act → World → Prop} {α : Type} {E : Enc α} {e : TypeId} {a : Option Addr} {m c : Nat} {xs : List α} {j : Nat}
theorem Ent.od0 (h : Ent n w0 L0 fr (owd e E a m c xs 0 :: R) G) : Ent n w0 L0 fr (ow (Enc.sl e E) [.slice a m c] xs :: R) G := fun ac w h1 h2 => by
  obtain ⟨L, ⟨Lo, LR, rfl, ho, hR⟩, hn, hst⟩ := h2
  obtain ⟨ccs, L1, L2, rfl, g1, g2, g3, g4⟩ := a0H ho
  exact h ac w h1 ⟨(L1 ++ L2) ++ LR, ⟨L1 ++ L2, LR, rfl, ⟨[], ccs, L1, L2, rfl, g1, g2, by simp, g3, g4⟩, hR⟩, hn, hst⟩
theorem Ent.odt (hj : j < xs.length) (h : ∀ ce, Ent n w0 L0 fr (owt e E a m c xs j ce :: ow E ce xs[j] :: R) G) : Ent n w0 L0 fr (owd e E a m c xs j :: R) G := fun ac w h1 h2 => by
  obtain ⟨L, ⟨Lo, LR, rfl, ⟨c1, c2, L1, L2, rfl, g1, g2, g3, g4, g5⟩, hR⟩, hn, hst⟩ := h2
  rw [List.drop_eq_getElem_cons hj] at g4
  obtain ⟨d1, d2, N1, N2, rfl, rfl, k1, k2⟩ := g4
  have hperm : (L1 ++ (N1 ++ N2) ++ LR).Perm ((L1 ++ N2) ++ (N1 ++ LR)) := by
    simp only [List.append_assoc]
    refine List.Perm.append_left L1 ?_
    rw [← List.append_assoc, ← List.append_assoc]
    exact (List.perm_append_comm).append_right LR
  exact h d1 ac w h1 ⟨(L1 ++ N2) ++ (N1 ++ LR), ⟨_, _, rfl, ⟨c1, d2, L1, N2, rfl, g1, g2, hj, E.len k1, g3, k2, g5⟩, N1, LR, rfl, k1, hR⟩, hperm.nodup_iff.1 hn, hst.sublist fun b hb => hperm.mem_iff.2 hb⟩
theorem Ent.otd {ce : List Value} (h : Ent n w0 L0 fr (owd e E a m c xs (j + 1) :: R) G) : Ent n w0 L0 fr (owt e E a m c xs j ce :: R) G := fun ac w h1 h2 => by
  obtain ⟨L, ⟨Lo, LR, rfl, ⟨c1, c2, L1, L2, rfl, g1, g2, g0, g6, g3, g4, g5⟩, hR⟩, hn, hst⟩ := h2
  exact h ac w h1 ⟨(L1 ++ L2) ++ LR, ⟨L1 ++ L2, LR, rfl, ⟨c1 ++ ce, c2, L1, L2, rfl, g1, g2, by rw [List.length_append, g3, g6, Nat.succ_mul], g4, by rw [List.append_assoc]; exact g5⟩, hR⟩, hn, hst⟩
theorem Ent.osl {cs : List Value} (h : ∀ (a : Option Addr) (m c : Nat), cs = [.slice a m c] → m = xs.length → Ent n w0 L0 fr (ow (Enc.sl e E) [.slice a m c] xs :: R) G) : Ent n w0 L0 fr (ow (Enc.sl e E) cs xs :: R) G := fun ac w h1 h2 => by
  obtain ⟨L, ⟨Lx, LR, rfl, hx, hR⟩, hn, hst⟩ := h2
  obtain ⟨a, m, c, ccs, L1, L2, rfl, hm, hx2⟩ := id hx
  exact h a m c rfl hm ac w h1 ⟨Lx ++ LR, ⟨Lx, LR, rfl, hx, hR⟩, hn, hst⟩
theorem Has.owt {ce : List Value} {b o : Nat} (ha : a = some ⟨b, o, none⟩) (hm : Go.Proofs.YtdopeopehgdccaaGreat.owt e E a m c xs j ce ∈ H) : Has w0 L0 H b (o + j * E.k) ce := fun w h => by
  obtain ⟨L', c1, c2, L1, L2, _, g1, g2, hj, g6, g3, g4, h0, g8⟩ := h.mem hm
  rcases g8 with ⟨_, h, _⟩ | ⟨g', cur, h2, h3, h4, h5, h6, h7, _⟩
  · omega
  rw [ha] at h2; cases h2
  intro i v hi
  have hi' : (c1 ++ (ce ++ c2))[j * E.k + i]? = some v := by
    rw [← g3, List.getElem?_append_right (by omega), show c1.length + i - c1.length = i from by omega]
    rw [List.getElem?_append_left (by exact (List.getElem?_eq_some_iff.1 hi).1)]; exact hi
  rw [← h7, List.getElem?_take] at hi'
  split at hi'
  · simpa [World.cell?, h3] using hi'
  · cases hi'
theorem Ent.adrd (hm : owd e E a m c xs j ∈ H) (hlt : 0 < m) (h : ∀ b, a = some ⟨b, 0, none⟩ → Ent n w0 L0 fr H G) : Ent n w0 L0 fr H G := fun ac w h1 h2 => by
  obtain ⟨L, hL⟩ := h2.mem hm
  obtain ⟨c1, c2, L1, L2, _, g1, g2, _, _, g4⟩ := hL
  rcases g4.2 with ⟨_, h0, _⟩ | ⟨g, cur, h3, _⟩
  · omega
  · exact h g h3 ac w h1 h2
end
theorem R8.has {w1 w0 : World} {L1 L0 : List Nat} {b off : Nat} {cs : List Value} (h : R8 w1 L1 w0 L0) (k : ∀ H, Has w0 L0 H b off cs) : ∀ H, Has w1 L1 H b off cs := fun H w hw => k H w (h H w hw)
theorem frB {a b : Bool} (h : a = b) : some (Value.bool a) = some (Value.bool b) := by rw [h]
end Go.Proofs.YtdopeopehgdccaaGreat

namespace Go.Proofs.YtdopeopehgdccaaGreat
set_option linter.unusedVariables false
def K3 (a b : Int) : Int := if a < b then -1 else if b < a then 1 else 0
def E6 : List Int → List Int → Int
  | [], [] => 0
  | [], _ :: _ => -1
  | _ :: _, [] => 1
  | a :: l, b :: m => if K3 a b ≠ 0 then K3 a b else E6 l m
def orI : List Int → Int
  | [] => 0
  | x :: l => if x ≠ 0 then x else orI l
def J0 (a b : Int × List Int) : Int := if K3 a.1 b.1 ≠ 0 then K3 a.1 b.1 else E6 a.2 b.2
theorem b0k {a b : Int} : I64 (K3 a b) := by unfold K3 I64; split; omega; split <;> omega
theorem a9K : ∀ {l m : List Int}, I64 (E6 l m)
  | [], [] => by unfold E6 I64; omega
  | [], _ :: _ => by unfold E6 I64; omega
  | _ :: _, [] => by unfold E6 I64; omega
  | a :: l, b :: m => by unfold E6; split; exact b0k; exact a9K
theorem a8l {a b : Int} : K3 a b = 0 ↔ a = b := by unfold K3; grind
theorem a8j : ∀ {l m : List Int}, E6 l m = 0 ↔ l = m
  | [], [] => by simp [E6]
  | [], _ :: _ => by simp [E6]
  | _ :: _, [] => by simp [E6]
  | a :: l, b :: m => by
    have := a8l (a := a) (b := b)
    have h2 := a8j (l := l) (m := m)
    unfold E6; grind
theorem a3B {a b : Int × List Int} : J0 a b = 0 ↔ a = b := by
  have h1 := a8l (a := a.1) (b := b.1)
  have h2 := a8j (l := a.2) (m := b.2)
  unfold J0
  rcases a with ⟨a1, a2⟩; rcases b with ⟨b1, b2⟩
  grind
/-- slices.EqualFunc -/
def eqP {α : Type} (p : α → α → Bool) : List α → List α → Bool
  | [], [] => true
  | a :: l, b :: m => p a b && eqP p l m
  | _, _ => false
end Go.Proofs.YtdopeopehgdccaaGreat

namespace Go.Proofs.YtdopeopehgdccaaGreat
set_option linter.unusedVariables false
def E5 (l : List (Int × List Int)) (f : Int × List Int) : Bool := l.any fun z => decide (J0 z f = 0)
def E4 (a : Int × List Int) (b : List Int × List Int) : Int × List Int := (a.1, a.2.map (B4 b))
def b5r (q : List Int × List (Int × List Int)) (d6 : List (Int × List Int)) (head : List Int) (b : List Int × List Int) : Bool :=
  decide (b.1.length = b.2.length) && (decide (q.1.map (B4 b) = head) && !q.2.any fun a => !E5 d6 (E4 a b))
theorem Ro.i64A {w : World} {L : List Nat} {e : TypeId} {a : Option Addr} {m c : Nat} {xs : List (Int × List Int)} (h : Ro w L (Enc.sl e (Enc.pair Enc.int (Enc.sl tI Enc.int))) [.slice a m c] xs) : ∀ x ∈ xs, I64 x.1 ∧ ∀ y ∈ x.2, I64 y := by
  intro x hx
  obtain ⟨i, hi, rfl⟩ := List.getElem_of_mem hx
  obtain ⟨_, _, ci, _, h1, _⟩ := h.elem i hi
  obtain ⟨c1, c2, rfl, h2, h3⟩ := h1.pair
  obtain ⟨a', c', rfl⟩ := h3.sl
  exact ⟨h2.int.2, h3.i64⟩
theorem b3f {α : Type} {t : α → Nat} {l : List α} {n : Nat} (h : F0 t l ≤ n) : ∀ x ∈ l, t x ≤ n := by
  intro x hx
  obtain ⟨i, hi, rfl⟩ := List.getElem_of_mem hx
  exact Nat.le_trans (a4o hi) h
theorem a8o {l : List (Int × List Int)} {n : Nat} (h : F0 (fun x => x.2.length) l ≤ n) : ∀ x ∈ l, x.2.length ≤ n := b3f h
end Go.Proofs.YtdopeopehgdccaaGreat

namespace Go.Proofs.YtdopeopehgdccaaGreat
set_option linter.unusedVariables false
def E0 {α : Type} (r : α → α → Bool) : List α → Bool
  | a :: b :: l => r a b && E0 r (b :: l)
  | _ => true
theorem b1x {α : Type} {l : List α} {g : Nat} (h : g < l.length) (h0 : 0 < g) : l.drop (g - 1) = l[g - 1] :: l[g] :: l.drop (g + 1) := by
  rw [List.drop_eq_getElem_cons (by omega), show g - 1 + 1 = g by omega, List.drop_eq_getElem_cons h]
def ltB (a b : Int) : Bool := decide (a < b)
theorem K8 {α : Type} {r : α → α → Bool} {l : List α} {g : Nat} (h : g < l.length) (h0 : 0 < g) : E0 r (l.drop (g - 1)) = (r l[g - 1] l[g] && E0 r (l.drop g)) := by
  rw [b1x h h0, E0, ← List.drop_eq_getElem_cons h]
theorem K7 {α : Type} {r : α → α → Bool} {l : List α} {g : Nat} (h : g = 0) : E0 r (l.drop (g - 1)) = E0 r (l.drop g) := by subst h; rfl
theorem M8 {α : Type} {r : α → α → Bool} {l : List α} {g : Nat} (h : l.length ≤ g) : E0 r (l.drop (g - 1)) = true := by
  have : (l.drop (g - 1)).length ≤ 1 := by simp; omega
  match l.drop (g - 1), this with
  | [], _ => rfl
  | [x], _ => rfl
  | x :: y :: z, h => simp at h
def V7 (m : Int × List Int × Int × Int × Int) (ar : Int) : Bool :=
  E0 ltB m.2.1 && (L6 m.2.1 ar && (inR m.2.2.1 0 9 && (inR m.2.2.2.1 0 99 && inR m.2.2.2.2 1 99)))
def M6 (s : List Int) (m : Int × List Int × Int × Int × Int) : Bool := G0 s m.1 && V7 m (at0 s m.1)
def x8 (s : List Int) (l : List (Int × List Int × Int × Int × Int)) : Bool := K5 s && (decide ((l.length : Int) ≤ 5) && !l.any fun m => !M6 s m)
def O9 (v : List Int) : Bool := E0 ltB v && a1L v
def L8 (l : List (Int × List Int)) (a : Int × List Int) : Bool := l.any fun z => decide (z = a)
def j7 (f8 : List Int) : Nat → List (List Int)
  | 0 => [[]]
  | n + 1 => (j7 f8 n).flatMap fun l => f8.map fun v => l ++ [v]
theorem G7 {f8 : List Int} : ∀ {t : Nat}, ∀ l ∈ j7 f8 t, l.length = t
  | 0, l, h => by simp [j7] at h; simp [h]
  | t + 1, l, h => by
    simp only [j7, List.mem_flatMap, List.mem_map] at h
    obtain ⟨x, hx, v, hv, rfl⟩ := h
    simp [G7 x hx]
theorem J9 {f8 : List Int} : ∀ {t : Nat}, (j7 f8 t).length = f8.length ^ t
  | 0 => rfl
  | t + 1 => by
    simp only [j7, List.length_flatMap, List.length_map]
    rw [Nat.pow_succ, ← J9 (t := t)]
    generalize j7 f8 t = l
    induction l with
    | nil => simp
    | cons x l ih => simp [ih, Nat.succ_mul, Nat.add_comm]
theorem a3f {f8 : List Int} {t : Nat} (h : f8.length ≤ 10) (ht : t ≤ 3) : (j7 f8 t).length ≤ 1000 := by
  rw [J9]
  exact Nat.le_trans (Nat.pow_le_pow_left h t) (Nat.le_trans (Nat.pow_le_pow_right (by decide) ht) (by decide))
theorem a4Y {f8 : List Int} {l : List (List Int)} {k : Nat} (h : f8.length ≤ 10) : ((l.take k).flatMap fun l => f8.map fun v => l ++ [v]).length ≤ k * 10 := by
  simp only [List.length_flatMap, List.length_map]
  induction l generalizing k with
  | nil => simp
  | cons x l ih =>
    cases k with
    | zero => simp
    | succ k => have := ih (k := k); simp only [List.take_succ_cons, List.map_cons, List.sum_cons]; omega
def J2 (f8 : List Int) (log : List (Int × List Int)) (i : Int) (k : Nat) : List (Int × List Int) :=
  ((j7 f8 k).filter fun v => !L8 log (i, v)).map fun v => (i, v)
def d7 (f8 : List Int) (log : List (Int × List Int)) : List (Int × List Int × Int × Int × Int) → Int → List (Int × List Int)
  | [], _ => []
  | m :: l, i => (if m.2.2.1 ≠ 0 then [] else J2 f8 log i m.2.1.length) ++ d7 f8 log l (i + 1)
theorem Q6 {f8 : List Int} {log : List (Int × List Int)} : ∀ {l l' : List (Int × List Int × Int × Int × Int)} {i : Int}, d7 f8 log (l ++ l') i = d7 f8 log l i ++ d7 f8 log l' (i + l.length)
  | [], l', i => by simp [d7]
  | m :: l, l', i => by
    rw [List.cons_append, d7, d7, Q6 (l := l), List.append_assoc, List.length_cons, show i + 1 + (l.length : Int) = i + ((l.length + 1 : Nat) : Int) by omega]
theorem a2N {f8 : List Int} {log : List (Int × List Int)} {i : Int} (h : f8.length ≤ 10) : ∀ {l : List (Int × List Int × Int × Int × Int)}, (∀ m ∈ l, m.2.1.length ≤ 3) → (d7 f8 log l i).length ≤ l.length * 1000
  | [], _ => by simp [d7]
  | m :: l, hm => by
    have h1 := a2N (f8 := f8) (log := log) (i := i + 1) h (l := l) (fun x hx => hm x (by simp [hx]))
    have h2 := a3f (f8 := f8) h (hm m (by simp))
    have h3 := List.length_filter_le (fun v => !L8 log (i, v)) (j7 f8 m.2.1.length)
    simp only [d7, List.length_append, List.length_cons]
    split
    · rw [List.length_nil]; omega
    · simp only [J2, List.length_map]; omega
def Y5 (s : List Int) (l : List (Int × List Int × Int × Int × Int)) (f8 : List Int) (log : List (Int × List Int)) : List (Int × List Int) :=
  if x8 s l && O9 f8 then d7 f8 log l 0 else []
/-- an ascending list between two numbers is short -/
theorem a5a : ∀ {l : List Int} {a b : Int}, E0 ltB l = true → (∀ x ∈ l, a ≤ x ∧ x ≤ b) → a ≤ b + 1 → (l.length : Int) ≤ b - a + 1
  | [], _, _, _, _, _ => by simp; omega
  | [x], a, b, _, h, _ => by have := h x (by simp); simp; omega
  | x :: y :: l, a, b, hc, h, hab => by
    simp only [E0, ltB, Bool.and_eq_true, decide_eq_true_eq] at hc
    have hx := h x (by simp)
    have hge : ∀ z ∈ y :: l, x + 1 ≤ z := by
      have : ∀ {l : List Int} {y : Int}, E0 ltB (y :: l) = true → ∀ z ∈ y :: l, y ≤ z := by
        intro l
        induction l with
        | nil => intro y _ z hz; simp at hz; omega
        | cons u l ih =>
          intro y hc z hz
          simp only [E0, ltB, Bool.and_eq_true, decide_eq_true_eq] at hc
          rcases List.mem_cons.1 hz with rfl | hz
          · omega
          · have := ih hc.2 z hz; omega
      intro z hz
      have := this hc.2 z hz; omega
    have := a5a (l := y :: l) (a := x + 1) (b := b) hc.2 (fun z hz => ⟨hge z hz, (h z (by simp only [List.mem_cons] at hz ⊢; exact .inr hz)).2⟩) (by omega)
    simp only [List.length_cons] at this ⊢; omega
theorem a0c {v : List Int} (h : O9 v = true) : v.length ≤ 10 := by
  simp only [O9, a1L, Bool.and_eq_true, Bool.not_eq_true', List.any_eq_false] at h
  have := a5a (a := 0) (b := 9) h.1 (fun x hx => by have := h.2 x hx; simpa [inR] using this) (by omega)
  omega
theorem b1b {s : List Int} {m : Int × List Int × Int × Int × Int} (h : M6 s m = true) : m.2.1.length ≤ 3 := by
  simp only [M6, V7, L6, Bool.and_eq_true, Bool.not_eq_true', List.any_eq_false] at h
  have h1 := Q8 h.1
  have := a5a (a := 0) (b := at0 s m.1 - 1) h.2.1 (fun x hx => by have := h.2.2.1 x hx; simpa [inR] using this) (by simp only [at0]; omega)
  simp only [at0] at this; omega
theorem a2x {s : List Int} {l : List (Int × List Int × Int × Int × Int)} (h : x8 s l = true) : (∀ m ∈ l, m.2.1.length ≤ 3) ∧ l.length ≤ 5 := by
  simp only [x8, Bool.and_eq_true, Bool.not_eq_true', List.any_eq_false, decide_eq_true_eq] at h
  refine ⟨fun m hm => b1b (s := s) ?_, by omega⟩
  have := h.2.2 m hm
  simpa using this
theorem b0H {f8 : List Int} {log : List (Int × List Int)} : ∀ {l : List (Int × List Int × Int × Int × Int)} {i : Int}, (∀ m ∈ l, m.2.1.length ≤ 3) → ∀ a ∈ d7 f8 log l i, a.2.length ≤ 3
  | [], _, _, a, h => by simp [d7] at h
  | m :: l, i, hm, a, h => by
    simp only [d7, List.mem_append] at h
    rcases h with h | h
    · split at h
      · cases h
      · simp only [J2, List.mem_map, List.mem_filter] at h
        obtain ⟨v, ⟨hv, _⟩, rfl⟩ := h
        have e1 := G7 v hv
        have e2 := hm m (by simp)
        show v.length ≤ 3; omega
    · exact b0H (l := l) (fun x hx => hm x (by simp [hx])) a h
end Go.Proofs.YtdopeopehgdccaaGreat

namespace Go.Proofs.YtdopeopehgdccaaGreat
set_option linter.unusedVariables false
/-- f ahead of the first element of which p is true; nothing if there is none -/
def H8 {α : Type} (p : α → Bool) (f : α) : List α → List α
  | [] => []
  | x :: l => if p x then f :: x :: l else x :: H8 p f l
def P9 {α : Type} (has : Bool) (p : α → Bool) (f : α) (l : List α) : List α := if has then l else if l.any p then H8 p f l else l ++ [f]
section
variable {α : Type} {p q : α → Bool} {f : α}
theorem S0 : ∀ {l : List α}, l.any p = false → H8 p f l = l
  | [], _ => rfl
  | x :: l, h => by
    simp only [List.any_cons, Bool.or_eq_false_iff] at h
    simp [H8, h.1, S0 h.2]
theorem N8 : ∀ {l : List α} {y : α}, H8 p f (l ++ [y]) = if l.any p then H8 p f l ++ [y] else if p y then l ++ [f, y] else l ++ [y]
  | [], y => by simp [H8]
  | x :: l, y => by
    have h := N8 (l := l) (y := y)
    simp only [List.cons_append, H8, List.any_cons, h]
    cases p x <;> cases l.any p <;> cases p y <;> simp
theorem a4u : ∀ {l : List α}, (H8 p f l).length ≤ l.length + 1
  | [] => by simp [H8]
  | x :: l => by
    have := a4u (l := l)
    simp only [H8]; split <;> simp <;> omega
theorem a2i {h : Bool} {l : List α} : (P9 h p f l).length ≤ l.length + 1 := by
  have := a4u (p := p) (f := f) (l := l)
  unfold P9; split; omega; split; omega; simp
theorem a1o {h : Bool} {l : List α} {y : α} (hy : y ∈ P9 h p f l) : y ∈ l ∨ y = f := by
  have ins : ∀ {l : List α}, y ∈ H8 p f l → y ∈ l ∨ y = f := by
    intro l
    induction l with
    | nil => simp [H8]
    | cons x l ih =>
      intro h
      simp only [H8] at h
      split at h
      · simp only [List.mem_cons] at h ⊢; rcases h with h | h | h <;> simp [h]
      · simp only [List.mem_cons] at h ⊢
        rcases h with h | h
        · simp [h]
        · rcases ih h with h | h <;> simp [h]
  unfold P9 at hy
  split at hy
  · exact .inl hy
  · split at hy
    · exact ins hy
    · simpa using hy
theorem b2x {l : List α} (hpq : ∀ y ∈ l, p y = q y) : P9 false p f l = l.take (if F3 q l < 0 then l.length else (F3 q l).toNat) ++ f :: l.drop (if F3 q l < 0 then l.length else (F3 q l).toNat) := by
  have ha : l.any p = l.any q := by
    induction l with
    | nil => rfl
    | cons x l ih => simp [List.any_cons, hpq x (by simp), ih fun y hy => hpq y (by simp [hy])]
  unfold P9 F3
  rw [ha]
  by_cases h : l.any q = true
  · simp only [h, if_true, Bool.false_eq_true, if_false]
    rw [if_neg (by omega), Int.toNat_natCast]
    clear ha
    induction l with
    | nil => simp at h
    | cons x l ih =>
      simp only [H8, List.findIdx_cons, hpq x (by simp)]
      cases hq : q x with
      | true => simp
      | false =>
        simp only [List.any_cons, hq, Bool.false_or] at h
        simp [ih (fun y hy => hpq y (by simp [hy])) h]
  · simp [h]
end
/-- the numbers of a list, each once, ascending -/
def P6 (l : List Int) (x : Int) : Bool := l.any fun y => decide (y = x)
def G2 (l : List Int) (x : Int) : List Int := P9 (P6 l x) (fun y => decide (x < y)) x l
def D4 (l : List Int) : List Int := l.foldl G2 []
theorem a5A : ∀ {a b : List Int}, a.Pairwise (· < ·) → b.Pairwise (· < ·) → (∀ x, x ∈ a ↔ x ∈ b) → a = b
  | [], [], _, _, _ => rfl
  | [], y :: b, _, _, h => by have := (h y).2 (by simp); simp at this
  | x :: a, [], _, _, h => by have := (h x).1 (by simp); simp at this
  | x :: a, y :: b, ha, hb, h => by
    rw [List.pairwise_cons] at ha hb
    have e : x = y := by
      have h1 := (h x).1 (by simp)
      have h2 := (h y).2 (by simp)
      simp only [List.mem_cons] at h1 h2
      rcases h1 with h1 | h1
      · exact h1
      · rcases h2 with h2 | h2
        · exact h2.symm
        · have := hb.1 x h1; have := ha.1 y h2; omega
    subst e
    rw [a5A ha.2 hb.2 fun z => ?_]
    have := h z
    simp only [List.mem_cons] at this
    constructor
    · intro hz
      rcases this.1 (.inr hz) with e | e
      · have := ha.1 z hz; omega
      · exact e
    · intro hz
      rcases this.2 (.inr hz) with e | e
      · have := hb.1 z hz; omega
      · exact e
theorem b1B {l : List Int} {x : Int} (h : l.Pairwise (· < ·)) : (G2 l x).Pairwise (· < ·) ∧ ∀ y, y ∈ G2 l x ↔ y ∈ l ∨ y = x := by
  have ins : ∀ {l : List Int}, l.Pairwise (· < ·) → x ∉ l → (if (l.any fun y => decide (x < y)) then H8 (fun y => decide (x < y)) x l else l ++ [x]).Pairwise (· < ·) ∧ ∀ y, y ∈ (if (l.any fun y => decide (x < y)) then H8 (fun y => decide (x < y)) x l else l ++ [x]) ↔ y ∈ l ∨ y = x := by
    intro l
    induction l with
    | nil => intro _ _; simp
    | cons z l ih =>
      intro h hx
      rw [List.pairwise_cons] at h
      simp only [List.mem_cons, not_or] at hx
      have ih' := ih h.2 hx.2
      by_cases hz : x < z
      · simp only [List.any_cons, hz, decide_true, Bool.true_or, if_true, H8]
        refine ⟨?_, fun y => by simp only [List.mem_cons]; constructor <;> (intro h; rcases h with h | h | h) <;> simp [h]⟩
        rw [List.pairwise_cons, List.pairwise_cons]
        refine ⟨fun y hy => ?_, h⟩
        simp only [List.mem_cons] at hy
        rcases hy with rfl | hy
        · exact hz
        · have := h.1 y hy; omega
      · simp only [List.any_cons, hz, decide_false, Bool.false_or, H8, Bool.false_eq_true, if_false]
        have e : (if (l.any fun y => decide (x < y)) then z :: H8 (fun y => decide (x < y)) x l else z :: l ++ [x]) = z :: (if (l.any fun y => decide (x < y)) then H8 (fun y => decide (x < y)) x l else l ++ [x]) := by split <;> simp
        rw [e]
        refine ⟨?_, fun y => by rw [List.mem_cons, ih'.2 y, List.mem_cons, or_assoc]⟩
        rw [List.pairwise_cons]
        refine ⟨fun y hy => ?_, ih'.1⟩
        rcases (ih'.2 y).1 hy with hy | rfl
        · exact h.1 y hy
        · omega
  unfold G2 P9 P6
  by_cases hx : x ∈ l
  · have : (l.any fun y => decide (y = x)) = true := List.any_eq_true.2 ⟨x, hx, by simp⟩
    rw [if_pos this]
    exact ⟨h, fun y => ⟨.inl, fun e => by rcases e with e | rfl; exact e; exact hx⟩⟩
  · have : ¬ (l.any fun y => decide (y = x)) = true := fun e => by
      obtain ⟨y, hy, e⟩ := List.any_eq_true.1 e
      simp at e; subst e; exact hx hy
    rw [if_neg this]
    exact ins h hx
theorem a1t : ∀ {l s : List Int}, s.Pairwise (· < ·) → (l.foldl G2 s).Pairwise (· < ·) ∧ ∀ y, y ∈ l.foldl G2 s ↔ y ∈ s ∨ y ∈ l
  | [], s, h => ⟨h, by simp⟩
  | x :: l, s, h => by
    have h1 := b1B (x := x) h
    have h2 := a1t (l := l) h1.1
    refine ⟨h2.1, fun y => ?_⟩
    rw [List.foldl_cons, h2.2 y, h1.2 y, List.mem_cons, or_assoc]
theorem a4d {l : List Int} : (D4 l).Pairwise (· < ·) := (a1t .nil).1
theorem a1i {l : List Int} {y : Int} : y ∈ D4 l ↔ y ∈ l := by rw [D4, (a1t .nil).2 y]; simp
theorem a6z {l : List Int} : (D4 l).length ≤ l.length := by
  have : ∀ {l s : List Int}, (l.foldl G2 s).length ≤ s.length + l.length := by
    intro l
    induction l with
    | nil => intro s; simp
    | cons x l ih => intro s; have := ih (s := G2 s x); have h2 := a2i (h := P6 s x) (p := fun y => decide (x < y)) (f := x) (l := s); simp only [List.foldl_cons, List.length_cons]; unfold G2 at *; omega
  have h := this (l := l) (s := [])
  simpa [D4] using h
theorem a7Z {d : List Int} (hd : d.Pairwise (· ≤ ·)) : (Lib.compact d).Pairwise (· < ·) ∧ ∀ y, y ∈ Lib.compact d ↔ y ∈ d := by
  have hle : ∀ i j, (hij : i ≤ j) → (hj : j < d.length) → d[i]'(by omega) ≤ d[j]'hj := by
    intro i j hij hj
    rcases Nat.lt_or_eq_of_le hij with h | h
    · exact List.pairwise_iff_getElem.1 hd i j (by omega) hj h
    · subst h; exact Int.le_refl _
  have hget : ∀ i, (h : i < d.length) → d.toArray[i]! = d[i] := by intro i h; simp [h]
  have key : ∀ m, m ≤ d.length → (Lib.compactUpTo d.toArray m).Pairwise (· < ·) ∧ ∀ y, y ∈ Lib.compactUpTo d.toArray m ↔ y ∈ d.take m := by
    intro m
    induction m with
    | zero => intro _; simp [Lib.compactUpTo]
    | succ m ih =>
      intro hm
      obtain ⟨h1, h2⟩ := ih (by omega)
      have hmem : ∀ y, y ∈ d.take (m + 1) ↔ y ∈ d.take m ∨ y = d[m] := by
        intro y; rw [List.take_succ_eq_append_getElem (show m < d.length by omega), List.mem_append, List.mem_singleton]
      rw [Lib.compactUpTo_succ, hget m (by omega)]
      by_cases hk : Lib.keeps d.toArray m = true
      · rw [if_pos hk]
        refine ⟨List.pairwise_append.2 ⟨h1, by simp, fun a ha b hb => ?_⟩, fun y => by rw [List.mem_append, h2 y, hmem y]; simp⟩
        simp only [List.mem_singleton] at hb
        subst hb
        rw [h2 a, List.mem_take_iff_getElem] at ha
        obtain ⟨i, hi, rfl⟩ := ha
        have hi' : i < m := by omega
        have e1 := hle i (m - 1) (by omega) (by omega)
        have e2 := hle (m - 1) m (by omega) (by omega)
        have e3 : d[m - 1]'(by omega) ≠ d[m] := by
          intro e
          have := Lib.keeps_neg (d := d.toArray) (m := m) (by omega) (by rw [hget m (by omega), hget (m - 1) (by omega), e])
          rw [this] at hk; cases hk
        omega
      · rw [if_neg hk, List.append_nil]
        refine ⟨h1, fun y => ?_⟩
        rw [h2 y, hmem y]
        refine ⟨.inl, fun h => h.elim id ?_⟩
        rintro rfl
        have h0 : 0 < m := by
          rcases Nat.eq_zero_or_pos m with e | e
          · subst e; exact absurd (Lib.keeps_lt_one d.toArray 0 (by omega)) hk
          · exact e
        have e3 : d[m - 1]'(by omega) = d[m] := by
          refine Classical.byContradiction fun e => hk (Lib.keeps_pos ?_)
          rw [hget m (by omega), hget (m - 1) (by omega)]
          exact fun e' => e e'.symm
        rw [List.mem_take_iff_getElem]
        exact ⟨m - 1, by omega, e3⟩
  have := key d.length (Nat.le_refl _)
  simpa [Lib.compact] using this
/-- sorted, and of equal ones one kept: the set -/
theorem U9 {l : List Int} : Lib.compact (l.mergeSort fun x y => decide (x ≤ y)) = D4 l := by
  have hs : (l.mergeSort fun x y => decide (x ≤ y)).Pairwise (· ≤ ·) := by
    have := List.pairwise_mergeSort (le := fun x y : Int => decide (x ≤ y)) (by intro a b c; simp only [decide_eq_true_eq]; omega) (by intro a b; simp only [Bool.or_eq_true, decide_eq_true_eq]; omega) l
    exact this.imp fun h => by simpa using h
  have h := a7Z hs
  refine a5A h.1 a4d fun x => ?_
  rw [h.2 x, a1i]
  exact (List.mergeSort_perm l _).mem_iff
end Go.Proofs.YtdopeopehgdccaaGreat

namespace Go.Proofs.YtdopeopehgdccaaGreat
set_option linter.unusedVariables false
theorem Tr.wk {P : Program} {f : FuncId} {args : List Value} {RR RR' : World → List Nat → Prop} {pre : List HP} {κ : Type} {φ : κ → Prop} {ret : κ → Value} {post : κ → List HP} (h : Tr P f args RR pre φ ret post) (hR : ∀ w L, RR' w L → RR w L) : Tr P f args RR' pre φ ret post :=
  ⟨h.1, fun w L hr hs hn => h.2 w L (hR w L hr) hs hn⟩
theorem Q5 {l m : List Int} : D4 (l ++ m) = m.foldl G2 (D4 l) := by unfold D4; rw [List.foldl_append]
theorem I1 {l : List Int} {x : Int} : D4 (l ++ [x]) = G2 (D4 l) x := by rw [Q5]; rfl
theorem b2w {l : List Int} {x : Int} : P6 l x = true ↔ x ∈ l := by
  unfold P6
  rw [List.any_eq_true]
  constructor
  · rintro ⟨y, hy, e⟩; simp at e; subst e; exact hy
  · intro h; exact ⟨x, h, by simp⟩
def f0 (is : Int → Bool) (n0 : List (Int × List Int)) : List Int := D4 ((n0.flatMap fun a => a.2).filter is)
theorem a6t : ∀ {l : List (Int × List Int)}, (l.flatMap fun a => a.2).length = r9 (fun x => x.2.length) l
  | [] => rfl
  | a :: l => by simp only [List.flatMap_cons, List.length_append, a6t (l := l), r9, List.map_cons, List.sum_cons]
theorem b1G {is : Int → Bool} {n0 : List (Int × List Int)} {g : Nat} (hz : F0 (fun x => x.2.length) n0 ≤ 1048576) : (((n0.take g).flatMap fun a => a.2).filter is).length ≤ 1048576 := by
  have h1 := List.length_filter_le is ((n0.take g).flatMap fun a => a.2)
  have h2 := S2 (t := fun x : Int × List Int => x.2.length) (l := n0) (g := g)
  rw [a6t] at h1
  unfold F0 at hz; omega
theorem a4g {is : Int → Bool} {n0 : List (Int × List Int)} {g h : Nat} (hz : F0 (fun x => x.2.length) n0 ≤ 1048576) (hg : g < n0.length) : (((n0.take g).flatMap fun a => a.2).filter is ++ (n0[g].2.take h).filter is).length ≤ 1048576 := by
  have h1 := List.length_filter_le is ((n0.take g).flatMap fun a => a.2)
  have h2 := S2 (t := fun x : Int × List Int => x.2.length) (l := n0) (g := g + 1)
  have h3 := List.length_filter_le is (n0[g].2.take h)
  have h4 := List.length_take_le' h n0[g].2
  rw [N0 hg] at h2
  rw [a6t] at h1
  rw [List.length_append]
  unfold F0 at hz; omega
def V3 (t : Int) : Bool := inR t 0 9 || inR t 10 17
def N9 (s : List Int) (a : Int × List Int) : Bool := G0 s a.1 && (decide ((a.2.length : Int) = at0 s a.1) && !a.2.any fun t => !V3 t)
def a1e (q : List Int × List (Int × List Int)) : Bool := decide ((q.1.length : Int) ≤ 3) && !q.1.any fun t => !P6 (f0 (fun t => inR t 10 17) q.2) t
def I0 (s : List Int) (q : List Int × List (Int × List Int)) : Bool := K5 s && (inR (q.2.length : Int) 1 4 && ((!q.2.any fun a => !N9 s a) && a1e q))
def b4Q (s : List Int) (u : List (List Int × List (Int × List Int))) (q : List Int × List (Int × List Int)) : Bool := !I0 s q || decide ((q.1.length : Int) ≠ ((u.getD 0 ([], [])).1.length : Int))
def b3e (s : List Int) (u : List (List Int × List (Int × List Int))) : Bool := inR (u.length : Int) 1 3 && !u.any (b4Q s u)
def b5f (s : List Int) (g : (List Int × List (Int × List Int)) × List (Int × List Int)) : Bool :=
  I0 s g.1 && (decide ((g.2.length : Int) ≤ 4) && ((!g.2.any fun a => !N9 s a) && !(f0 (fun t => inR t 10 17) g.2).any fun t => !P6 (f0 (fun t => inR t 10 17) g.1.2) t))
end Go.Proofs.YtdopeopehgdccaaGreat

namespace Go.Proofs.YtdopeopehgdccaaGreat
set_option linter.unusedVariables false
def ltF (a b : Int × List Int) : Bool := decide (J0 a b < 0)
def o4 (l : List (Int × List Int)) (f : Int × List Int) : List (Int × List Int) := P9 (E5 l f) (ltF f) f l
theorem b0q {a b : Int} : K3 a b = - K3 b a := by unfold K3; grind
theorem a9B : ∀ {l m : List Int}, E6 l m = - E6 m l
  | [], [] => by simp [E6]
  | [], _ :: _ => by simp [E6]
  | _ :: _, [] => by simp [E6]
  | a :: l, b :: m => by
    have h1 := b0q (a := a) (b := b)
    have h2 := a9B (l := l) (m := m)
    unfold E6; grind
theorem a9z {a b : Int × List Int} : J0 a b = - J0 b a := by
  have h1 := b0q (a := a.1) (b := b.1)
  have h2 := a9B (l := a.2) (m := b.2)
  unfold J0; grind
theorem a3e {l : List (Int × List Int)} {f : Int × List Int} (h : E5 l f = true) : o4 l f = l := by simp [o4, P9, h]
theorem a6w {l : List (Int × List Int)} {f : Int × List Int} (h : E5 l f = false) : o4 l f = l.take (if F3 (fun z => decide (0 < J0 z f)) l < 0 then l.length else (F3 (fun z => decide (0 < J0 z f)) l).toNat) ++ f :: l.drop (if F3 (fun z => decide (0 < J0 z f)) l < 0 then l.length else (F3 (fun z => decide (0 < J0 z f)) l).toNat) := by
  rw [o4, h]
  refine b2x fun y _ => ?_
  have := a9z (a := f) (b := y)
  rw [ltF, decide_eq_decide]; omega
theorem a3D {α : Type} {p : α → Bool} {s : List α} : F3 p s ≤ s.length ∧ -1 ≤ F3 p s := by
  unfold F3
  split
  · have := List.findIdx_le_length (p := p) (xs := s); omega
  · omega
/-- what AddFact has put together of the first elements -/
def M4 {α : Type} (h : Bool) (p : α → Bool) (f : α) (l : List α) : List α := if h then l else H8 p f l
theorem b0r {α : Type} {h : Bool} {p : α → Bool} {f : α} {l : List α} : (M4 h p f l).length ≤ l.length + 1 := by
  have := a4u (p := p) (f := f) (l := l)
  unfold M4; split <;> omega
theorem I5 {α : Type} {h : Bool} {p : α → Bool} {f : α} : M4 h p f [] = [] := by unfold M4; cases h <;> rfl
theorem G6 {α : Type} {h : Bool} {p : α → Bool} {f : α} {l : List α} {y : α} : M4 h p f (l ++ [y]) = if (h || l.any p) = true then M4 h p f l ++ [y] else if p y = true then M4 h p f l ++ [f, y] else M4 h p f l ++ [y] := by
  unfold M4
  cases h
  · simp only [Bool.false_eq_true, if_false, Bool.false_or, N8]
    cases ha : l.any p
    · simp [S0 ha]
    · simp
  · simp
theorem G8 {α : Type} {h : Bool} {p : α → Bool} {f : α} {l : List α} : P9 h p f l = if (h || l.any p) = true then M4 h p f l else M4 h p f l ++ [f] := by
  unfold M4 P9
  cases h
  · cases ha : l.any p
    · simp [S0 ha]
    · simp
  · simp
theorem I4 {α : Type} {p : α → Bool} {l : List α} {g : Nat} (h : g < l.length) : (l.take (g + 1)).any p = ((l.take g).any p || p l[g]) := by
  rw [List.take_succ_eq_append_getElem h, List.any_append]; simp
theorem N6 {f : Int × List Int} {a : Int} {b : List Int} : ltF f (a, b) = decide (J0 f (a, b) < 0) := rfl
/-- the facts from g on are valid, and ascending from the one ahead of g on -/
def b2o (s : List Int) (l : List (Int × List Int)) (g : Nat) : Bool := (l.drop g).all (D6 s) && E0 ltF (l.drop (g - 1))
def H3 (s : List Int) (l : List (Int × List Int)) : Bool := b2o s l 0 && (K5 s && decide ((l.length : Int) ≤ 24))
/-- a rule at a fact: what it demands, if that is not there -/
def C1 (d6 : List (Int × List Int)) (f : Int × List Int) (out : List (Int × List Int)) (r : Int × Int × List Int) : List (Int × List Int) :=
  if f.1 = r.1 then (if E5 d6 (r.2.1, vals r.2.2 f.2) then out else o4 out (r.2.1, vals r.2.2 f.2)) else out
def B2 (l : List (Int × Int × List Int)) (d6 : List (Int × List Int)) (out : List (Int × List Int)) (f : Int × List Int) : List (Int × List Int) := l.foldl (C1 d6 f) out
def i9 (l : List (Int × Int × List Int)) (d6 : List (Int × List Int)) : List (Int × List Int) := d6.foldl (B2 l d6) []
theorem a5n {l : List (Int × Int × List Int)} {d6 : List (Int × List Int)} {f : Int × List Int} {out : List (Int × List Int)} {h : Nat} : ((l.take h).foldl (C1 d6 f) out).length ≤ out.length + (l.take h).length := by
  generalize l.take h = m
  induction m generalizing out with
  | nil => simp
  | cons r m ih =>
    have h1 := ih (out := C1 d6 f out r)
    have h2 : (C1 d6 f out r).length ≤ out.length + 1 := by
      unfold C1
      split
      · split
        · omega
        · exact a2i
      · omega
    simp only [List.foldl_cons, List.length_cons]; omega
theorem a6a {l : List (Int × Int × List Int)} {d6 fs : List (Int × List Int)} : (fs.foldl (B2 l d6) []).length ≤ fs.length * l.length := by
  have : ∀ {fs out : List (Int × List Int)}, (fs.foldl (B2 l d6) out).length ≤ out.length + fs.length * l.length := by
    intro fs
    induction fs with
    | nil => intro out; simp
    | cons f fs ih =>
      intro out
      have h1 := ih (out := B2 l d6 out f)
      have h2 := a5n (l := l) (d6 := d6) (f := f) (out := out) (h := l.length)
      rw [List.take_length] at h2
      unfold B2 at h1 ⊢
      simp only [List.foldl_cons, List.length_cons, Nat.succ_mul]; omega
  have h := this (fs := fs) (out := [])
  simpa using h
theorem a7M {m v : List Int} {n : Nat} (h : m.length ≤ n) : (vals m v).length ≤ n := by rw [b0b]; exact h
theorem a6g {d6 : List (Int × List Int)} {f : Int × List Int} {n : Nat} : ∀ {l : List (Int × Int × List Int)} {out : List (Int × List Int)}, (∀ r ∈ l, r.2.2.length ≤ n) → (∀ x ∈ out, x.2.length ≤ n) → ∀ x ∈ l.foldl (C1 d6 f) out, x.2.length ≤ n
  | [], out, _, h, x, hx => h x hx
  | r :: l, out, hr, h, x, hx => by
    refine a6g (l := l) (out := C1 d6 f out r) (fun r hr' => hr r (by simp [hr'])) (fun y hy => ?_) x hx
    unfold C1 at hy
    split at hy
    · split at hy
      · exact h y hy
      · rcases a1o hy with hy | rfl
        · exact h y hy
        · exact a7M (hr r (by simp))
    · exact h y hy
theorem b0d {l : List (Int × Int × List Int)} {d6 : List (Int × List Int)} {n : Nat} (hr : ∀ r ∈ l, r.2.2.length ≤ n) : ∀ {fs out : List (Int × List Int)}, (∀ x ∈ out, x.2.length ≤ n) → ∀ x ∈ fs.foldl (B2 l d6) out, x.2.length ≤ n
  | [], out, h, x, hx => h x hx
  | f :: fs, out, h, x, hx => b0d hr (fs := fs) (out := B2 l d6 out f) (a6g hr h) x hx
theorem b0E {l : List (Int × Int × List Int)} {d6 : List (Int × List Int)} {n g h : Nat} (hr : ∀ r ∈ l, r.2.2.length ≤ n) (hg : g < d6.length) : ∀ x ∈ (l.take h).foldl (C1 d6 d6[g]) ((d6.take g).foldl (B2 l d6) []), x.2.length ≤ n :=
  a6g (fun r h' => hr r (List.mem_of_mem_take h')) (b0d hr (by simp))
theorem b3j {b : Bool} {m v : List Int} {n : Nat} (h : m.length ≤ n) : (cond b (vals m v) []).length ≤ n := by
  cases b
  · exact Nat.zero_le _
  · exact a7M h
end Go.Proofs.YtdopeopehgdccaaGreat

namespace Go.Proofs.YtdopeopehgdccaaGreat
set_option linter.unusedVariables false
set_option linter.unusedSimpArgs false
theorem a1c {s : List Int} {l : List (Int × Int × List Int)} (h : x7 s l = true) : K5 s = true ∧ l.length ≤ 4 ∧ ∀ r ∈ l, E3 s r = true := by
  simp only [x7, Bool.and_eq_true, decide_eq_true_eq, Bool.not_eq_true', List.any_eq_false, Bool.not_eq_true] at h
  exact ⟨h.1, by omega, fun r hr => by have := h.2.2 r hr; simpa using this⟩
theorem a3H {s : List Int} {l : List (Int × List Int)} (h : H3 s l = true) : l.length ≤ 24 ∧ ∀ f ∈ l, D6 s f = true := by
  simp only [H3, b2o, List.drop_zero, Bool.and_eq_true, decide_eq_true_eq, List.all_eq_true] at h
  exact ⟨by omega, h.1.1⟩
theorem H6 {s : List Int} {f : Int × List Int} (h : D6 s f = true) : f.2.length ≤ 3 := by
  simp only [D6, Bool.and_eq_true, decide_eq_true_eq] at h
  have := Q8 h.1
  simp only [at0] at h; omega
theorem a4e {v : List Int} (h : a1L v = true) : ∀ x ∈ v, 0 ≤ x ∧ x ≤ 9 := by
  simp only [a1L, Bool.not_eq_true', List.any_eq_false, Bool.not_eq_true] at h
  intro x hx
  have := h x hx
  simp [inR] at this; omega
theorem a5c {v : List Int} (h : ∀ x ∈ v, 0 ≤ x ∧ x ≤ 9) : a1L v = true := by
  simp only [a1L, Bool.not_eq_true', List.any_eq_false, Bool.not_eq_true]
  intro x hx
  have := h x hx
  simp [inR]; omega
/-- what a valid rule makes of a valid fact is valid -/
theorem b1o {s : List Int} {r : Int × Int × List Int} {f : Int × List Int} (h1 : E3 s r = true) (h2 : D6 s f = true) (e : f.1 = r.1) : D6 s (r.2.1, vals r.2.2 f.2) = true := by
  have h3 := a8E h1 h2 e
  simp only [E3, D6, Bool.and_eq_true, decide_eq_true_eq] at h1 h2 ⊢
  refine ⟨h1.2.1, by rw [b0b]; exact h1.2.2.1, a5c fun x hx => ?_⟩
  simp only [vals, List.mem_map] at hx
  obtain ⟨i, hi, rfl⟩ := hx
  have h4 := h3 i hi
  rw [B7 (show i.toNat < f.2.length by omega)]
  exact a4e h2.2.2 _ (List.getElem_mem _)
theorem a8t {P : Int × List Int → Prop} {d6 : List (Int × List Int)} {f : Int × List Int} : ∀ {l : List (Int × Int × List Int)} {out : List (Int × List Int)}, (∀ r ∈ l, f.1 = r.1 → E5 d6 (r.2.1, vals r.2.2 f.2) = false → P (r.2.1, vals r.2.2 f.2)) → (∀ x ∈ out, P x) → ∀ x ∈ l.foldl (C1 d6 f) out, P x
  | [], out, _, h, x, hx => h x hx
  | r :: l, out, hr, h, x, hx => by
    refine a8t (l := l) (out := C1 d6 f out r) (fun r hr' => hr r (by simp [hr'])) (fun y hy => ?_) x hx
    unfold C1 at hy
    split at hy
    · split at hy
      · exact h y hy
      · rename_i h1 h2
        rcases a1o hy with hy | rfl
        · exact h y hy
        · exact hr r (by simp) h1 (by simpa using h2)
    · exact h y hy
theorem b2q {P : Int × List Int → Prop} {d6 : List (Int × List Int)} {l : List (Int × Int × List Int)} (H : ∀ r ∈ l, ∀ f ∈ d6, f.1 = r.1 → E5 d6 (r.2.1, vals r.2.2 f.2) = false → P (r.2.1, vals r.2.2 f.2)) : ∀ x ∈ i9 l d6, P x := by
  have : ∀ {fs out : List (Int × List Int)}, (∀ f ∈ fs, f ∈ d6) → (∀ x ∈ out, P x) → ∀ x ∈ fs.foldl (B2 l d6) out, P x := by
    intro fs
    induction fs with
    | nil => intro out _ h; exact h
    | cons f fs ih =>
      intro out hs h
      exact ih (fun g hg => hs g (by simp [hg])) (a8t (fun r hr => H r hr f (hs f (by simp))) h)
  exact this (fun f h => h) (by simp)
theorem a1w {s : List Int} {l : List (Int × Int × List Int)} {d6 : List (Int × List Int)} (h1 : x7 s l = true) (h2 : ∀ f ∈ d6, D6 s f = true) : ∀ x ∈ i9 l d6, D6 s x = true ∧ E5 d6 x = false :=
  b2q fun r hr f hf e h => ⟨b1o ((a1c h1).2.2 r hr) (h2 f hf) e, h⟩
theorem a0J {s : List Int} {l : List (Int × Int × List Int)} {d6 : List (Int × List Int)} (h1 : x7 s l = true) (h2 : ∀ f ∈ d6, D6 s f = true) : (∀ r ∈ l, ∀ f ∈ d6, f.1 = r.1 → ∀ x ∈ r.2.2, 0 ≤ x ∧ x < f.2.length) ∧ (∀ r ∈ l, r.2.2.length ≤ 1048576) ∧ l.length ≤ 4 :=
  have h := a1c h1
  ⟨fun r hr f hf e => a8E (h.2.2 r hr) (h2 f hf) e, fun r hr => Nat.le_trans (b2z (h.2.2 r hr)) (by decide), h.2.1⟩
def b4q (s : List Int) (l : List (Int × Int × List Int)) (d6 : List (Int × List Int)) : List (Int × List Int) := if x7 s l && H3 s d6 then i9 l d6 else []
theorem a3v {l : List (Int × Int × List Int)} {d6 : List (Int × List Int)} (h : l.length ≤ 4) : (i9 l d6).length ≤ d6.length * 4 :=
  Nat.le_trans a6a (Nat.mul_le_mul_left _ h)
theorem b1N {l : List (Int × Int × List Int)} {d6 : List (Int × List Int)} (h : ∃ s, x7 s l = true ∧ H3 s d6 = true) : d6.length ≤ 24 := by
  obtain ⟨s, h1, h2⟩ := h
  exact (a3H h2).1
theorem b2R {l : List (Int × Int × List Int)} {d6 : List (Int × List Int)} (h : ∃ s, x7 s l = true ∧ H3 s d6 = true) : ∀ f ∈ d6, f.2.length ≤ 1048576 := by
  obtain ⟨s, h1, h2⟩ := h
  exact fun f hf => Nat.le_trans (H6 ((a3H h2).2 f hf)) (by decide)
/- the closure -/
def o7 (l : List (Int × Int × List Int)) (d6 : List (Int × List Int)) : Nat → List (Int × List Int)
  | 0 => d6
  | n + 1 => (i9 l (o7 l d6 n)).foldl o4 (o7 l d6 n)
def w6 (l : List (Int × Int × List Int)) (d6 : List (Int × List Int)) : List (Int × List Int) := o7 l d6 6001
theorem a6Z {l : List (Int × Int × List Int)} {d6 : List (Int × List Int)} {n : Nat} (h : i9 l (o7 l d6 n) = []) : ∀ k, o7 l d6 (n + k) = o7 l d6 n
  | 0 => rfl
  | k + 1 => by
    show (i9 l (o7 l d6 (n + k))).foldl o4 (o7 l d6 (n + k)) = _
    rw [a6Z h k, h]; rfl
theorem a6Y {l : List (Int × Int × List Int)} {d6 : List (Int × List Int)} {n : Nat} (hn : n ≤ 6001) (h : i9 l (o7 l d6 n) = []) : o7 l d6 n = w6 l d6 := by
  have := a6Z h (6001 - n)
  rw [show n + (6001 - n) = 6001 by omega] at this
  exact this.symm
theorem a2s : ∀ {n : Nat} {l : List Nat}, l.Nodup → (∀ x ∈ l, x < n) → l.length ≤ n
  | 0, l, _, h => by
    cases l with
    | nil => simp
    | cons x l => exact absurd (h x (by simp)) (by omega)
  | n + 1, l, hd, h => by
    by_cases hm : n ∈ l
    · have h1 := a2s (n := n) (l := l.erase n) (hd.erase n) fun x hx => by
        have h2 := (hd.mem_erase_iff).1 hx
        have := h x h2.2; omega
      rw [List.length_erase_of_mem hm] at h1; omega
    · have h1 := a2s (n := n) (l := l) hd fun x hx => by
        have h2 := h x hx
        have : x ≠ n := fun e => hm (e ▸ hx)
        omega
      omega
def a2y : List Int → Nat
  | [] => 0
  | v :: l => (v.toNat + 1) + 11 * a2y l
theorem a8K : ∀ {a b : List Int}, (∀ x ∈ a, 0 ≤ x ∧ x ≤ 9) → (∀ x ∈ b, 0 ≤ x ∧ x ≤ 9) → a2y a = a2y b → a = b
  | [], [], _, _, _ => rfl
  | [], y :: b, _, _, h => by simp [a2y] at h; omega
  | x :: a, [], _, _, h => by simp [a2y] at h
  | x :: a, y :: b, ha, hb, h => by
    have h1 := ha x (by simp)
    have h2 := hb y (by simp)
    simp only [a2y] at h
    rw [a8K (a := a) (b := b) (fun z hz => ha z (by simp [hz])) (fun z hz => hb z (by simp [hz])) (by omega), show x = y by omega]
theorem b0n : ∀ {n : Nat} {a : List Int}, (∀ x ∈ a, 0 ≤ x ∧ x ≤ 9) → a.length ≤ n → a2y a < 11 ^ n
  | n, [], _, _ => by simp [a2y]; exact Nat.pow_pos (by decide)
  | 0, x :: a, _, h => by simp at h
  | n + 1, x :: a, ha, h => by
    have h1 := b0n (n := n) (a := a) (fun z hz => ha z (by simp [hz])) (by simpa using h)
    have h2 := ha x (by simp)
    simp only [a2y, Nat.pow_succ]; omega
def b0W (f : Int × List Int) : Nat := f.1.toNat + 4 * a2y f.2
theorem a4f {s : List Int} {f : Int × List Int} (h : D6 s f = true) : 0 ≤ f.1 ∧ f.1 < 4 := by
  simp only [D6, Bool.and_eq_true, decide_eq_true_eq] at h
  have h1 := Q8 h.1
  have h2 := h.1
  simp only [G0, K5, inR, Bool.and_eq_true, decide_eq_true_eq] at h2
  omega
theorem R2 {s : List Int} {f : Int × List Int} (h : D6 s f = true) : ∀ x ∈ f.2, 0 ≤ x ∧ x ≤ 9 := by
  simp only [D6, Bool.and_eq_true] at h
  exact a4e h.2.2
theorem a5l {s : List Int} {D : List (Int × List Int)} (hd : D.Nodup) (h : ∀ f ∈ D, D6 s f = true) : D.length ≤ 5324 := by
  have h1 : (D.map b0W).Nodup := by
    unfold List.Nodup at hd ⊢
    rw [List.pairwise_map]
    refine List.Pairwise.imp_of_mem (fun {a b} ha hb hab e => hab ?_) hd
    have ra := a4f (h a ha)
    have rb := a4f (h b hb)
    simp only [b0W] at e
    have e2 := a8K (R2 (h a ha)) (R2 (h b hb)) (by omega)
    exact Prod.ext (by omega) e2
  have h2 := a2s (n := 5324) h1 fun x hx => by
    obtain ⟨f, hf, rfl⟩ := List.mem_map.1 hx
    have r := a4f (h f hf)
    have c := b0n (n := 3) (R2 (h f hf)) (H6 (h f hf))
    unfold b0W; omega
  simpa using h2
theorem a9S {α : Type} {p : α → Bool} {f y : α} : ∀ {l : List α}, y ∈ l → y ∈ H8 p f l
  | x :: l, h => by
    simp only [H8]
    simp only [List.mem_cons] at h
    split
    · simp [h]
    · rcases h with h | h
      · simp [h]
      · simp [a9S h]
theorem a8A {α : Type} {p : α → Bool} {f : α} : ∀ {l : List α}, l.any p = true → f ∈ H8 p f l
  | x :: l, h => by
    simp only [H8]
    split
    · simp
    · rename_i h1
      simp only [List.any_cons, h1, Bool.false_or] at h
      simp [a8A h]
theorem a6h {l : List (Int × List Int)} {f y : Int × List Int} (h : y ∈ l) : y ∈ o4 l f := by
  unfold o4 P9
  split
  · exact h
  · split
    · exact a9S h
    · simp [h]
theorem a2a {l : List (Int × List Int)} {f : Int × List Int} : E5 l f = true ↔ f ∈ l := by
  unfold E5
  rw [List.any_eq_true]
  constructor
  · rintro ⟨x, hx, e⟩
    rw [decide_eq_true_eq, a3B] at e
    exact e ▸ hx
  · intro h
    exact ⟨f, h, by rw [decide_eq_true_eq, a3B]⟩
theorem a8v {l : List (Int × List Int)} {f : Int × List Int} (h : E5 l f = false) : f ∈ o4 l f := by
  unfold o4 P9
  rw [h]
  simp only [Bool.false_eq_true, if_false]
  split
  · rename_i h1; exact a8A h1
  · simp
def a4q (s : List Int) (x D : List (Int × List Int)) : Prop := D.Nodup ∧ (∀ f ∈ D, f ∈ x) ∧ x.length ≤ 24 + D.length ∧ ∀ f ∈ x, D6 s f = true
theorem a9Z {s : List Int} {x D : List (Int × List Int)} {f : Int × List Int} (h : a4q s x D) (hf : D6 s f = true) : ∃ D', a4q s (o4 x f) D' ∧ D.length + (if E5 x f then 0 else 1) ≤ D'.length := by
  obtain ⟨h1, h2, h3, h4⟩ := h
  cases hx : E5 x f with
  | true => exact ⟨D, by rw [a3e hx]; exact ⟨h1, h2, h3, h4⟩, by simp⟩
  | false =>
    refine ⟨f :: D, ⟨?_, ?_, ?_, ?_⟩, by simp⟩
    · rw [List.nodup_cons]
      exact ⟨fun hm => (by rw [a2a.2 (h2 f hm)] at hx; cases hx), h1⟩
    · intro y hy
      simp only [List.mem_cons] at hy
      rcases hy with rfl | hy
      · exact a8v hx
      · exact a6h (h2 y hy)
    · have := a2i (h := E5 x f) (p := ltF f) (f := f) (l := x)
      simp only [o4, List.length_cons]; omega
    · intro y hy
      rcases a1o hy with hy | rfl
      · exact h4 y hy
      · exact hf
theorem a8M {s : List Int} : ∀ {m x D : List (Int × List Int)}, a4q s x D → (∀ f ∈ m, D6 s f = true) → ∃ D', a4q s (m.foldl o4 x) D' ∧ D.length ≤ D'.length
  | [], x, D, h, _ => ⟨D, h, Nat.le_refl _⟩
  | f :: m, x, D, h, hm => by
    obtain ⟨D1, g1, l1⟩ := a9Z h (hm f (by simp))
    obtain ⟨D2, g2, l2⟩ := a8M (m := m) g1 (fun y hy => hm y (by simp [hy]))
    exact ⟨D2, g2, by omega⟩
theorem a6L {s : List Int} {m x D : List (Int × List Int)} (h : a4q s x D) (hm : ∀ f ∈ m, D6 s f = true ∧ E5 x f = false) (h0 : m ≠ []) : ∃ D', a4q s (m.foldl o4 x) D' ∧ D.length + 1 ≤ D'.length := by
  cases m with
  | nil => exact absurd rfl h0
  | cons f m =>
    obtain ⟨D1, g1, l1⟩ := a9Z h (hm f (by simp)).1
    obtain ⟨D2, g2, l2⟩ := a8M (m := m) g1 (fun y hy => (hm y (by simp [hy])).1)
    rw [(hm f (by simp)).2] at l1
    refine ⟨D2, g2, ?_⟩
    simp only [Bool.false_eq_true, if_false] at l1
    omega
def a4i (l : List (Int × Int × List Int)) (d6 : List (Int × List Int)) (n : Nat) : Prop := ∃ s, x7 s l = true ∧ ∃ D, a4q s (o7 l d6 n) D ∧ n ≤ D.length
theorem a8S {s : List Int} {d6 : List (Int × List Int)} (h2 : H3 s d6 = true) : a4q s d6 [] := by
  have h := a3H h2
  exact ⟨by simp, by simp, by simpa using h.1, h.2⟩
theorem a8w {l : List (Int × Int × List Int)} {d6 : List (Int × List Int)} (h : ∃ s, x7 s l = true ∧ H3 s d6 = true) : a4i l d6 0 := by
  obtain ⟨s, h1, h2⟩ := h
  exact ⟨s, h1, [], a8S h2, by simp⟩
theorem a8L {l : List (Int × Int × List Int)} {d6 : List (Int × List Int)} {n : Nat} (h : a4i l d6 n) (h0 : i9 l (o7 l d6 n) ≠ []) : a4i l d6 (n + 1) := by
  obtain ⟨s, h1, D, g, hn⟩ := h
  obtain ⟨D', g', l'⟩ := a6L g (a1w h1 g.2.2.2) h0
  exact ⟨s, h1, D', g', by omega⟩
theorem a5B {l : List (Int × Int × List Int)} {d6 : List (Int × List Int)} {n : Nat} (h : a4i l d6 n) : n ≤ 6000 ∧ (o7 l d6 n).length ≤ 6024 ∧ (i9 l (o7 l d6 n)).length ≤ 24096 ∧ l.length ≤ 4 := by
  obtain ⟨s, h1, D, g, hn⟩ := h
  have h2 := a5l g.1 (fun f hf => g.2.2.2 f (g.2.1 f hf))
  have h3 := g.2.2.1
  have h4 := (a1c h1).2.1
  have h5 := a3v (d6 := o7 l d6 n) h4
  omega
theorem a2z {l : List (Int × Int × List Int)} {d6 : List (Int × List Int)} {n : Nat} (h : a4i l d6 n) : (∀ r ∈ l, ∀ f ∈ o7 l d6 n, f.1 = r.1 → ∀ x ∈ r.2.2, 0 ≤ x ∧ x < f.2.length) ∧ (∀ r ∈ l, r.2.2.length ≤ 1048576) ∧ (∀ f ∈ i9 l (o7 l d6 n), f.2.length ≤ 1048576) ∧ ∀ f ∈ o7 l d6 n, f.2.length ≤ 1048576 := by
  obtain ⟨s, h1, D, g, hn⟩ := h
  have h2 := a0J h1 g.2.2.2
  exact ⟨h2.1, h2.2.1, fun f hf => Nat.le_trans (H6 (a1w h1 g.2.2.2 f hf).1) (by decide), fun f hf => Nat.le_trans (H6 (g.2.2.2 f hf)) (by decide)⟩
theorem a3b {m x : List (Int × List Int)} : (m.foldl o4 x).length ≤ x.length + m.length := by
  induction m generalizing x with
  | nil => simp
  | cons f m ih =>
    have h1 := ih (x := o4 x f)
    have h2 := a2i (h := E5 x f) (p := ltF f) (f := f) (l := x)
    simp only [List.foldl_cons, List.length_cons]
    unfold o4 at h1 ⊢; omega
theorem a8a {n : Nat} : ∀ {m x : List (Int × List Int)}, (∀ f ∈ m, f.2.length ≤ n) → (∀ f ∈ x, f.2.length ≤ n) → ∀ f ∈ m.foldl o4 x, f.2.length ≤ n
  | [], x, _, h => h
  | y :: m, x, hm, h => by
    refine a8a (m := m) (x := o4 x y) (fun f hf => hm f (by simp [hf])) fun f hf => ?_
    rcases a1o hf with hf | rfl
    · exact h f hf
    · exact hm _ (by simp)
theorem b0j {n g : Nat} {m x : List (Int × List Int)} (hm : ∀ f ∈ m, f.2.length ≤ n) (hx : ∀ f ∈ x, f.2.length ≤ n) : ∀ f ∈ (m.take g).foldl o4 x, f.2.length ≤ n :=
  a8a (fun f hf => hm f (List.mem_of_mem_take hf)) hx
def b3V (s : List Int) (l : List (Int × Int × List Int)) (d6 : List (Int × List Int)) : List (Int × List Int) := if x7 s l && H3 s d6 then w6 l d6 else []
end Go.Proofs.YtdopeopehgdccaaGreat

namespace Go.Proofs.YtdopeopehgdccaaGreat
set_option linter.unusedVariables false
set_option linter.unusedSimpArgs false
/-- no value for t -/
def unb (b : List Int × List Int) (t : Int) : Bool := !(b.1.take (min b.1.length b.2.length)).any fun x => decide (x = t)
theorem a7B {α : Type} {p : α → Bool} {s : List α} : F3 p s < 0 ↔ s.any p = false := by
  unfold F3
  by_cases h : s.any p = true
  · rw [if_pos h]; simp [h]
  · rw [if_neg h]; simp at h; simp; exact h
theorem w4 {b : List Int × List Int} {t : Int} : unb b t = decide (F3 (fun x => decide (x = t)) (b.1.take (min b.1.length b.2.length)) < 0) := by
  rw [unb, Bool.eq_iff_iff, decide_eq_true_eq, a7B]; simp
theorem a1F {V W : List Int} {p : Int → Bool} {g : Nat} (h : g < V.length) (h2 : g < W.length) : ((V.take (min V.length W.length)).drop g).any p = (p V[g] || ((V.take (min V.length W.length)).drop (g + 1)).any p) := by
  rw [List.drop_eq_getElem_cons (by simp; omega)]
  simp
theorem a3J {V W : List Int} {p : Int → Bool} {g : Nat} (h : ¬ (g < V.length ∧ g < W.length)) : ((V.take (min V.length W.length)).drop g).any p = false := by
  rw [List.drop_eq_nil_of_le (by simp; omega)]; rfl
def B5 (x : List Int × List Int) (t v : Int) : List Int × List Int := if inR t 10 17 && unb x t then (x.1 ++ [t], x.2 ++ [v]) else x
def y5 (b : List Int × List Int) (l : List (Int × Int)) : List Int × List Int := l.foldl (fun x p => B5 x p.1 p.2) b
def okV (b : List Int × List Int) : List (Int × Int) → Bool
  | [] => true
  | p :: l => decide (B4 (B5 b p.1 p.2) p.1 = p.2) && okV (B5 b p.1 p.2) l
def n9 (b : List Int × List Int) (a f : Int × List Int) : Bool := decide (a.1 = f.1) && (decide (a.2.length = f.2.length) && (decide (b.1.length = b.2.length) && okV b (a.2.zip f.2)))
def o8 (b : List Int × List Int) (a f : Int × List Int) : List Int × List Int := y5 b (a.2.zip f.2)
theorem v8 {b : List Int × List Int} {t v : List Int} {g : Nat} (h : g < t.length) (h2 : g < v.length) : y5 b ((t.zip v).take (g + 1)) = B5 (y5 b ((t.zip v).take g)) t[g] v[g] := by
  unfold y5
  rw [List.take_succ_eq_append_getElem (by simp; omega), List.foldl_append]
  simp
theorem u5 {b : List Int × List Int} {t v : List Int} {g : Nat} (h : g < t.length) (h2 : g < v.length) : okV b ((t.zip v).drop g) = (decide (B4 (B5 b t[g] v[g]) t[g] = v[g]) && okV (B5 b t[g] v[g]) ((t.zip v).drop (g + 1))) := by
  rw [List.drop_eq_getElem_cons (by simp; omega)]
  simp [okV]
theorem w3 {b : List Int × List Int} {t v : List Int} {g : Nat} (h : t.length ≤ g) : okV b ((t.zip v).drop g) = true := by
  rw [List.drop_eq_nil_of_le (by simp; omega)]; rfl
theorem y4 {b : List Int × List Int} {t v : List Int} {g : Nat} (h : t.length ≤ g) : y5 b ((t.zip v).take g) = y5 b (t.zip v) := by
  rw [List.take_of_length_le (by simp; omega)]
theorem b2A {x : List Int × List Int} {t v : Int} : (B5 x t v).1.length ≤ x.1.length + 1 ∧ (B5 x t v).2.length ≤ x.2.length + 1 := by
  unfold B5; split <;> simp
theorem b3c {x : List Int × List Int} {t v : Int} (h : x.1.length = x.2.length) : (B5 x t v).1.length = (B5 x t v).2.length := by
  unfold B5; split <;> simp [h]
theorem a4V : ∀ {l : List (Int × Int)} {x : List Int × List Int}, (y5 x l).1.length ≤ x.1.length + l.length ∧ (y5 x l).2.length ≤ x.2.length + l.length
  | [], x => by simp [y5]
  | p :: l, x => by
    have h1 := a4V (l := l) (x := B5 x p.1 p.2)
    have h2 := b2A (x := x) (t := p.1) (v := p.2)
    simp only [y5, List.foldl_cons, List.length_cons] at h1 ⊢; omega
theorem a6r : ∀ {l : List (Int × Int)} {x : List Int × List Int}, x.1.length = x.2.length → (y5 x l).1.length = (y5 x l).2.length
  | [], x, h => h
  | p :: l, x, h => by
    have := a6r (l := l) (b3c (t := p.1) (v := p.2) h)
    simpa only [y5, List.foldl_cons] using this
theorem b1H {b : List Int × List Int} {t v : List Int} {g : Nat} : (y5 b ((t.zip v).take g)).1.length ≤ b.1.length + t.length ∧ (y5 b ((t.zip v).take g)).2.length ≤ b.2.length + t.length := by
  have h := a4V (l := (t.zip v).take g) (x := b)
  have h2 : ((t.zip v).take g).length ≤ t.length := by simp; omega
  omega
/-- a variable just bound has its value -/
theorem b3w {x : List Int × List Int} {t v : Int} (h : x.1.length = x.2.length) (h1 : inR t 10 17 = true) (h2 : unb x t = true) : B4 (x.1 ++ [t], x.2 ++ [v]) t = v := by
  have e := a9R (b := (x.1 ++ [t], x.2 ++ [v])) (t := t) (g := x.1.length) h1 (by simp) (by simp [h]) (by simp) (by
    intro y hy
    simp only [unb, h, Nat.min_self, Bool.not_eq_true', List.any_eq_false] at h2
    rw [List.take_append_of_le_length (Nat.le_refl _), List.take_length] at hy
    have := h2 y (by rw [← h, List.take_length]; exact hy)
    simpa using this)
  rw [← e]
  simp [h]
theorem b3E {x : List Int × List Int} {t v : Int} (h : (inR t 10 17 && unb x t) = false) : B5 x t v = x := by unfold B5; rw [h]; simp
theorem b3i {x : List Int × List Int} {t v : Int} (h : (inR t 10 17 && unb x t) = true) : B5 x t v = (x.1 ++ [t], x.2 ++ [v]) := by unfold B5; rw [h]; simp
theorem H5 {x : List Int × List Int} {t v : Int} (h : x.1.length = x.2.length) : decide (B4 (B5 x t v) t = v) = (inR t 10 17 && unb x t || decide (B4 x t = v)) := by
  cases hc : inR t 10 17 && unb x t with
  | false => rw [b3E hc]; simp
  | true =>
    rw [b3i hc]
    rw [Bool.and_eq_true] at hc
    rw [b3w h hc.1 hc.2]; simp
/- all bindings -/
def K4 (b : List Int × List Int) (a : Int × List Int) (d6 : List (Int × List Int)) : List (List Int × List Int) := (d6.filter (n9 b a)).map (o8 b a)
def E9 (l : List (List Int × List Int)) (a : Int × List Int) (d6 : List (Int × List Int)) : List (List Int × List Int) := l.flatMap fun b => K4 b a d6
theorem S5 {b : List Int × List Int} {a : Int × List Int} : K4 b a [] = [] := rfl
theorem P2 {b : List Int × List Int} {a f : Int × List Int} {l : List (Int × List Int)} : K4 b a (l ++ [f]) = if n9 b a f then K4 b a l ++ [o8 b a f] else K4 b a l := by
  unfold K4
  cases h : n9 b a f <;> simp [List.filter_append, h]
theorem S4 {a : Int × List Int} {d6 : List (Int × List Int)} : E9 [] a d6 = [] := rfl
theorem P5 {l : List (List Int × List Int)} {b : List Int × List Int} {a : Int × List Int} {d6 : List (Int × List Int)} : E9 (l ++ [b]) a d6 = E9 l a d6 ++ K4 b a d6 := by
  simp [E9]
theorem b2f {n k : Nat} {a : Int × List Int} {d6 : List (Int × List Int)} {l : List (List Int × List Int)} (ha : a.2.length ≤ k) (h : ∀ b ∈ l, b.1.length ≤ n ∧ b.2.length ≤ n) : ∀ b ∈ E9 l a d6, b.1.length ≤ n + k ∧ b.2.length ≤ n + k := by
  intro b hb
  simp only [E9, K4, List.mem_flatMap, List.mem_map] at hb
  obtain ⟨x, hx, f, _, rfl⟩ := hb
  have h1 := h x hx
  have h2 := a4V (l := a.2.zip f.2) (x := x)
  have h3 : (a.2.zip f.2).length ≤ a.2.length := by simp; omega
  unfold o8; omega
def t7 (n0 : List (Int × List Int)) (d6 : List (Int × List Int)) : List (List Int × List Int) := n0.foldl (fun l a => E9 l a d6) [([], [])]
theorem a0r {d6 : List (Int × List Int)} : t7 [] d6 = [([], [])] := rfl
theorem Y3 {n0 d6 : List (Int × List Int)} {a : Int × List Int} : t7 (n0 ++ [a]) d6 = E9 (t7 n0 d6) a d6 := by
  simp [t7]
/- tuples in order, each once -/
def b4R (l : List (List Int)) (t : List Int) : Bool := l.any fun x => decide (x = t)
def ltT (a b : List Int) : Bool := decide (E6 a b < 0)
def b3O (l : List (List Int)) (t : List Int) : List (List Int) := P9 (b4R l t) (ltT t) t l
def b3C (h : List Int) (l : List (List Int × List Int)) : List (List Int) := l.foldl (fun out b => b3O out (h.map (B4 b))) []
theorem a4X {s : List Int} {q : List Int × List (Int × List Int)} (h : I0 s q = true) : q.2.length ≤ 4 ∧ q.1.length ≤ 3 ∧ ∀ a ∈ q.2, a.2.length ≤ 3 := by
  simp only [I0, a1e, inR, Bool.and_eq_true, decide_eq_true_eq, Bool.not_eq_true', List.any_eq_false, Bool.not_eq_true] at h
  refine ⟨by omega, by omega, fun a ha => ?_⟩
  have h1 := h.2.2.1 a ha
  have h1 : N9 s a = true := by simpa using h1
  simp only [N9, Bool.and_eq_true, decide_eq_true_eq] at h1
  have := Q8 h1.1
  simp only [at0] at h1; omega
def b4K (s : List Int) (q : List Int × List (Int × List Int)) (d6 : List (Int × List Int)) : List (List Int) := if I0 s q && H3 s d6 then b3C q.1 (t7 q.2 d6) else []
end Go.Proofs.YtdopeopehgdccaaGreat

namespace Go.Proofs.YtdopeopehgdccaaGreat
set_option linter.unusedVariables false
set_option linter.unusedSimpArgs false
/-- the first number from v on that is not in u (u holds numbers below 10) -/
def nxt (u : List Int) : Nat → Nat → Nat
  | 0, v => v
  | n + 1, v => if P6 u (v : Int) then nxt u n (v + 1) else v
def J3 (u : List Int) (v : Nat) : Nat := nxt u 11 v
theorem a7F {u : List Int} (hu : ∀ x ∈ u, 0 ≤ x ∧ x ≤ 9) {v : Nat} (h : P6 u (v : Int) = true) : v ≤ 9 := by
  have := (hu _ (b2w.1 h)).2; omega
theorem a9T {u : List Int} (hu : ∀ x ∈ u, 0 ≤ x ∧ x ≤ 9) : ∀ {n v : Nat}, 10 ≤ v + n → nxt u (n + 1) v = nxt u n v
  | 0, v, h => by
    simp only [nxt]
    split
    · rename_i h1; have := a7F hu h1; omega
    · rfl
  | n + 1, v, h => by
    have ih := a9T hu (n := n) (v := v + 1) (by omega)
    show (if P6 u (v : Int) then nxt u (n + 1) (v + 1) else v) = (if P6 u (v : Int) then nxt u n (v + 1) else v)
    rw [ih]
theorem a8p {u : List Int} (hu : ∀ x ∈ u, 0 ≤ x ∧ x ≤ 9) {v : Nat} (h : P6 u (v : Int) = true) : J3 u (v + 1) = J3 u v := by
  have h1 : J3 u v = nxt u 10 (v + 1) := by unfold J3; rw [nxt, if_pos h]
  rw [h1]
  exact a9T hu (by omega)
theorem a7g {u : List Int} {v : Nat} (h : P6 u (v : Int) = false) : J3 u v = v := by
  unfold J3; rw [nxt, if_neg (by simp [h])]
/-- the number from which the search for the g-th variable's value starts -/
def fzN (u : List Int) : Nat → Nat
  | 0 => 0
  | g + 1 => J3 u (fzN u g) + 1
def a3u (u : List Int) (n : Nat) : Bool := (List.range n).all fun i => decide (J3 u (fzN u i) ≤ 9)
def B9 (u : List Int) (n : Nat) : List Int := (List.range n).map fun i => (J3 u (fzN u i) : Int)
theorem F6 {u : List Int} : B9 u 0 = [] := rfl
theorem F7 {u : List Int} {n : Nat} : B9 u (n + 1) = B9 u n ++ [(J3 u (fzN u n) : Int)] := by
  unfold B9; rw [List.range_succ, List.map_append]; rfl
theorem a2Q {u : List Int} {n : Nat} : (B9 u n).length = n := by simp [B9]
theorem a9M {u : List Int} {i n : Nat} (h : i < n) (h2 : ¬ J3 u (fzN u i) ≤ 9) : a3u u n = false := by
  rw [← Bool.not_eq_true, a3u, List.all_eq_true]
  intro e
  have := e i (List.mem_range.2 h)
  rw [decide_eq_true_eq] at this
  exact h2 this
theorem a8r {u : List Int} {n : Nat} (h : ∀ i, i < n → J3 u (fzN u i) ≤ 9) : a3u u n = true := by
  rw [a3u, List.all_eq_true]
  intro i hi
  rw [decide_eq_true_eq]
  exact h i (List.mem_range.1 hi)
theorem b1R {u : List Int} {g : Nat} (h : ∀ i, i < g → J3 u (fzN u i) ≤ 9) : fzN u g ≤ 10 := by
  cases g with
  | zero => simp [fzN]
  | succ g => have := h g (by omega); simp only [fzN]; omega
theorem b0I {u : List Int} {g : Nat} (h : ∀ i, i < g → J3 u (fzN u i) ≤ 9) (h1 : J3 u (fzN u g) ≤ 9) : ∀ i, i < g + 1 → J3 u (fzN u i) ≤ 9 := by
  intro i hi
  rcases Nat.lt_succ_iff_lt_or_eq.1 hi with h2 | rfl
  · exact h i h2
  · exact h1
def x6 (n0 : List (Int × List Int)) : List Int := f0 (fun t => inR t 10 17) n0
def b2Q (n0 : List (Int × List Int)) : List Int := f0 (fun t => inR t 0 9) n0
def T7 (n0 : List (Int × List Int)) (b : List Int × List Int) : List (Int × List Int) := n0.foldl (fun out a => o4 out (E4 a b)) []
theorem H2 {b : List Int × List Int} : T7 [] b = [] := rfl
theorem F8 {n0 : List (Int × List Int)} {a : Int × List Int} {b : List Int × List Int} : T7 (n0 ++ [a]) b = o4 (T7 n0 b) (E4 a b) := by simp [T7]
theorem a9W : ∀ {n0 out : List (Int × List Int)} {b : List Int × List Int}, (n0.foldl (fun out a => o4 out (E4 a b)) out).length ≤ out.length + n0.length
  | [], out, b => by simp
  | a :: n0, out, b => by
    have h1 := a9W (n0 := n0) (out := o4 out (E4 a b)) (b := b)
    have h2 := a2i (h := E5 out (E4 a b)) (p := ltF (E4 a b)) (f := E4 a b) (l := out)
    simp only [List.foldl_cons, List.length_cons]
    unfold o4 at h1 ⊢; omega
theorem a7N {n0 : List (Int × List Int)} {b : List Int × List Int} : (T7 n0 b).length ≤ n0.length := by
  have := a9W (n0 := n0) (out := []) (b := b); simpa [T7] using this
theorem b0G {n : Nat} : ∀ {n0 out : List (Int × List Int)} {b : List Int × List Int}, (∀ a ∈ n0, a.2.length ≤ n) → (∀ f ∈ out, f.2.length ≤ n) → ∀ f ∈ n0.foldl (fun out a => o4 out (E4 a b)) out, f.2.length ≤ n
  | [], out, b, _, h => h
  | a :: n0, out, b, ha, h => by
    refine b0G (n0 := n0) (out := o4 out (E4 a b)) (fun x hx => ha x (by simp [hx])) fun f hf => ?_
    rcases a1o hf with hf | rfl
    · exact h f hf
    · simp only [E4, List.length_map]; exact ha a (by simp)
theorem b3Y {n : Nat} {n0 : List (Int × List Int)} {b : List Int × List Int} (h : ∀ a ∈ n0, a.2.length ≤ n) : ∀ f ∈ T7 n0 b, f.2.length ≤ n := b0G h (by simp)
theorem b3a {n g : Nat} {n0 : List (Int × List Int)} {b : List Int × List Int} (h : ∀ a ∈ n0, a.2.length ≤ n) : ∀ f ∈ T7 (n0.take g) b, f.2.length ≤ n := b3Y fun a ha => h a (List.mem_of_mem_take ha)
def fzB (u : List Int) (n0 : List (Int × List Int)) : Bool := a3u u (x6 n0).length
def fzV (u : List Int) (n0 : List (Int × List Int)) : List Int := cond (fzB u n0) (x6 n0) []
def fzX (u : List Int) (n0 : List (Int × List Int)) : List Int := cond (fzB u n0) (B9 u (x6 n0).length) []
def fzF (u : List Int) (n0 : List (Int × List Int)) : List (Int × List Int) := cond (fzB u n0) (T7 n0 (x6 n0, B9 u (x6 n0).length)) []
theorem a3N {n0 : List (Int × List Int)} : ∀ x ∈ b2Q n0, 0 ≤ x ∧ x ≤ 9 := by
  intro x hx
  unfold b2Q f0 at hx
  rw [a1i, List.mem_filter] at hx
  have := hx.2
  simpa [inR] using this
theorem a7v {n0 : List (Int × List Int)} : ∀ x ∈ x6 n0, 10 ≤ x ∧ x ≤ 17 := by
  intro x hx
  unfold x6 f0 at hx
  rw [a1i, List.mem_filter] at hx
  have := hx.2
  simpa [inR] using this
end Go.Proofs.YtdopeopehgdccaaGreat
