import Derived.Test.YtdopeopehgdccaaGreatBc
import Derived.Test.YtdopeopehgdccaaGreatBb
import Derived.Lib.SlicesCompact
namespace Go.Proofs.YtdopeopehgdccaaGreat
open Go.RowKit
set_option linter.unusedVariables false
/-- g, with what it has captured, says p of every two elements, in every later world -/
def FnP2 {α : Type} (P : Program) (w : World) (L : List Nat) (g : FuncId) (caps : List Value) (E : Enc α) (val : List Value → Value) (p : α → α → Bool) : Prop :=
  a2X P g ∧ ∀ w', Keep w L w' → ∀ cs x ds y, Ro w' [] E cs x → Ro w' [] E ds y → Calls P g (val cs :: val ds :: caps).toArray w' fun e w'' => e = .returned (.bool (p x y)) ∧ Ext w' w''
section
variable {P : Program} {α : Type} {E : Enc α} {w w0 : World} {L L0 Lp : List Nat} {pre rest : List HP} {g : FuncId} {caps : List Value} {val : List Value → Value} {p : α → α → Bool}
end
section
variable {P : Program} {Q : Exit → Act → World → Prop} {n : Nat} {w0 : World} {L0 : List Nat} {fr : Fr} {H : List HP} {d : Nat} {ty : TypeId} {pos : String} {af : Array Edge} {g : Option (Nat × Bool)}
end
section
variable {P : Program} {w : World} {L : List Nat} {g : FuncId} {caps : List Value} {RR : World → List Nat → Prop}
theorem FnP2.ofFact {p : (Int × List Int) → (Int × List Int) → Bool} (tr : ∀ {x0 : Int} {ax1 : Option Addr} {mx1 cx1 : Nat} {x1 : List Int} {y0 : Int} {ay1 : Option Addr} {my1 cy1 : Nat} {y1 : List Int}, Tr P g (.agg #[.int .i64 x0, .slice ax1 mx1 cx1] :: .agg #[.int .i64 y0, .slice ay1 my1 cy1] :: caps) (fun w L => (I64 x0 ∧ Ro w L eIs [.slice ax1 mx1 cx1] x1 ∧ I64 y0 ∧ Ro w L eIs [.slice ay1 my1 cy1] y1) ∧ RR w L) [] (κ := Unit) (fun _ => True) (fun _ => .bool (p (x0, x1) (y0, y1))) (fun _ => [])) (hR : ∀ w', Keep w L w' → RR w' []) : FnP2 P w L g caps B2 a0h p :=
  ⟨(tr (x0 := 0) (x1 := []) (ax1 := none) (mx1 := 0) (cx1 := 0) (y0 := 0) (y1 := []) (ay1 := none) (my1 := 0) (cy1 := 0)).1, fun w' k cs x ds y hx hy => by obtain ⟨a0, c0, rfl, h0, h1⟩ := Ro.pFact hx; obtain ⟨b0, e0, rfl, k0, k1⟩ := Ro.pFact hy; exact Tr.bool tr ⟨⟨h0, h1, k0, k1⟩, hR w' k⟩⟩
theorem FnP2.ofAccess {p : (Int × List Int) → (Int × List Int) → Bool} (tr : ∀ {x0 : Int} {ax1 : Option Addr} {mx1 cx1 : Nat} {x1 : List Int} {y0 : Int} {ay1 : Option Addr} {my1 cy1 : Nat} {y1 : List Int}, Tr P g (.agg #[.int .i64 x0, .slice ax1 mx1 cx1] :: .agg #[.int .i64 y0, .slice ay1 my1 cy1] :: caps) (fun w L => (I64 x0 ∧ Ro w L eIs [.slice ax1 mx1 cx1] x1 ∧ I64 y0 ∧ Ro w L eIs [.slice ay1 my1 cy1] y1) ∧ RR w L) [] (κ := Unit) (fun _ => True) (fun _ => .bool (p (x0, x1) (y0, y1))) (fun _ => [])) (hR : ∀ w', Keep w L w' → RR w' []) : FnP2 P w L g caps J6 a0h p :=
  ⟨(tr (x0 := 0) (x1 := []) (ax1 := none) (mx1 := 0) (cx1 := 0) (y0 := 0) (y1 := []) (ay1 := none) (my1 := 0) (cy1 := 0)).1, fun w' k cs x ds y hx hy => by obtain ⟨a0, c0, rfl, h0, h1⟩ := Ro.pAccess hx; obtain ⟨b0, e0, rfl, k0, k1⟩ := Ro.pAccess hy; exact Tr.bool tr ⟨⟨h0, h1, k0, k1⟩, hR w' k⟩⟩
theorem FnP2.ofAtom {p : (Int × List Int) → (Int × List Int) → Bool} (tr : ∀ {x0 : Int} {ax1 : Option Addr} {mx1 cx1 : Nat} {x1 : List Int} {y0 : Int} {ay1 : Option Addr} {my1 cy1 : Nat} {y1 : List Int}, Tr P g (.agg #[.int .i64 x0, .slice ax1 mx1 cx1] :: .agg #[.int .i64 y0, .slice ay1 my1 cy1] :: caps) (fun w L => (I64 x0 ∧ Ro w L eIs [.slice ax1 mx1 cx1] x1 ∧ I64 y0 ∧ Ro w L eIs [.slice ay1 my1 cy1] y1) ∧ RR w L) [] (κ := Unit) (fun _ => True) (fun _ => .bool (p (x0, x1) (y0, y1))) (fun _ => [])) (hR : ∀ w', Keep w L w' → RR w' []) : FnP2 P w L g caps a0n a0h p :=
  ⟨(tr (x0 := 0) (x1 := []) (ax1 := none) (mx1 := 0) (cx1 := 0) (y0 := 0) (y1 := []) (ay1 := none) (my1 := 0) (cy1 := 0)).1, fun w' k cs x ds y hx hy => by obtain ⟨a0, c0, rfl, h0, h1⟩ := Ro.pAtom hx; obtain ⟨b0, e0, rfl, k0, k1⟩ := Ro.pAtom hy; exact Tr.bool tr ⟨⟨h0, h1, k0, k1⟩, hR w' k⟩⟩
theorem FnP2.ofIs {p : List Int → List Int → Bool} (tr : ∀ {ax : Option Addr} {mx cx : Nat} {x : List Int} {ay : Option Addr} {my cy : Nat} {y : List Int}, Tr P g (.slice ax mx cx :: .slice ay my cy :: caps) (fun w L => (Ro w L eIs [.slice ax mx cx] x ∧ Ro w L eIs [.slice ay my cy] y) ∧ RR w L) [] (κ := Unit) (fun _ => True) (fun _ => .bool (p x y)) (fun _ => [])) (hR : ∀ w', Keep w L w' → RR w' []) : FnP2 P w L g caps eIs a3a p :=
  ⟨(tr (ax := none) (mx := 0) (cx := 0) (x := []) (ay := none) (my := 0) (cy := 0) (y := [])).1, fun w' k cs x ds y hx hy => by obtain ⟨a, c, rfl⟩ := hx.sl; obtain ⟨b, e, rfl⟩ := hy.sl; exact (tr (x := x) (y := y)).bool ⟨⟨hx, hy⟩, hR w' k⟩⟩
end
end Go.Proofs.YtdopeopehgdccaaGreat

namespace Go.Proofs.YtdopeopehgdccaaGreat
open Go.RowKit
set_option linter.unusedVariables false
/-- of an owned list, whose row is there whole, the elements from j on -/
def owd {α : Type} (e : TypeId) (E : Enc α) (a : Option Addr) (m c : Nat) (xs : List α) (j : Nat) : HP where
  holds w L := ∃ c1 c2 L1 L2, L = L1 ++ L2 ∧ m = xs.length ∧ m ≤ maxLen ∧ c1.length = j * E.k ∧ w6 E w c2 (xs.drop j) L2 true ∧ (row e E.k a m c (c1 ++ c2)).holds w L1
  stable := by
    rintro w w' L ⟨c1, c2, L1, L2, rfl, h1, h2, h3, h4, h5⟩ hb
    exact ⟨c1, c2, L1, L2, rfl, h1, h2, h3, h4.stable fun b h => hb b (by simp [h]), (row e E.k a m c _).stable h5 fun b h => hb b (by simp [h])⟩
  inh := by
    rintro w L ⟨c1, c2, L1, L2, rfl, h1, h2, h3, h4, h5⟩ b hb
    rcases List.mem_append.1 hb with hb | hb
    · exact (row e E.k a m c _).inh h5 b hb
    · exact h4.inh b hb
/-- the same, where element j (cells ce) has been taken out -/
def owt {α : Type} (e : TypeId) (E : Enc α) (a : Option Addr) (m c : Nat) (xs : List α) (j : Nat) (ce : List Value) : HP where
  holds w L := ∃ c1 c2 L1 L2, L = L1 ++ L2 ∧ m = xs.length ∧ m ≤ maxLen ∧ j < xs.length ∧ ce.length = E.k ∧ c1.length = j * E.k ∧ w6 E w c2 (xs.drop (j + 1)) L2 true ∧ (row e E.k a m c (c1 ++ (ce ++ c2))).holds w L1
  stable := by
    rintro w w' L ⟨c1, c2, L1, L2, rfl, h1, h2, h0, h6, h3, h4, h5⟩ hb
    exact ⟨c1, c2, L1, L2, rfl, h1, h2, h0, h6, h3, h4.stable fun b h => hb b (by simp [h]), (row e E.k a m c _).stable h5 fun b h => hb b (by simp [h])⟩
  inh := by
    rintro w L ⟨c1, c2, L1, L2, rfl, h1, h2, h0, h6, h3, h4, h5⟩ b hb
    rcases List.mem_append.1 hb with hb | hb
    · exact (row e E.k a m c _).inh h5 b hb
    · exact h4.inh b hb
section
variable {n : Nat} {w0 : World} {L0 : List Nat} {fr : Fr} {H R : List HP} {G : Act → World → Prop} {α : Type} {E : Enc α} {e : TypeId} {a : Option Addr} {m c : Nat} {xs : List α} {j : Nat}
theorem Ent.od0 (h : Ent n w0 L0 fr (owd e E a m c xs 0 :: R) G) : Ent n w0 L0 fr (ow (Enc.sl e E) [.slice a m c] xs :: R) G := fun ac w h1 h2 => by
  obtain ⟨L, ⟨Lo, LR, rfl, ho, hR⟩, hn, hst⟩ := h2
  obtain ⟨ccs, L1, L2, rfl, g1, g2, g3, g4⟩ := a0E ho
  exact h ac w h1 ⟨(L1 ++ L2) ++ LR, ⟨L1 ++ L2, LR, rfl, ⟨[], ccs, L1, L2, rfl, g1, g2, by simp, g3, g4⟩, hR⟩, hn, hst⟩
theorem Ent.odt (hj : j < xs.length) (h : ∀ ce, Ent n w0 L0 fr (owt e E a m c xs j ce :: ow E ce xs[j] :: R) G) : Ent n w0 L0 fr (owd e E a m c xs j :: R) G := fun ac w h1 h2 => by
  obtain ⟨L, ⟨Lo, LR, rfl, ⟨c1, c2, L1, L2, rfl, g1, g2, g3, g4, g5⟩, hR⟩, hn, hst⟩ := h2
  rw [List.drop_eq_getElem_cons hj] at g4
  obtain ⟨d1, d2, N1, N2, rfl, rfl, k1, k2⟩ := g4
  have hperm : (L1 ++ (N1 ++ N2) ++ LR).Perm ((L1 ++ N2) ++ (N1 ++ LR)) := by
    simp only [List.append_assoc]
    refine List.Perm.append_left L1 ?_
    rw [← List.append_assoc, ← List.append_assoc]
    exact (List.perm_append_comm).append_right LR
  exact h d1 ac w h1 ⟨(L1 ++ N2) ++ (N1 ++ LR), ⟨_, _, rfl, ⟨c1, d2, L1, N2, rfl, g1, g2, hj, E.len k1, g3, k2, g5⟩, N1, LR, rfl, k1, hR⟩, hperm.nodup_iff.1 hn, hst.sublist fun b hb => hperm.mem_iff.2 hb⟩
theorem Ent.otd {ce : List Value} (h : Ent n w0 L0 fr (owd e E a m c xs (j + 1) :: R) G) : Ent n w0 L0 fr (owt e E a m c xs j ce :: R) G := fun ac w h1 h2 => by
  obtain ⟨L, ⟨Lo, LR, rfl, ⟨c1, c2, L1, L2, rfl, g1, g2, g0, g6, g3, g4, g5⟩, hR⟩, hn, hst⟩ := h2
  exact h ac w h1 ⟨(L1 ++ L2) ++ LR, ⟨L1 ++ L2, LR, rfl, ⟨c1 ++ ce, c2, L1, L2, rfl, g1, g2, by rw [List.length_append, g3, g6, Nat.succ_mul], g4, by rw [List.append_assoc]; exact g5⟩, hR⟩, hn, hst⟩
theorem Ent.osl {cs : List Value} (h : ∀ (a : Option Addr) (m c : Nat), cs = [.slice a m c] → m = xs.length → Ent n w0 L0 fr (ow (Enc.sl e E) [.slice a m c] xs :: R) G) : Ent n w0 L0 fr (ow (Enc.sl e E) cs xs :: R) G := fun ac w h1 h2 => by
  obtain ⟨L, ⟨Lx, LR, rfl, hx, hR⟩, hn, hst⟩ := h2
  obtain ⟨a, m, c, ccs, L1, L2, rfl, hm, hx2⟩ := id hx
  exact h a m c rfl hm ac w h1 ⟨Lx ++ LR, ⟨Lx, LR, rfl, hx, hR⟩, hn, hst⟩
theorem Has.owt {ce : List Value} {b o : Nat} (ha : a = some ⟨b, o, none⟩) (hm : Go.Proofs.YtdopeopehgdccaaGreat.owt e E a m c xs j ce ∈ H) : Has w0 L0 H b (o + j * E.k) ce := fun w h => by
  obtain ⟨L', c1, c2, L1, L2, _, g1, g2, hj, g6, g3, g4, h0, g8⟩ := h.mem hm
  rcases g8 with ⟨_, h, _⟩ | ⟨g', cur, h2, h3, h4, h5, h6, h7, _⟩
  · omega
  rw [ha] at h2; cases h2
  intro i v hi
  have hi' : (c1 ++ (ce ++ c2))[j * E.k + i]? = some v := by
    rw [← g3, List.getElem?_append_right (by omega), show c1.length + i - c1.length = i from by omega]
    rw [List.getElem?_append_left (by exact (List.getElem?_eq_some_iff.1 hi).1)]; exact hi
  rw [← h7, List.getElem?_take] at hi'
  split at hi'
  · simpa [World.cell?, h3] using hi'
  · cases hi'
theorem Ent.adrd (hm : owd e E a m c xs j ∈ H) (hlt : 0 < m) (h : ∀ b, a = some ⟨b, 0, none⟩ → Ent n w0 L0 fr H G) : Ent n w0 L0 fr H G := fun ac w h1 h2 => by
  obtain ⟨L, hL⟩ := h2.mem hm
  obtain ⟨c1, c2, L1, L2, _, g1, g2, _, _, g4⟩ := hL
  rcases g4.2 with ⟨_, h0, _⟩ | ⟨g, cur, h3, _⟩
  · omega
  · exact h g h3 ac w h1 h2
end
theorem V2.has {w1 w0 : World} {L1 L0 : List Nat} {b off : Nat} {cs : List Value} (h : V2 w1 L1 w0 L0) (k : ∀ H, Has w0 L0 H b off cs) : ∀ H, Has w1 L1 H b off cs := fun H w hw => k H w (h H w hw)
theorem frB {a b : Bool} (h : a = b) : some (Value.bool a) = some (Value.bool b) := by rw [h]
end Go.Proofs.YtdopeopehgdccaaGreat

namespace Go.Proofs.YtdopeopehgdccaaGreat
set_option linter.unusedVariables false
def H4 (a b : Int) : Int := if a < b then -1 else if b < a then 1 else 0
def C6 : List Int → List Int → Int
  | [], [] => 0
  | [], _ :: _ => -1
  | _ :: _, [] => 1
  | a :: l, b :: m => if H4 a b ≠ 0 then H4 a b else C6 l m
def orI : List Int → Int
  | [] => 0
  | x :: l => if x ≠ 0 then x else orI l
def G8 (a b : Int × List Int) : Int := if H4 a.1 b.1 ≠ 0 then H4 a.1 b.1 else C6 a.2 b.2
theorem a7z {a b : Int} : I64 (H4 a b) := by unfold H4 I64; split; omega; split <;> omega
theorem a7u : ∀ {l m : List Int}, I64 (C6 l m)
  | [], [] => by unfold C6 I64; omega
  | [], _ :: _ => by unfold C6 I64; omega
  | _ :: _, [] => by unfold C6 I64; omega
  | a :: l, b :: m => by unfold C6; split; exact a7z; exact a7u
theorem a6g {a b : Int} : H4 a b = 0 ↔ a = b := by unfold H4; grind
theorem a6m : ∀ {l m : List Int}, C6 l m = 0 ↔ l = m
  | [], [] => by simp [C6]
  | [], _ :: _ => by simp [C6]
  | _ :: _, [] => by simp [C6]
  | a :: l, b :: m => by
    have := a6g (a := a) (b := b)
    have h2 := a6m (l := l) (m := m)
    unfold C6; grind
theorem a0X {a b : Int × List Int} : G8 a b = 0 ↔ a = b := by
  have h1 := a6g (a := a.1) (b := b.1)
  have h2 := a6m (l := a.2) (m := b.2)
  unfold G8
  rcases a with ⟨a1, a2⟩; rcases b with ⟨b1, b2⟩
  grind
/-- slices.EqualFunc -/
def eqP {α : Type} (p : α → α → Bool) : List α → List α → Bool
  | [], [] => true
  | a :: l, b :: m => p a b && eqP p l m
  | _, _ => false
end Go.Proofs.YtdopeopehgdccaaGreat

namespace Go.Proofs.YtdopeopehgdccaaGreat
set_option linter.unusedVariables false
def F1 (l : List (Int × List Int)) (f : Int × List Int) : Bool := l.any fun z => decide (G8 z f = 0)
def a8S (a : Int × List Int) (b : List Int × List Int) : Int × List Int := (a.1, a.2.map (B7 b))
def b3g (q : List Int × List (Int × List Int)) (d8 : List (Int × List Int)) (head : List Int) (b : List Int × List Int) : Bool :=
  decide (b.1.length = b.2.length) && (decide (q.1.map (B7 b) = head) && !q.2.any fun a => !F1 d8 (a8S a b))
theorem Ro.i64A {w : World} {L : List Nat} {e : TypeId} {a : Option Addr} {m c : Nat} {xs : List (Int × List Int)} (h : Ro w L (Enc.sl e (Enc.pair Enc.int (Enc.sl tI Enc.int))) [.slice a m c] xs) : ∀ x ∈ xs, I64 x.1 ∧ ∀ y ∈ x.2, I64 y := by
  intro x hx
  obtain ⟨i, hi, rfl⟩ := List.getElem_of_mem hx
  obtain ⟨_, _, ci, _, h1, _⟩ := h.elem i hi
  obtain ⟨c1, c2, rfl, h2, h3⟩ := h1.pair
  obtain ⟨a', c', rfl⟩ := h3.sl
  exact ⟨h2.int.2, h3.i64⟩
end Go.Proofs.YtdopeopehgdccaaGreat

namespace Go.Proofs.YtdopeopehgdccaaGreat
set_option linter.unusedVariables false
def D2 {α : Type} (r : α → α → Bool) : List α → Bool
  | a :: b :: l => r a b && D2 r (b :: l)
  | _ => true
theorem a9s {α : Type} {l : List α} {g : Nat} (h : g < l.length) (h0 : 0 < g) : l.drop (g - 1) = l[g - 1] :: l[g] :: l.drop (g + 1) := by
  rw [List.drop_eq_getElem_cons (by omega), show g - 1 + 1 = g by omega, List.drop_eq_getElem_cons h]
def ltB (a b : Int) : Bool := decide (a < b)
theorem C4 {α : Type} {r : α → α → Bool} {l : List α} {g : Nat} (h : g < l.length) (h0 : 0 < g) : D2 r (l.drop (g - 1)) = (r l[g - 1] l[g] && D2 r (l.drop g)) := by
  rw [a9s h h0, D2, ← List.drop_eq_getElem_cons h]
theorem C2 {α : Type} {r : α → α → Bool} {l : List α} {g : Nat} (h : g = 0) : D2 r (l.drop (g - 1)) = D2 r (l.drop g) := by subst h; rfl
theorem C8 {α : Type} {r : α → α → Bool} {l : List α} {g : Nat} (h : l.length ≤ g) : D2 r (l.drop (g - 1)) = true := by
  have : (l.drop (g - 1)).length ≤ 1 := by simp; omega
  match l.drop (g - 1), this with
  | [], _ => rfl
  | [x], _ => rfl
  | x :: y :: z, h => simp at h
def S7 (m : Int × List Int × Int × Int × Int) (ar : Int) : Bool :=
  D2 ltB m.2.1 && (P1 m.2.1 ar && (inR m.2.2.1 0 9 && (inR m.2.2.2.1 0 99 && inR m.2.2.2.2 1 99)))
def H6 (s : List Int) (m : Int × List Int × Int × Int × Int) : Bool := F4 s m.1 && S7 m (at0 s m.1)
def D6 (s : List Int) (l : List (Int × List Int × Int × Int × Int)) : Bool := J1 s && (decide ((l.length : Int) ≤ 5) && !l.any fun m => !H6 s m)
def a5B (v : List Int) : Bool := D2 ltB v && I7 v
def Y0 (l : List (Int × List Int)) (a : Int × List Int) : Bool := l.any fun z => decide (z = a)
def M5 (D8 : List Int) : Nat → List (List Int)
  | 0 => [[]]
  | n + 1 => (M5 D8 n).flatMap fun l => D8.map fun v => l ++ [v]
def Y1 (D8 : List Int) (log : List (Int × List Int)) (i : Int) (k : Nat) : List (Int × List Int) :=
  ((M5 D8 k).filter fun v => !Y0 log (i, v)).map fun v => (i, v)
def V6 (D8 : List Int) (log : List (Int × List Int)) : List (Int × List Int × Int × Int × Int) → Int → List (Int × List Int)
  | [], _ => []
  | m :: l, i => (if m.2.2.1 ≠ 0 then [] else Y1 D8 log i m.2.1.length) ++ V6 D8 log l (i + 1)
def a0b (s : List Int) (l : List (Int × List Int × Int × Int × Int)) (D8 : List Int) (log : List (Int × List Int)) : List (Int × List Int) :=
  if D6 s l && a5B D8 then V6 D8 log l 0 else []
/-- an ascending list between two numbers is short -/
theorem a6n : ∀ {l : List Int} {a b : Int}, D2 ltB l = true → (∀ x ∈ l, a ≤ x ∧ x ≤ b) → a ≤ b + 1 → (l.length : Int) ≤ b - a + 1
  | [], _, _, _, _, _ => by simp; omega
  | [x], a, b, _, h, _ => by have := h x (by simp); simp; omega
  | x :: y :: l, a, b, hc, h, hab => by
    simp only [D2, ltB, Bool.and_eq_true, decide_eq_true_eq] at hc
    have hx := h x (by simp)
    have hge : ∀ z ∈ y :: l, x + 1 ≤ z := by
      have : ∀ {l : List Int} {y : Int}, D2 ltB (y :: l) = true → ∀ z ∈ y :: l, y ≤ z := by
        intro l
        induction l with
        | nil => intro y _ z hz; simp at hz; omega
        | cons u l ih =>
          intro y hc z hz
          simp only [D2, ltB, Bool.and_eq_true, decide_eq_true_eq] at hc
          rcases List.mem_cons.1 hz with rfl | hz
          · omega
          · have := ih hc.2 z hz; omega
      intro z hz
      have := this hc.2 z hz; omega
    have := a6n (l := y :: l) (a := x + 1) (b := b) hc.2 (fun z hz => ⟨hge z hz, (h z (by simp only [List.mem_cons] at hz ⊢; exact .inr hz)).2⟩) (by omega)
    simp only [List.length_cons] at this ⊢; omega
theorem a8K {s : List Int} {m : Int × List Int × Int × Int × Int} (h : H6 s m = true) : m.2.1.length ≤ 3 := by
  simp only [H6, S7, P1, Bool.and_eq_true, Bool.not_eq_true', List.any_eq_false] at h
  have h1 := V1 h.1
  have := a6n (a := 0) (b := at0 s m.1 - 1) h.2.1 (fun x hx => by have := h.2.2.1 x hx; simpa [inR] using this) (by simp only [at0]; omega)
  simp only [at0] at this; omega
theorem a0m {s : List Int} {l : List (Int × List Int × Int × Int × Int)} (h : D6 s l = true) : (∀ m ∈ l, m.2.1.length ≤ 3) ∧ l.length ≤ 5 := by
  simp only [D6, Bool.and_eq_true, Bool.not_eq_true', List.any_eq_false, decide_eq_true_eq] at h
  refine ⟨fun m hm => a8K (s := s) ?_, by omega⟩
  have := h.2.2 m hm
  simpa using this
theorem a2e {α : Type} {c : α → Nat} {n : Nat} : ∀ {l : List α}, (∀ x ∈ l, c x ≤ n) → j8 c l ≤ l.length * n
  | [], _ => by simp [j8]
  | x :: l, h => by
    have h1 := a2e (c := c) (n := n) (l := l) fun y hy => h y (by simp [hy])
    have h2 := h x (by simp)
    simp only [j8, List.map_cons, List.sum_cons, List.length_cons, Nat.succ_mul] at h1 ⊢; omega
end Go.Proofs.YtdopeopehgdccaaGreat

namespace Go.Proofs.YtdopeopehgdccaaGreat
set_option linter.unusedVariables false
/-- f ahead of the first element of which p is true; nothing if there is none -/
def F2 {α : Type} (p : α → Bool) (f : α) : List α → List α
  | [] => []
  | x :: l => if p x then f :: x :: l else x :: F2 p f l
def M4 {α : Type} (has : Bool) (p : α → Bool) (f : α) (l : List α) : List α := if has then l else if l.any p then F2 p f l else l ++ [f]
section
variable {α : Type} {p q : α → Bool} {f : α}
theorem P5 : ∀ {l : List α}, l.any p = false → F2 p f l = l
  | [], _ => rfl
  | x :: l, h => by
    simp only [List.any_cons, Bool.or_eq_false_iff] at h
    simp [F2, h.1, P5 h.2]
theorem K6 : ∀ {l : List α} {y : α}, F2 p f (l ++ [y]) = if l.any p then F2 p f l ++ [y] else if p y then l ++ [f, y] else l ++ [y]
  | [], y => by simp [F2]
  | x :: l, y => by
    have h := K6 (l := l) (y := y)
    simp only [List.cons_append, F2, List.any_cons, h]
    cases p x <;> cases l.any p <;> cases p y <;> simp
theorem a2s : ∀ {l : List α}, (F2 p f l).length ≤ l.length + 1
  | [] => by simp [F2]
  | x :: l => by
    have := a2s (l := l)
    simp only [F2]; split <;> simp <;> omega
theorem a4r {h : Bool} {l : List α} : (M4 h p f l).length ≤ l.length + 1 := by
  have := a2s (p := p) (f := f) (l := l)
  unfold M4; split; omega; split; omega; simp
theorem a7A {h : Bool} {l : List α} {y : α} (hy : y ∈ M4 h p f l) : y ∈ l ∨ y = f := by
  have ins : ∀ {l : List α}, y ∈ F2 p f l → y ∈ l ∨ y = f := by
    intro l
    induction l with
    | nil => simp [F2]
    | cons x l ih =>
      intro h
      simp only [F2] at h
      split at h
      · simp only [List.mem_cons] at h ⊢; rcases h with h | h | h <;> simp [h]
      · simp only [List.mem_cons] at h ⊢
        rcases h with h | h
        · simp [h]
        · rcases ih h with h | h <;> simp [h]
  unfold M4 at hy
  split at hy
  · exact .inl hy
  · split at hy
    · exact ins hy
    · simpa using hy
theorem a7y {l : List α} (hpq : ∀ y ∈ l, p y = q y) : M4 false p f l = l.take (if D3 q l < 0 then l.length else (D3 q l).toNat) ++ f :: l.drop (if D3 q l < 0 then l.length else (D3 q l).toNat) := by
  have ha : l.any p = l.any q := by
    induction l with
    | nil => rfl
    | cons x l ih => simp [List.any_cons, hpq x (by simp), ih fun y hy => hpq y (by simp [hy])]
  unfold M4 D3
  rw [ha]
  by_cases h : l.any q = true
  · simp only [h, if_true, Bool.false_eq_true, if_false]
    rw [if_neg (by omega), Int.toNat_natCast]
    clear ha
    induction l with
    | nil => simp at h
    | cons x l ih =>
      simp only [F2, List.findIdx_cons, hpq x (by simp)]
      cases hq : q x with
      | true => simp
      | false =>
        simp only [List.any_cons, hq, Bool.false_or] at h
        simp [ih (fun y hy => hpq y (by simp [hy])) h]
  · simp [h]
end
/-- the numbers of a list, each once, ascending -/
def F8 (l : List Int) (x : Int) : Bool := l.any fun y => decide (y = x)
def D9 (l : List Int) (x : Int) : List Int := M4 (F8 l x) (fun y => decide (x < y)) x l
def L8 (l : List Int) : List Int := l.foldl D9 []
theorem a8o : ∀ {a b : List Int}, a.Pairwise (· < ·) → b.Pairwise (· < ·) → (∀ x, x ∈ a ↔ x ∈ b) → a = b
  | [], [], _, _, _ => rfl
  | [], y :: b, _, _, h => by have := (h y).2 (by simp); simp at this
  | x :: a, [], _, _, h => by have := (h x).1 (by simp); simp at this
  | x :: a, y :: b, ha, hb, h => by
    rw [List.pairwise_cons] at ha hb
    have e : x = y := by
      have h1 := (h x).1 (by simp)
      have h2 := (h y).2 (by simp)
      simp only [List.mem_cons] at h1 h2
      rcases h1 with h1 | h1
      · exact h1
      · rcases h2 with h2 | h2
        · exact h2.symm
        · have := hb.1 x h1; have := ha.1 y h2; omega
    subst e
    rw [a8o ha.2 hb.2 fun z => ?_]
    have := h z
    simp only [List.mem_cons] at this
    constructor
    · intro hz
      rcases this.1 (.inr hz) with e | e
      · have := ha.1 z hz; omega
      · exact e
    · intro hz
      rcases this.2 (.inr hz) with e | e
      · have := hb.1 z hz; omega
      · exact e
theorem a9g {l : List Int} {x : Int} (h : l.Pairwise (· < ·)) : (D9 l x).Pairwise (· < ·) ∧ ∀ y, y ∈ D9 l x ↔ y ∈ l ∨ y = x := by
  have ins : ∀ {l : List Int}, l.Pairwise (· < ·) → x ∉ l → (if (l.any fun y => decide (x < y)) then F2 (fun y => decide (x < y)) x l else l ++ [x]).Pairwise (· < ·) ∧ ∀ y, y ∈ (if (l.any fun y => decide (x < y)) then F2 (fun y => decide (x < y)) x l else l ++ [x]) ↔ y ∈ l ∨ y = x := by
    intro l
    induction l with
    | nil => intro _ _; simp
    | cons z l ih =>
      intro h hx
      rw [List.pairwise_cons] at h
      simp only [List.mem_cons, not_or] at hx
      have ih' := ih h.2 hx.2
      by_cases hz : x < z
      · simp only [List.any_cons, hz, decide_true, Bool.true_or, if_true, F2]
        refine ⟨?_, fun y => by simp only [List.mem_cons]; constructor <;> (intro h; rcases h with h | h | h) <;> simp [h]⟩
        rw [List.pairwise_cons, List.pairwise_cons]
        refine ⟨fun y hy => ?_, h⟩
        simp only [List.mem_cons] at hy
        rcases hy with rfl | hy
        · exact hz
        · have := h.1 y hy; omega
      · simp only [List.any_cons, hz, decide_false, Bool.false_or, F2, Bool.false_eq_true, if_false]
        have e : (if (l.any fun y => decide (x < y)) then z :: F2 (fun y => decide (x < y)) x l else z :: l ++ [x]) = z :: (if (l.any fun y => decide (x < y)) then F2 (fun y => decide (x < y)) x l else l ++ [x]) := by split <;> simp
        rw [e]
        refine ⟨?_, fun y => by rw [List.mem_cons, ih'.2 y, List.mem_cons, or_assoc]⟩
        rw [List.pairwise_cons]
        refine ⟨fun y hy => ?_, ih'.1⟩
        rcases (ih'.2 y).1 hy with hy | rfl
        · exact h.1 y hy
        · omega
  unfold D9 M4 F8
  by_cases hx : x ∈ l
  · have : (l.any fun y => decide (y = x)) = true := List.any_eq_true.2 ⟨x, hx, by simp⟩
    rw [if_pos this]
    exact ⟨h, fun y => ⟨.inl, fun e => by rcases e with e | rfl; exact e; exact hx⟩⟩
  · have : ¬ (l.any fun y => decide (y = x)) = true := fun e => by
      obtain ⟨y, hy, e⟩ := List.any_eq_true.1 e
      simp at e; subst e; exact hx hy
    rw [if_neg this]
    exact ins h hx
theorem a2L : ∀ {l s : List Int}, s.Pairwise (· < ·) → (l.foldl D9 s).Pairwise (· < ·) ∧ ∀ y, y ∈ l.foldl D9 s ↔ y ∈ s ∨ y ∈ l
  | [], s, h => ⟨h, by simp⟩
  | x :: l, s, h => by
    have h1 := a9g (x := x) h
    have h2 := a2L (l := l) h1.1
    refine ⟨h2.1, fun y => ?_⟩
    rw [List.foldl_cons, h2.2 y, h1.2 y, List.mem_cons, or_assoc]
theorem a9Q {l : List Int} : (L8 l).Pairwise (· < ·) := (a2L .nil).1
theorem b0h {l : List Int} {y : Int} : y ∈ L8 l ↔ y ∈ l := by rw [L8, (a2L .nil).2 y]; simp
theorem b0s {l : List Int} : (L8 l).length ≤ l.length := by
  have : ∀ {l s : List Int}, (l.foldl D9 s).length ≤ s.length + l.length := by
    intro l
    induction l with
    | nil => intro s; simp
    | cons x l ih => intro s; have := ih (s := D9 s x); have h2 := a4r (h := F8 s x) (p := fun y => decide (x < y)) (f := x) (l := s); simp only [List.foldl_cons, List.length_cons]; unfold D9 at *; omega
  have h := this (l := l) (s := [])
  simpa [L8] using h
theorem a5u {d : List Int} (hd : d.Pairwise (· ≤ ·)) : (Lib.compact d).Pairwise (· < ·) ∧ ∀ y, y ∈ Lib.compact d ↔ y ∈ d := by
  have hle : ∀ i j, (hij : i ≤ j) → (hj : j < d.length) → d[i]'(by omega) ≤ d[j]'hj := by
    intro i j hij hj
    rcases Nat.lt_or_eq_of_le hij with h | h
    · exact List.pairwise_iff_getElem.1 hd i j (by omega) hj h
    · subst h; exact Int.le_refl _
  have hget : ∀ i, (h : i < d.length) → d.toArray[i]! = d[i] := by intro i h; simp [h]
  have key : ∀ m, m ≤ d.length → (Lib.compactUpTo d.toArray m).Pairwise (· < ·) ∧ ∀ y, y ∈ Lib.compactUpTo d.toArray m ↔ y ∈ d.take m := by
    intro m
    induction m with
    | zero => intro _; simp [Lib.compactUpTo]
    | succ m ih =>
      intro hm
      obtain ⟨h1, h2⟩ := ih (by omega)
      have hmem : ∀ y, y ∈ d.take (m + 1) ↔ y ∈ d.take m ∨ y = d[m] := by
        intro y; rw [List.take_succ_eq_append_getElem (show m < d.length by omega), List.mem_append, List.mem_singleton]
      rw [Lib.compactUpTo_succ, hget m (by omega)]
      by_cases hk : Lib.keeps d.toArray m = true
      · rw [if_pos hk]
        refine ⟨List.pairwise_append.2 ⟨h1, by simp, fun a ha b hb => ?_⟩, fun y => by rw [List.mem_append, h2 y, hmem y]; simp⟩
        simp only [List.mem_singleton] at hb
        subst hb
        rw [h2 a, List.mem_take_iff_getElem] at ha
        obtain ⟨i, hi, rfl⟩ := ha
        have hi' : i < m := by omega
        have e1 := hle i (m - 1) (by omega) (by omega)
        have e2 := hle (m - 1) m (by omega) (by omega)
        have e3 : d[m - 1]'(by omega) ≠ d[m] := by
          intro e
          have := Lib.keeps_neg (d := d.toArray) (m := m) (by omega) (by rw [hget m (by omega), hget (m - 1) (by omega), e])
          rw [this] at hk; cases hk
        omega
      · rw [if_neg hk, List.append_nil]
        refine ⟨h1, fun y => ?_⟩
        rw [h2 y, hmem y]
        refine ⟨.inl, fun h => h.elim id ?_⟩
        rintro rfl
        have h0 : 0 < m := by
          rcases Nat.eq_zero_or_pos m with e | e
          · subst e; exact absurd (Lib.keeps_lt_one d.toArray 0 (by omega)) hk
          · exact e
        have e3 : d[m - 1]'(by omega) = d[m] := by
          refine Classical.byContradiction fun e => hk (Lib.keeps_pos ?_)
          rw [hget m (by omega), hget (m - 1) (by omega)]
          exact fun e' => e e'.symm
        rw [List.mem_take_iff_getElem]
        exact ⟨m - 1, by omega, e3⟩
  have := key d.length (Nat.le_refl _)
  simpa [Lib.compact] using this
/-- sorted, and of equal ones one kept: the set -/
theorem V7 {l : List Int} : Lib.compact (l.mergeSort fun x y => decide (x ≤ y)) = L8 l := by
  have hs : (l.mergeSort fun x y => decide (x ≤ y)).Pairwise (· ≤ ·) := by
    have := List.pairwise_mergeSort (le := fun x y : Int => decide (x ≤ y)) (by intro a b c; simp only [decide_eq_true_eq]; omega) (by intro a b; simp only [Bool.or_eq_true, decide_eq_true_eq]; omega) l
    exact this.imp fun h => by simpa using h
  have h := a5u hs
  refine a8o h.1 a9Q fun x => ?_
  rw [h.2 x, b0h]
  exact (List.mergeSort_perm l _).mem_iff
end Go.Proofs.YtdopeopehgdccaaGreat

namespace Go.Proofs.YtdopeopehgdccaaGreat
set_option linter.unusedVariables false
theorem Tr.wk {P : Program} {f : FuncId} {args : List Value} {RR RR' : World → List Nat → Prop} {pre : List HP} {κ : Type} {φ : κ → Prop} {ret : κ → Value} {post : κ → List HP} (h : Tr P f args RR pre φ ret post) (hR : ∀ w L, RR' w L → RR w L) : Tr P f args RR' pre φ ret post :=
  ⟨h.1, fun w L hr hs hn => h.2 w L (hR w L hr) hs hn⟩
theorem a0p {l m : List Int} : L8 (l ++ m) = m.foldl D9 (L8 l) := by unfold L8; rw [List.foldl_append]
theorem a0v {l : List Int} {x : Int} : L8 (l ++ [x]) = D9 (L8 l) x := by rw [a0p]; rfl
theorem a2n {l : List Int} {x : Int} : F8 l x = true ↔ x ∈ l := by
  unfold F8
  rw [List.any_eq_true]
  constructor
  · rintro ⟨y, hy, e⟩; simp at e; subst e; exact hy
  · intro h; exact ⟨x, h, by simp⟩
def D1 (is : Int → Bool) (i9 : List (Int × List Int)) : List Int := L8 ((i9.flatMap fun a => a.2).filter is)
theorem a4e : ∀ {l : List (Int × List Int)}, (l.flatMap fun a => a.2).length = j8 (fun x => x.2.length) l
  | [] => rfl
  | a :: l => by simp only [List.flatMap_cons, List.length_append, a4e (l := l), j8, List.map_cons, List.sum_cons]
theorem a9E {is : Int → Bool} {i9 : List (Int × List Int)} {g : Nat} (hz : E0 (fun x => x.2.length) i9 ≤ 1048576) : (((i9.take g).flatMap fun a => a.2).filter is).length ≤ 1048576 := by
  have h1 := List.length_filter_le is ((i9.take g).flatMap fun a => a.2)
  have h2 := F0 (t := fun x : Int × List Int => x.2.length) (l := i9) (g := g)
  rw [a4e] at h1
  unfold E0 at hz; omega
theorem a4E {is : Int → Bool} {i9 : List (Int × List Int)} {g h : Nat} (hz : E0 (fun x => x.2.length) i9 ≤ 1048576) (hg : g < i9.length) : (((i9.take g).flatMap fun a => a.2).filter is ++ (i9[g].2.take h).filter is).length ≤ 1048576 := by
  have h1 := List.length_filter_le is ((i9.take g).flatMap fun a => a.2)
  have h2 := F0 (t := fun x : Int × List Int => x.2.length) (l := i9) (g := g + 1)
  have h3 := List.length_filter_le is (i9[g].2.take h)
  have h4 := List.length_take_le' h i9[g].2
  rw [E8 hg] at h2
  rw [a4e] at h1
  rw [List.length_append]
  unfold E0 at hz; omega
def K5 (t : Int) : Bool := inR t 0 9 || inR t 10 17
def I8 (s : List Int) (a : Int × List Int) : Bool := F4 s a.1 && (decide ((a.2.length : Int) = at0 s a.1) && !a.2.any fun t => !K5 t)
def a0j (q : List Int × List (Int × List Int)) : Bool := decide ((q.1.length : Int) ≤ 3) && !q.1.any fun t => !F8 (D1 (fun t => inR t 10 17) q.2) t
def E2 (s : List Int) (q : List Int × List (Int × List Int)) : Bool := J1 s && (inR (q.2.length : Int) 1 4 && ((!q.2.any fun a => !I8 s a) && a0j q))
def b2C (s : List Int) (u : List (List Int × List (Int × List Int))) (q : List Int × List (Int × List Int)) : Bool := !E2 s q || decide ((q.1.length : Int) ≠ ((u.getD 0 ([], [])).1.length : Int))
def b0V (s : List Int) (u : List (List Int × List (Int × List Int))) : Bool := inR (u.length : Int) 1 3 && !u.any (b2C s u)
def a5T (s : List Int) (g : (List Int × List (Int × List Int)) × List (Int × List Int)) : Bool :=
  E2 s g.1 && (decide ((g.2.length : Int) ≤ 4) && ((!g.2.any fun a => !I8 s a) && !(D1 (fun t => inR t 10 17) g.2).any fun t => !F8 (D1 (fun t => inR t 10 17) g.1.2) t))
end Go.Proofs.YtdopeopehgdccaaGreat

namespace Go.Proofs.YtdopeopehgdccaaGreat
set_option linter.unusedVariables false
def ltF (a b : Int × List Int) : Bool := decide (G8 a b < 0)
def y4 (l : List (Int × List Int)) (f : Int × List Int) : List (Int × List Int) := M4 (F1 l f) (ltF f) f l
theorem a7s {a b : Int} : H4 a b = - H4 b a := by unfold H4; grind
theorem a4l : ∀ {l m : List Int}, C6 l m = - C6 m l
  | [], [] => by simp [C6]
  | [], _ :: _ => by simp [C6]
  | _ :: _, [] => by simp [C6]
  | a :: l, b :: m => by
    have h1 := a7s (a := a) (b := b)
    have h2 := a4l (l := l) (m := m)
    unfold C6; grind
theorem a4m {a b : Int × List Int} : G8 a b = - G8 b a := by
  have h1 := a7s (a := a.1) (b := b.1)
  have h2 := a4l (l := a.2) (m := b.2)
  unfold G8; grind
theorem a1j {l : List (Int × List Int)} {f : Int × List Int} (h : F1 l f = true) : y4 l f = l := by simp [y4, M4, h]
theorem a2u {l : List (Int × List Int)} {f : Int × List Int} (h : F1 l f = false) : y4 l f = l.take (if D3 (fun z => decide (0 < G8 z f)) l < 0 then l.length else (D3 (fun z => decide (0 < G8 z f)) l).toNat) ++ f :: l.drop (if D3 (fun z => decide (0 < G8 z f)) l < 0 then l.length else (D3 (fun z => decide (0 < G8 z f)) l).toNat) := by
  rw [y4, h]
  refine a7y fun y _ => ?_
  have := a4m (a := f) (b := y)
  rw [ltF, decide_eq_decide]; omega
theorem a1B {α : Type} {p : α → Bool} {s : List α} : D3 p s ≤ s.length ∧ -1 ≤ D3 p s := by
  unfold D3
  split
  · have := List.findIdx_le_length (p := p) (xs := s); omega
  · omega
/-- what AddFact has put together of the first elements -/
def F6 {α : Type} (h : Bool) (p : α → Bool) (f : α) (l : List α) : List α := if h then l else F2 p f l
theorem a3K {α : Type} {h : Bool} {p : α → Bool} {f : α} {l : List α} : (F6 h p f l).length ≤ l.length + 1 := by
  have := a2s (p := p) (f := f) (l := l)
  unfold F6; split <;> omega
theorem B8 {α : Type} {h : Bool} {p : α → Bool} {f : α} : F6 h p f [] = [] := by unfold F6; cases h <;> rfl
theorem y9 {α : Type} {h : Bool} {p : α → Bool} {f : α} {l : List α} {y : α} : F6 h p f (l ++ [y]) = if (h || l.any p) = true then F6 h p f l ++ [y] else if p y = true then F6 h p f l ++ [f, y] else F6 h p f l ++ [y] := by
  unfold F6
  cases h
  · simp only [Bool.false_eq_true, if_false, Bool.false_or, K6]
    cases ha : l.any p
    · simp [P5 ha]
    · simp
  · simp
theorem y8 {α : Type} {h : Bool} {p : α → Bool} {f : α} {l : List α} : M4 h p f l = if (h || l.any p) = true then F6 h p f l else F6 h p f l ++ [f] := by
  unfold F6 M4
  cases h
  · cases ha : l.any p
    · simp [P5 ha]
    · simp
  · simp
theorem B9 {α : Type} {p : α → Bool} {l : List α} {g : Nat} (h : g < l.length) : (l.take (g + 1)).any p = ((l.take g).any p || p l[g]) := by
  rw [List.take_succ_eq_append_getElem h, List.any_append]; simp
theorem K7 {f : Int × List Int} {a : Int} {b : List Int} : ltF f (a, b) = decide (G8 f (a, b) < 0) := rfl
/-- the facts from g on are valid, and ascending from the one ahead of g on -/
def X2 (s : List Int) (l : List (Int × List Int)) (g : Nat) : Bool := (l.drop g).all (F3 s) && D2 ltF (l.drop (g - 1))
def C5 (s : List Int) (l : List (Int × List Int)) : Bool := X2 s l 0 && (J1 s && decide ((l.length : Int) ≤ 24))
/-- a rule at a fact: what it demands, if that is not there -/
def b2h (d8 : List (Int × List Int)) (f : Int × List Int) (out : List (Int × List Int)) (r : Int × Int × List Int) : List (Int × List Int) :=
  if f.1 = r.1 then (if F1 d8 (r.2.1, vals r.2.2 f.2) then out else y4 out (r.2.1, vals r.2.2 f.2)) else out
def b1U (l : List (Int × Int × List Int)) (d8 : List (Int × List Int)) (out : List (Int × List Int)) (f : Int × List Int) : List (Int × List Int) := l.foldl (b2h d8 f) out
def b0H (l : List (Int × Int × List Int)) (d8 : List (Int × List Int)) : List (Int × List Int) := d8.foldl (b1U l d8) []
end Go.Proofs.YtdopeopehgdccaaGreat

namespace Go.Proofs.YtdopeopehgdccaaGreat
set_option linter.unusedVariables false
set_option linter.unusedSimpArgs false
theorem H1 {s : List Int} {l : List (Int × List Int)} (h : C5 s l = true) : l.length ≤ 24 ∧ ∀ f ∈ l, F3 s f = true := by
  simp only [C5, X2, List.drop_zero, Bool.and_eq_true, decide_eq_true_eq, List.all_eq_true] at h
  exact ⟨by omega, h.1.1⟩
theorem P0 {s : List Int} {f : Int × List Int} (h : F3 s f = true) : f.2.length ≤ 3 := by
  simp only [F3, Bool.and_eq_true, decide_eq_true_eq] at h
  have := V1 h.1
  simp only [at0] at h; omega
theorem a8Q {v : List Int} (h : I7 v = true) : ∀ x ∈ v, 0 ≤ x ∧ x ≤ 9 := by
  simp only [I7, Bool.not_eq_true', List.any_eq_false, Bool.not_eq_true] at h
  intro x hx
  have := h x hx
  simp [inR] at this; omega
theorem a9B {v : List Int} (h : ∀ x ∈ v, 0 ≤ x ∧ x ≤ 9) : I7 v = true := by
  simp only [I7, Bool.not_eq_true', List.any_eq_false, Bool.not_eq_true]
  intro x hx
  have := h x hx
  simp [inR]; omega
def b3n (s : List Int) (l : List (Int × Int × List Int)) (d8 : List (Int × List Int)) : List (Int × List Int) := if a3l s l && C5 s d8 then b0H l d8 else []
theorem a9n {n : Nat} {s : List Int} {l : List (Int × List Int)} (h : ∀ f ∈ l, F3 s f = true) (hn : l.length ≤ n) : j8 s7 l ≤ n * 4 := by
  have h5 := a2e (c := s7) (n := 4) (l := l) fun a ha => by
    have := P0 (h a ha)
    simp only [s7, a0i]; omega
  omega
/- the closure -/
def a3r (l : List (Int × Int × List Int)) (d8 : List (Int × List Int)) : Nat → List (Int × List Int)
  | 0 => d8
  | n + 1 => (b0H l (a3r l d8 n)).foldl y4 (a3r l d8 n)
def b1J (l : List (Int × Int × List Int)) (d8 : List (Int × List Int)) : List (Int × List Int) := a3r l d8 6001
theorem a2o : ∀ {n : Nat} {l : List Nat}, l.Nodup → (∀ x ∈ l, x < n) → l.length ≤ n
  | 0, l, _, h => by
    cases l with
    | nil => simp
    | cons x l => exact absurd (h x (by simp)) (by omega)
  | n + 1, l, hd, h => by
    by_cases hm : n ∈ l
    · have h1 := a2o (n := n) (l := l.erase n) (hd.erase n) fun x hx => by
        have h2 := (hd.mem_erase_iff).1 hx
        have := h x h2.2; omega
      rw [List.length_erase_of_mem hm] at h1; omega
    · have h1 := a2o (n := n) (l := l) hd fun x hx => by
        have h2 := h x hx
        have : x ≠ n := fun e => hm (e ▸ hx)
        omega
      omega
def a0W : List Int → Nat
  | [] => 0
  | v :: l => (v.toNat + 1) + 11 * a0W l
theorem a6s : ∀ {a b : List Int}, (∀ x ∈ a, 0 ≤ x ∧ x ≤ 9) → (∀ x ∈ b, 0 ≤ x ∧ x ≤ 9) → a0W a = a0W b → a = b
  | [], [], _, _, _ => rfl
  | [], y :: b, _, _, h => by simp [a0W] at h; omega
  | x :: a, [], _, _, h => by simp [a0W] at h
  | x :: a, y :: b, ha, hb, h => by
    have h1 := ha x (by simp)
    have h2 := hb y (by simp)
    simp only [a0W] at h
    rw [a6s (a := a) (b := b) (fun z hz => ha z (by simp [hz])) (fun z hz => hb z (by simp [hz])) (by omega), show x = y by omega]
theorem a7i : ∀ {n : Nat} {a : List Int}, (∀ x ∈ a, 0 ≤ x ∧ x ≤ 9) → a.length ≤ n → a0W a < 11 ^ n
  | n, [], _, _ => by simp [a0W]; exact Nat.pow_pos (by decide)
  | 0, x :: a, _, h => by simp at h
  | n + 1, x :: a, ha, h => by
    have h1 := a7i (n := n) (a := a) (fun z hz => ha z (by simp [hz])) (by simpa using h)
    have h2 := ha x (by simp)
    simp only [a0W, Nat.pow_succ]; omega
def a8L (f : Int × List Int) : Nat := f.1.toNat + 4 * a0W f.2
theorem a2t {s : List Int} {f : Int × List Int} (h : F3 s f = true) : 0 ≤ f.1 ∧ f.1 < 4 := by
  simp only [F3, Bool.and_eq_true, decide_eq_true_eq] at h
  have h1 := V1 h.1
  have h2 := h.1
  simp only [F4, J1, inR, Bool.and_eq_true, decide_eq_true_eq] at h2
  omega
theorem V0 {s : List Int} {f : Int × List Int} (h : F3 s f = true) : ∀ x ∈ f.2, 0 ≤ x ∧ x ≤ 9 := by
  simp only [F3, Bool.and_eq_true] at h
  exact a8Q h.2.2
theorem a9C {s : List Int} {D : List (Int × List Int)} (hd : D.Nodup) (h : ∀ f ∈ D, F3 s f = true) : D.length ≤ 5324 := by
  have h1 : (D.map a8L).Nodup := by
    unfold List.Nodup at hd ⊢
    rw [List.pairwise_map]
    refine List.Pairwise.imp_of_mem (fun {a b} ha hb hab e => hab ?_) hd
    have ra := a2t (h a ha)
    have rb := a2t (h b hb)
    simp only [a8L] at e
    have e2 := a6s (V0 (h a ha)) (V0 (h b hb)) (by omega)
    exact Prod.ext (by omega) e2
  have h2 := a2o (n := 5324) h1 fun x hx => by
    obtain ⟨f, hf, rfl⟩ := List.mem_map.1 hx
    have r := a2t (h f hf)
    have c := a7i (n := 3) (V0 (h f hf)) (P0 (h f hf))
    unfold a8L; omega
  simpa using h2
theorem a7b {α : Type} {p : α → Bool} {f y : α} : ∀ {l : List α}, y ∈ l → y ∈ F2 p f l
  | x :: l, h => by
    simp only [F2]
    simp only [List.mem_cons] at h
    split
    · simp [h]
    · rcases h with h | h
      · simp [h]
      · simp [a7b h]
theorem a6c {α : Type} {p : α → Bool} {f : α} : ∀ {l : List α}, l.any p = true → f ∈ F2 p f l
  | x :: l, h => by
    simp only [F2]
    split
    · simp
    · rename_i h1
      simp only [List.any_cons, h1, Bool.false_or] at h
      simp [a6c h]
theorem a7Z {l : List (Int × List Int)} {f y : Int × List Int} (h : y ∈ l) : y ∈ y4 l f := by
  unfold y4 M4
  split
  · exact h
  · split
    · exact a7b h
    · simp [h]
theorem a7D {l : List (Int × List Int)} {f : Int × List Int} : F1 l f = true ↔ f ∈ l := by
  unfold F1
  rw [List.any_eq_true]
  constructor
  · rintro ⟨x, hx, e⟩
    rw [decide_eq_true_eq, a0X] at e
    exact e ▸ hx
  · intro h
    exact ⟨f, h, by rw [decide_eq_true_eq, a0X]⟩
theorem a9e {l : List (Int × List Int)} {f : Int × List Int} (h : F1 l f = false) : f ∈ y4 l f := by
  unfold y4 M4
  rw [h]
  simp only [Bool.false_eq_true, if_false]
  split
  · rename_i h1; exact a6c h1
  · simp
def b2w (s : List Int) (x D : List (Int × List Int)) : Prop := D.Nodup ∧ (∀ f ∈ D, f ∈ x) ∧ x.length ≤ 24 + D.length ∧ ∀ f ∈ x, F3 s f = true
def b3B (l : List (Int × Int × List Int)) (d8 : List (Int × List Int)) (n : Nat) : Prop := ∃ s, a3l s l = true ∧ ∃ D, b2w s (a3r l d8 n) D ∧ n ≤ D.length
def b2X (s : List Int) (l : List (Int × Int × List Int)) (d8 : List (Int × List Int)) : List (Int × List Int) := if a3l s l && C5 s d8 then b1J l d8 else []
end Go.Proofs.YtdopeopehgdccaaGreat

namespace Go.Proofs.YtdopeopehgdccaaGreat
set_option linter.unusedVariables false
set_option linter.unusedSimpArgs false
/-- no value for t -/
def unb (b : List Int × List Int) (t : Int) : Bool := !(b.1.take (min b.1.length b.2.length)).any fun x => decide (x = t)
theorem a5n {α : Type} {p : α → Bool} {s : List α} : D3 p s < 0 ↔ s.any p = false := by
  unfold D3
  by_cases h : s.any p = true
  · rw [if_pos h]; simp [h]
  · rw [if_neg h]; simp at h; simp; exact h
theorem t6 {b : List Int × List Int} {t : Int} : unb b t = decide (D3 (fun x => decide (x = t)) (b.1.take (min b.1.length b.2.length)) < 0) := by
  rw [unb, Bool.eq_iff_iff, decide_eq_true_eq, a5n]; simp
theorem a0H {V W : List Int} {p : Int → Bool} {g : Nat} (h : g < V.length) (h2 : g < W.length) : ((V.take (min V.length W.length)).drop g).any p = (p V[g] || ((V.take (min V.length W.length)).drop (g + 1)).any p) := by
  rw [List.drop_eq_getElem_cons (by simp; omega)]
  simp
theorem a1H {V W : List Int} {p : Int → Bool} {g : Nat} (h : ¬ (g < V.length ∧ g < W.length)) : ((V.take (min V.length W.length)).drop g).any p = false := by
  rw [List.drop_eq_nil_of_le (by simp; omega)]; rfl
def y5 (x : List Int × List Int) (t v : Int) : List Int × List Int := if inR t 10 17 && unb x t then (x.1 ++ [t], x.2 ++ [v]) else x
def w7 (b : List Int × List Int) (l : List (Int × Int)) : List Int × List Int := l.foldl (fun x p => y5 x p.1 p.2) b
def okV (b : List Int × List Int) : List (Int × Int) → Bool
  | [] => true
  | p :: l => decide (B7 (y5 b p.1 p.2) p.1 = p.2) && okV (y5 b p.1 p.2) l
def l0 (b : List Int × List Int) (a f : Int × List Int) : Bool := decide (a.1 = f.1) && (decide (a.2.length = f.2.length) && (decide (b.1.length = b.2.length) && okV b (a.2.zip f.2)))
def n0 (b : List Int × List Int) (a f : Int × List Int) : List Int × List Int := w7 b (a.2.zip f.2)
theorem s9 {b : List Int × List Int} {t v : List Int} {g : Nat} (h : g < t.length) (h2 : g < v.length) : w7 b ((t.zip v).take (g + 1)) = y5 (w7 b ((t.zip v).take g)) t[g] v[g] := by
  unfold w7
  rw [List.take_succ_eq_append_getElem (by simp; omega), List.foldl_append]
  simp
theorem s0 {b : List Int × List Int} {t v : List Int} {g : Nat} (h : g < t.length) (h2 : g < v.length) : okV b ((t.zip v).drop g) = (decide (B7 (y5 b t[g] v[g]) t[g] = v[g]) && okV (y5 b t[g] v[g]) ((t.zip v).drop (g + 1))) := by
  rw [List.drop_eq_getElem_cons (by simp; omega)]
  simp [okV]
theorem s8 {b : List Int × List Int} {t v : List Int} {g : Nat} (h : t.length ≤ g) : okV b ((t.zip v).drop g) = true := by
  rw [List.drop_eq_nil_of_le (by simp; omega)]; rfl
theorem w9 {b : List Int × List Int} {t v : List Int} {g : Nat} (h : t.length ≤ g) : w7 b ((t.zip v).take g) = w7 b (t.zip v) := by
  rw [List.take_of_length_le (by simp; omega)]
theorem a7f {x : List Int × List Int} {t v : Int} : (y5 x t v).1.length ≤ x.1.length + 1 ∧ (y5 x t v).2.length ≤ x.2.length + 1 := by
  unfold y5; split <;> simp
theorem a8q {x : List Int × List Int} {t v : Int} (h : x.1.length = x.2.length) : (y5 x t v).1.length = (y5 x t v).2.length := by
  unfold y5; split <;> simp [h]
theorem a6i : ∀ {l : List (Int × Int)} {x : List Int × List Int}, (w7 x l).1.length ≤ x.1.length + l.length ∧ (w7 x l).2.length ≤ x.2.length + l.length
  | [], x => by simp [w7]
  | p :: l, x => by
    have h1 := a6i (l := l) (x := y5 x p.1 p.2)
    have h2 := a7f (x := x) (t := p.1) (v := p.2)
    simp only [w7, List.foldl_cons, List.length_cons] at h1 ⊢; omega
theorem a4q : ∀ {l : List (Int × Int)} {x : List Int × List Int}, x.1.length = x.2.length → (w7 x l).1.length = (w7 x l).2.length
  | [], x, h => h
  | p :: l, x, h => by
    have := a4q (l := l) (a8q (t := p.1) (v := p.2) h)
    simpa only [w7, List.foldl_cons] using this
theorem a9a {b : List Int × List Int} {t v : List Int} {g : Nat} : (w7 b ((t.zip v).take g)).1.length ≤ b.1.length + t.length ∧ (w7 b ((t.zip v).take g)).2.length ≤ b.2.length + t.length := by
  have h := a6i (l := (t.zip v).take g) (x := b)
  have h2 : ((t.zip v).take g).length ≤ t.length := by simp; omega
  omega
/-- a variable just bound has its value -/
theorem b1i {x : List Int × List Int} {t v : Int} (h : x.1.length = x.2.length) (h1 : inR t 10 17 = true) (h2 : unb x t = true) : B7 (x.1 ++ [t], x.2 ++ [v]) t = v := by
  have e := a7T (b := (x.1 ++ [t], x.2 ++ [v])) (t := t) (g := x.1.length) h1 (by simp) (by simp [h]) (by simp) (by
    intro y hy
    simp only [unb, h, Nat.min_self, Bool.not_eq_true', List.any_eq_false] at h2
    rw [List.take_append_of_le_length (Nat.le_refl _), List.take_length] at hy
    have := h2 y (by rw [← h, List.take_length]; exact hy)
    simpa using this)
  rw [← e]
  simp [h]
theorem b1I {x : List Int × List Int} {t v : Int} (h : (inR t 10 17 && unb x t) = false) : y5 x t v = x := by unfold y5; rw [h]; simp
theorem b1a {x : List Int × List Int} {t v : Int} (h : (inR t 10 17 && unb x t) = true) : y5 x t v = (x.1 ++ [t], x.2 ++ [v]) := by unfold y5; rw [h]; simp
theorem F9 {x : List Int × List Int} {t v : Int} (h : x.1.length = x.2.length) : decide (B7 (y5 x t v) t = v) = (inR t 10 17 && unb x t || decide (B7 x t = v)) := by
  cases hc : inR t 10 17 && unb x t with
  | false => rw [b1I hc]; simp
  | true =>
    rw [b1a hc]
    rw [Bool.and_eq_true] at hc
    rw [b1i h hc.1 hc.2]; simp
/- all bindings -/
def G4 (b : List Int × List Int) (a : Int × List Int) (d8 : List (Int × List Int)) : List (List Int × List Int) := (d8.filter (l0 b a)).map (n0 b a)
def C7 (l : List (List Int × List Int)) (a : Int × List Int) (d8 : List (Int × List Int)) : List (List Int × List Int) := l.flatMap fun b => G4 b a d8
theorem Q8 {b : List Int × List Int} {a : Int × List Int} : G4 b a [] = [] := rfl
theorem N5 {b : List Int × List Int} {a f : Int × List Int} {l : List (Int × List Int)} : G4 b a (l ++ [f]) = if l0 b a f then G4 b a l ++ [n0 b a f] else G4 b a l := by
  unfold G4
  cases h : l0 b a f <;> simp [List.filter_append, h]
theorem Q0 {a : Int × List Int} {d8 : List (Int × List Int)} : C7 [] a d8 = [] := rfl
theorem N6 {l : List (List Int × List Int)} {b : List Int × List Int} {a : Int × List Int} {d8 : List (Int × List Int)} : C7 (l ++ [b]) a d8 = C7 l a d8 ++ G4 b a d8 := by
  simp [C7]
theorem a3S {b : List Int × List Int} {a : Int × List Int} {d8 : List (Int × List Int)} : (G4 b a d8).length ≤ d8.length := by
  unfold G4; rw [List.length_map]; exact List.length_filter_le _ _
def a7B (i9 : List (Int × List Int)) (d8 : List (Int × List Int)) : List (List Int × List Int) := i9.foldl (fun l a => C7 l a d8) [([], [])]
/- tuples in order, each once -/
def I6 (l : List (List Int)) (t : List Int) : Bool := l.any fun x => decide (x = t)
def ltT (a b : List Int) : Bool := decide (C6 a b < 0)
def H8 (l : List (List Int)) (t : List Int) : List (List Int) := M4 (I6 l t) (ltT t) t l
theorem a4p {l : List (List Int)} {t : List Int} (h : I6 l t = true) : H8 l t = l := by simp [H8, M4, h]
theorem a4o {l : List (List Int)} {f : List Int} (h : I6 l f = false) : H8 l f = l.take (if D3 (fun z => decide (0 < C6 z f)) l < 0 then l.length else (D3 (fun z => decide (0 < C6 z f)) l).toNat) ++ f :: l.drop (if D3 (fun z => decide (0 < C6 z f)) l < 0 then l.length else (D3 (fun z => decide (0 < C6 z f)) l).toNat) := by
  rw [H8, h]
  refine a7y fun y _ => ?_
  have := a4l (l := f) (m := y)
  rw [ltT, decide_eq_decide]; omega
theorem a9V {l : List (List Int)} {t : List Int} : (H8 l t).length ≤ l.length + 1 := a4r
def J8 (h : List Int) (l : List (List Int × List Int)) : List (List Int) := l.foldl (fun out b => H8 out (h.map (B7 b))) []
theorem a0w {h : List Int} : J8 h [] = [] := rfl
theorem Y6 {h : List Int} {l : List (List Int × List Int)} {b : List Int × List Int} : J8 h (l ++ [b]) = H8 (J8 h l) (h.map (B7 b)) := by simp [J8]
theorem a3T {h : List Int} : ∀ {l : List (List Int × List Int)} {out : List (List Int)}, (l.foldl (fun out b => H8 out (h.map (B7 b))) out).length ≤ out.length + l.length ∧ ((∀ t ∈ out, t.length ≤ h.length) → ∀ t ∈ l.foldl (fun out b => H8 out (h.map (B7 b))) out, t.length ≤ h.length)
  | [], out => by simp
  | b :: l, out => by
    have h1 := a3T (h := h) (l := l) (out := H8 out (h.map (B7 b)))
    have h2 := a9V (l := out) (t := h.map (B7 b))
    refine ⟨by simp only [List.foldl_cons, List.length_cons]; omega, fun ho => h1.2 fun t ht => ?_⟩
    rcases a7A ht with ht | rfl
    · exact ho t ht
    · simp
theorem a5H {h : List Int} {l : List (List Int × List Int)} : (J8 h l).length ≤ l.length := by have := (a3T (h := h) (l := l) (out := [])).1; simpa [J8] using this
theorem a7t {h : List Int} {l : List (List Int × List Int)} : ∀ t ∈ J8 h l, t.length ≤ h.length := (a3T (h := h) (l := l) (out := [])).2 (by simp)
theorem a0u {s : List Int} {q : List Int × List (Int × List Int)} (h : E2 s q = true) : q.2.length ≤ 4 ∧ q.1.length ≤ 3 ∧ ∀ a ∈ q.2, a.2.length ≤ 3 := by
  simp only [E2, a0j, inR, Bool.and_eq_true, decide_eq_true_eq, Bool.not_eq_true', List.any_eq_false, Bool.not_eq_true] at h
  refine ⟨by omega, by omega, fun a ha => ?_⟩
  have h1 := h.2.2.1 a ha
  have h1 : I8 s a = true := by simpa using h1
  simp only [I8, Bool.and_eq_true, decide_eq_true_eq] at h1
  have := V1 h1.1
  simp only [at0] at h1; omega
def b1p (s : List Int) (q : List Int × List (Int × List Int)) (d8 : List (Int × List Int)) : List (List Int) := if E2 s q && C5 s d8 then J8 q.1 (a7B q.2 d8) else []
theorem a8O {n : Nat} {l : List (List Int)} (h : ∀ t ∈ l, t.length ≤ 3) (hn : l.length ≤ n) : j8 C1 l ≤ n * 3 := by
  have h5 := a2e (c := C1) (n := 3) (l := l) fun a ha => by
    have := h a ha
    simp only [C1, a0i]; omega
  omega
end Go.Proofs.YtdopeopehgdccaaGreat

namespace Go.Proofs.YtdopeopehgdccaaGreat
set_option linter.unusedVariables false
set_option linter.unusedSimpArgs false
/-- the first number from v on that is not in u (u holds numbers below 10) -/
def nxt (u : List Int) : Nat → Nat → Nat
  | 0, v => v
  | n + 1, v => if F8 u (v : Int) then nxt u n (v + 1) else v
def a8T (u : List Int) (v : Nat) : Nat := nxt u 11 v
/-- the number from which the search for the g-th variable's value starts -/
def fzN (u : List Int) : Nat → Nat
  | 0 => 0
  | g + 1 => a8T u (fzN u g) + 1
def b2f (u : List Int) (n : Nat) : Bool := (List.range n).all fun i => decide (a8T u (fzN u i) ≤ 9)
def b1l (u : List Int) (n : Nat) : List Int := (List.range n).map fun i => (a8T u (fzN u i) : Int)
def a4L (i9 : List (Int × List Int)) : List Int := D1 (fun t => inR t 10 17) i9
def b3k (i9 : List (Int × List Int)) : List Int := D1 (fun t => inR t 0 9) i9
def b2G (i9 : List (Int × List Int)) (b : List Int × List Int) : List (Int × List Int) := i9.foldl (fun out a => y4 out (a8S a b)) []
def fzB (u : List Int) (i9 : List (Int × List Int)) : Bool := b2f u (a4L i9).length
def fzV (u : List Int) (i9 : List (Int × List Int)) : List Int := cond (fzB u i9) (a4L i9) []
def fzX (u : List Int) (i9 : List (Int × List Int)) : List Int := cond (fzB u i9) (b1l u (a4L i9).length) []
def fzF (u : List Int) (i9 : List (Int × List Int)) : List (Int × List Int) := cond (fzB u i9) (b2G i9 (a4L i9, b1l u (a4L i9).length)) []
end Go.Proofs.YtdopeopehgdccaaGreat
