import Derived.Test.YtfnbilpemdgkkaaGreatDoorBc
import Derived.Lib.SlicesCompact
namespace Go.Proofs.YtfnbilpemdgkkaaGreatDoor
open Go.RowKit
set_option linter.unusedVariables false
def FnP2 {α : Type} (P : Program) (w : World) (L : List Nat) (g : FuncId) (caps : List Value) (E : Enc α) (val : List Value → Value) (p : α → α → Bool) : Prop :=
 a0f P g ∧ ∀ w', Keep w L w' → ∀ cs x ds y, Ro w' [] E cs x → Ro w' [] E ds y → Calls P g (val cs :: val ds :: caps).toArray w' fun e w'' => e = .returned (.bool (p x y)) ∧ Ext w' w''
section
variable {P : Program} {α : Type} {E : Enc α} {w w0 : World} {L L0 Lp : List Nat} {pre rest : List HP} {g : FuncId} {caps : List Value} {val : List Value → Value} {p : α → α → Bool}
theorem b2F (hA : At w0 L0 pre rest w Lp) (h : FnP2 P w0 L0 g caps E val p) : FnP2 P w Lp g caps E val p := by
 obtain ⟨⟨Lr, h1, h2, h3, h4⟩⟩ := hA
 exact ⟨h.1, fun w' k cs x ds y hx hy => h.2 w' (h4.thenKeep (fun b hb => by simp [hb]) k) cs x ds y hx hy⟩
end
section
variable {P : Program} {Q : Exit → Act → World → Prop} {n : Nat} {w0 : World} {L0 : List Nat} {fr : Fr} {H : List HP} {d : Nat} {ty : TypeId} {pos : String} {af : Array Edge} {g : Option (Nat × Bool)}
theorem b0R {α : Type} {E : Enc α} {f : FuncId} {x y z : Operand} {caps : List Value} {ts : Array TypeId} {val : List Value → Value} {p : α → α → Bool} {cs ds : List Value} {u u' : α} {v v' : Value}
  (h : FnP2 P w0 L0 f caps E val p) (hx : ev fr x = some (.func (.func f) #[] caps.toArray)) (hy : ev fr y = some v) (hz : ev fr z = some v') (hv : v = val cs) (hv' : v' = val ds) (hd : d < n) (hR : ∀ w Lp, At w0 L0 [] H w Lp → Ro w Lp E cs u) (hR' : ∀ w Lp, At w0 L0 [] H w Lp → Ro w Lp E ds u') :
  Nop P Q n w0 L0 fr H ⟨some d, .call ⟨.value x, #[y, z], ts⟩, ty, pos, af, g⟩ true (κ := Unit) (fun _ => (d, .bool (p u u')) :: fr) (fun _ => H) (fun _ => True) := fun K hK a w ha hw => by
 obtain ⟨⟨fn, f1, f2, f3⟩, h⟩ := h
 have hw' := hw
 obtain ⟨L, hs, hn, hst⟩ := hw
 have hA : At w0 L0 [] H w [] := ⟨⟨L, rfl, hs, hn, hst⟩⟩
 have hcall := h w (hst.toKeep) cs u ds u' (hR w [] hA) (hR' w [] hA)
 have f2' : ¬ fn.body = none := fun h => by rw [h] at f2; cases f2
 have f3' : ¬ fn.name = "runtime.NumGoroutine" := by simpa using f3
 have hrun : (execOp a.eval ⟨some d, .call ⟨.value x, #[y, z], ts⟩, ty, pos, af, g⟩).run P w = .ok (.enter f (val cs :: val ds :: caps).toArray) w := by
  rw [hv] at hy
  rw [hv'] at hz
  simp [execOp, resolve, ha.ev hx, ha.ev hy, ha.ev hz, Deferred.ofValue, invoke, callFunc, f1, f2', f3']
 rw [Oper.wp, hrun, Oper.upon_enter]
 refine hcall.mono ?_
 rintro e w' ⟨rfl, hE⟩
 refine hK () trivial w _ w' (ha.put hd _) ?_ (fun _ => hE)
 have := hst.call (Lp := []) (Lp' := []) (w' := w') (by simpa using hn) hs.inh ⟨hE.os, hE.tape, hE.output, hE.size, fun b hb _ => hE.block b hb, by simp⟩ (by simp)
 simp only [List.nil_append] at this
 exact ⟨L, hs.stable this.2.2, this.2.1, this.1⟩
end
section
variable {P : Program} {w : World} {L : List Nat} {g : FuncId} {caps : List Value} {RR : World → List Nat → Prop}
theorem b0i {p : (Int × List Int) → (Int × List Int) → Bool} (tr : ∀ {x0 : Int} {ax1 : Option Addr} {mx1 cx1 : Nat} {x1 : List Int} {y0 : Int} {ay1 : Option Addr} {my1 cy1 : Nat} {y1 : List Int}, Tr P g (.agg #[.int .i64 x0, .slice ax1 mx1 cx1] :: .agg #[.int .i64 y0, .slice ay1 my1 cy1] :: caps) (fun w L => (I64 x0 ∧ Ro w L eIs [.slice ax1 mx1 cx1] x1 ∧ I64 y0 ∧ Ro w L eIs [.slice ay1 my1 cy1] y1) ∧ RR w L) [] (κ := Unit) (fun _ => True) (fun _ => .bool (p (x0, x1) (y0, y1))) (fun _ => [])) (hR : ∀ w', Keep w L w' → RR w' []) : FnP2 P w L g caps R9 a6l p :=
 ⟨(tr (x0 := 0) (x1 := []) (ax1 := none) (mx1 := 0) (cx1 := 0) (y0 := 0) (y1 := []) (ay1 := none) (my1 := 0) (cy1 := 0)).1, fun w' k cs x ds y hx hy => by obtain ⟨a0, c0, rfl, h0, h1⟩ := M8 hx; obtain ⟨b0, e0, rfl, k0, k1⟩ := M8 hy; exact Tr.bool tr ⟨⟨h0, h1, k0, k1⟩, hR w' k⟩⟩
theorem a7v {p : List Int → List Int → Bool} (tr : ∀ {ax : Option Addr} {mx cx : Nat} {x : List Int} {ay : Option Addr} {my cy : Nat} {y : List Int}, Tr P g (.slice ax mx cx :: .slice ay my cy :: caps) (fun w L => (Ro w L eIs [.slice ax mx cx] x ∧ Ro w L eIs [.slice ay my cy] y) ∧ RR w L) [] (κ := Unit) (fun _ => True) (fun _ => .bool (p x y)) (fun _ => [])) (hR : ∀ w', Keep w L w' → RR w' []) : FnP2 P w L g caps eIs a0L p :=
 ⟨(tr (ax := none) (mx := 0) (cx := 0) (x := []) (ay := none) (my := 0) (cy := 0) (y := [])).1, fun w' k cs x ds y hx hy => by obtain ⟨a, c, rfl⟩ := hx.sl; obtain ⟨b, e, rfl⟩ := hy.sl; exact (tr (x := x) (y := y)).bool ⟨⟨hx, hy⟩, hR w' k⟩⟩
end
end Go.Proofs.YtfnbilpemdgkkaaGreatDoor

namespace Go.Proofs.YtfnbilpemdgkkaaGreatDoor
open Go.RowKit
set_option linter.unusedVariables false
def owd {α : Type} (e : TypeId) (E : Enc α) (a : Option Addr) (m c : Nat) (xs : List α) (j : Nat) : HP where
 holds w L := ∃ c1 c2 L1 L2, L = L1 ++ L2 ∧ m = xs.length ∧ m ≤ maxLen ∧ c1.length = j * E.k ∧ w3 E w c2 (xs.drop j) L2 true ∧ (row e E.k a m c (c1 ++ c2)).holds w L1
 stable := by
  rintro w w' L ⟨c1, c2, L1, L2, rfl, h1, h2, h3, h4, h5⟩ hb
  exact ⟨c1, c2, L1, L2, rfl, h1, h2, h3, h4.stable fun b h => hb b (by simp [h]), (row e E.k a m c _).stable h5 fun b h => hb b (by simp [h])⟩
 inh := by
  rintro w L ⟨c1, c2, L1, L2, rfl, h1, h2, h3, h4, h5⟩ b hb
  rcases List.mem_append.1 hb with hb | hb
  ·exact (row e E.k a m c _).inh h5 b hb
  ·exact h4.inh b hb
def owt {α : Type} (e : TypeId) (E : Enc α) (a : Option Addr) (m c : Nat) (xs : List α) (j : Nat) (ce : List Value) : HP where
 holds w L := ∃ c1 c2 L1 L2, L = L1 ++ L2 ∧ m = xs.length ∧ m ≤ maxLen ∧ j < xs.length ∧ ce.length = E.k ∧ c1.length = j * E.k ∧ w3 E w c2 (xs.drop (j + 1)) L2 true ∧ (row e E.k a m c (c1 ++ (ce ++ c2))).holds w L1
 stable := by
  rintro w w' L ⟨c1, c2, L1, L2, rfl, h1, h2, h0, h6, h3, h4, h5⟩ hb
  exact ⟨c1, c2, L1, L2, rfl, h1, h2, h0, h6, h3, h4.stable fun b h => hb b (by simp [h]), (row e E.k a m c _).stable h5 fun b h => hb b (by simp [h])⟩
 inh := by
  rintro w L ⟨c1, c2, L1, L2, rfl, h1, h2, h0, h6, h3, h4, h5⟩ b hb
  rcases List.mem_append.1 hb with hb | hb
  ·exact (row e E.k a m c _).inh h5 b hb
  ·exact h4.inh b hb
section
variable {n : Nat} {w0 : World} {L0 : List Nat} {fr : Fr} {H R : List HP} {G : Act → World → Prop} {α : Type} {E : Enc α} {e : TypeId} {a : Option Addr} {m c : Nat} {xs : List α} {j : Nat}
theorem a9q (h : Ent n w0 L0 fr (owd e E a m c xs 0 :: R) G) : Ent n w0 L0 fr (ow (Enc.sl e E) [.slice a m c] xs :: R) G := fun ac w h1 h2 => by
 obtain ⟨L, ⟨Lo, LR, rfl, ho, hR⟩, hn, hst⟩ := h2
 obtain ⟨ccs, L1, L2, rfl, g1, g2, g3, g4⟩ := P7 ho
 exact h ac w h1 ⟨(L1 ++ L2) ++ LR, ⟨L1 ++ L2, LR, rfl, ⟨[], ccs, L1, L2, rfl, g1, g2, by simp, g3, g4⟩, hR⟩, hn, hst⟩
theorem a9v (hj : j < xs.length) (h : ∀ ce, Ent n w0 L0 fr (owt e E a m c xs j ce :: ow E ce xs[j] :: R) G) : Ent n w0 L0 fr (owd e E a m c xs j :: R) G := fun ac w h1 h2 => by
 obtain ⟨L, ⟨Lo, LR, rfl, ⟨c1, c2, L1, L2, rfl, g1, g2, g3, g4, g5⟩, hR⟩, hn, hst⟩ := h2
 rw [List.drop_eq_getElem_cons hj] at g4
 obtain ⟨d1, d2, N1, N2, rfl, rfl, k1, k2⟩ := g4
 have hperm : (L1 ++ (N1 ++ N2) ++ LR).Perm ((L1 ++ N2) ++ (N1 ++ LR)) := by
  simp only [List.append_assoc]
  refine List.Perm.append_left L1 ?_
  rw [← List.append_assoc, ← List.append_assoc]
  exact (List.perm_append_comm).append_right LR
 exact h d1 ac w h1 ⟨(L1 ++ N2) ++ (N1 ++ LR), ⟨_, _, rfl, ⟨c1, d2, L1, N2, rfl, g1, g2, hj, E.len k1, g3, k2, g5⟩, N1, LR, rfl, k1, hR⟩, hperm.nodup_iff.1 hn, hst.sublist fun b hb => hperm.mem_iff.2 hb⟩
theorem a9p {ce : List Value} (h : Ent n w0 L0 fr (owd e E a m c xs (j + 1) :: R) G) : Ent n w0 L0 fr (owt e E a m c xs j ce :: R) G := fun ac w h1 h2 => by
 obtain ⟨L, ⟨Lo, LR, rfl, ⟨c1, c2, L1, L2, rfl, g1, g2, g0, g6, g3, g4, g5⟩, hR⟩, hn, hst⟩ := h2
 exact h ac w h1 ⟨(L1 ++ L2) ++ LR, ⟨L1 ++ L2, LR, rfl, ⟨c1 ++ ce, c2, L1, L2, rfl, g1, g2, by rw [List.length_append, g3, g6, Nat.succ_mul], g4, by rw [List.append_assoc]; exact g5⟩, hR⟩, hn, hst⟩
theorem Has.owt {ce : List Value} {b o : Nat} (ha : a = some ⟨b, o, none⟩) (hm : Go.Proofs.YtfnbilpemdgkkaaGreatDoor.owt e E a m c xs j ce ∈ H) : Has w0 L0 H b (o + j * E.k) ce := fun w h => by
 obtain ⟨L', c1, c2, L1, L2, _, g1, g2, hj, g6, g3, g4, h0, g8⟩ := h.mem hm
 rcases g8 with ⟨_, h, _⟩ | ⟨g', cur, h2, h3, h4, h5, h6, h7, _⟩
 ·omega
 rw [ha] at h2; cases h2
 intro i v hi
 have hi' : (c1 ++ (ce ++ c2))[j * E.k + i]? = some v := by
  rw [← g3, List.getElem?_append_right (by omega), show c1.length + i - c1.length = i from by omega]
  rw [List.getElem?_append_left (by exact (List.getElem?_eq_some_iff.1 hi).1)]; exact hi
 rw [← h7, List.getElem?_take] at hi'
 split at hi'
 ·simpa [World.cell?, h3] using hi'
 ·cases hi'
theorem a8u (hm : owd e E a m c xs j ∈ H) (hlt : 0 < m) (h : ∀ b, a = some ⟨b, 0, none⟩ → Ent n w0 L0 fr H G) : Ent n w0 L0 fr H G := fun ac w h1 h2 => by
 obtain ⟨L, hL⟩ := h2.mem hm
 obtain ⟨c1, c2, L1, L2, _, g1, g2, _, _, g4⟩ := hL
 rcases g4.2 with ⟨_, h0, _⟩ | ⟨g, cur, h3, _⟩
 ·omega
 ·exact h g h3 ac w h1 h2
end
theorem J2.has {w1 w0 : World} {L1 L0 : List Nat} {b off : Nat} {cs : List Value} (h : J2 w1 L1 w0 L0) (k : ∀ H, Has w0 L0 H b off cs) : ∀ H, Has w1 L1 H b off cs := fun H w hw => k H w (h H w hw)
theorem frB {a b : Bool} (h : a = b) : some (Value.bool a) = some (Value.bool b) := by rw [h]
end Go.Proofs.YtfnbilpemdgkkaaGreatDoor

namespace Go.Proofs.YtfnbilpemdgkkaaGreatDoor
set_option linter.unusedVariables false
def G2 (a b : Int) : Int := if a < b then -1 else if b < a then 1 else 0
def C3 : List Int → List Int → Int
 | [], [] => 0
 | [], _ :: _ => -1
 | _ :: _, [] => 1
 | a :: l, b :: m => if G2 a b ≠ 0 then G2 a b else C3 l m
def orI : List Int → Int
 | [] => 0
 | x :: l => if x ≠ 0 then x else orI l
def M7 (a b : Int × List Int) : Int := if G2 a.1 b.1 ≠ 0 then G2 a.1 b.1 else C3 a.2 b.2
theorem a4Z {a b : Int} : I64 (G2 a b) := by unfold G2 I64; split; omega; split <;> omega
theorem a4C : ∀ {l m : List Int}, I64 (C3 l m)
 | [], [] => by unfold C3 I64; omega
 | [], _ :: _ => by unfold C3 I64; omega
 | _ :: _, [] => by unfold C3 I64; omega
 | a :: l, b :: m => by unfold C3; split; exact a4Z; exact a4C
theorem a3w {a b : Int} : G2 a b = 0 ↔ a = b := by unfold G2; grind
theorem a3B : ∀ {l m : List Int}, C3 l m = 0 ↔ l = m
 | [], [] => by simp [C3]
 | [], _ :: _ => by simp [C3]
 | _ :: _, [] => by simp [C3]
 | a :: l, b :: m => by
  have := a3w (a := a) (b := b)
  have h2 := a3B (l := l) (m := m)
  unfold C3; grind
theorem a3V {a b : Int × List Int} : M7 a b = 0 ↔ a = b := by
 have h1 := a3w (a := a.1) (b := b.1)
 have h2 := a3B (l := a.2) (m := b.2)
 unfold M7
 rcases a with ⟨a1, a2⟩; rcases b with ⟨b1, b2⟩
 grind
def eqP {α : Type} (p : α → α → Bool) : List α → List α → Bool
 | [], [] => true
 | a :: l, b :: m => p a b && eqP p l m
 | _, _ => false
theorem a0G {α : Type} {p : α → α → Bool} : ∀ {l m : List α}, eqP p l m = true → l.length = m.length
 | [], [], _ => rfl
 | [], _ :: _, h => by simp [eqP] at h
 | _ :: _, [], h => by simp [eqP] at h
 | a :: l, b :: m, h => by
  simp only [eqP, Bool.and_eq_true] at h
  simp [a0G h.2]
theorem a5N {α : Type} [DecidableEq α] : ∀ {l m : List α}, eqP (fun z y => decide (z = y)) l m = decide (l = m)
 | [], [] => by simp [eqP]
 | [], _ :: _ => by simp [eqP]
 | _ :: _, [] => by simp [eqP]
 | a :: l, b :: m => by simp [eqP, a5N (l := l) (m := m)]
end Go.Proofs.YtfnbilpemdgkkaaGreatDoor

namespace Go.Proofs.YtfnbilpemdgkkaaGreatDoor
set_option linter.unusedVariables false
def D0 (l : List (Int × List Int)) (f : Int × List Int) : Bool := l.any fun z => decide (M7 z f = 0)
def F3 (a : Int × List Int) (b : List Int × List Int) : Int × List Int := (a.1, a.2.map (s4 b))
def R3 (q : List Int × List (Int × List Int)) (c7 : List (Int × List Int)) (head : List Int) (b : List Int × List Int) : Bool :=
 decide (b.1.length = b.2.length) && (decide (q.1.map (s4 b) = head) && !q.2.any fun a => !D0 c7 (F3 a b))
theorem Ro.i64A {w : World} {L : List Nat} {e : TypeId} {a : Option Addr} {m c : Nat} {xs : List (Int × List Int)} (h : Ro w L (Enc.sl e (Enc.pair Enc.int (Enc.sl tI Enc.int))) [.slice a m c] xs) : ∀ x ∈ xs, I64 x.1 ∧ ∀ y ∈ x.2, I64 y := by
 intro x hx
 obtain ⟨i, hi, rfl⟩ := List.getElem_of_mem hx
 obtain ⟨_, _, ci, _, h1, _⟩ := h.elem i hi
 obtain ⟨c1, c2, rfl, h2, h3⟩ := h1.pair
 obtain ⟨a', c', rfl⟩ := h3.sl
 exact ⟨h2.int.2, h3.i64⟩
theorem a6d {b : List Int × List Int} {l : List (Int × List Int)} (h : ∀ x ∈ l, I64 x.1 ∧ ∀ y ∈ x.2, I64 y) (h1 : ∀ x ∈ b.1, I64 x) (h2 : ∀ x ∈ b.2, I64 x) : ∀ x ∈ l, ∀ y ∈ x.2, I64 (s4 b y) := fun x hx y hy => a2n ((h x hx).2 y hy) h2
end Go.Proofs.YtfnbilpemdgkkaaGreatDoor

namespace Go.Proofs.YtfnbilpemdgkkaaGreatDoor
set_option linter.unusedVariables false
def E7 {α : Type} (r : α → α → Bool) : List α → Bool
 | a :: b :: l => r a b && E7 r (b :: l)
 | _ => true
theorem a6I {α : Type} {l : List α} {g : Nat} (h : g < l.length) (h0 : 0 < g) : l.drop (g - 1) = l[g - 1] :: l[g] :: l.drop (g + 1) := by
 rw [List.drop_eq_getElem_cons (by omega), show g - 1 + 1 = g by omega, List.drop_eq_getElem_cons h]
def ltB (a b : Int) : Bool := decide (a < b)
theorem F8 {α : Type} {r : α → α → Bool} {l : List α} {g : Nat} (h : g < l.length) (h0 : 0 < g) : E7 r (l.drop (g - 1)) = (r l[g - 1] l[g] && E7 r (l.drop g)) := by
 rw [a6I h h0, E7, ← List.drop_eq_getElem_cons h]
theorem G0 {α : Type} {r : α → α → Bool} {l : List α} {g : Nat} (h : g = 0) : E7 r (l.drop (g - 1)) = E7 r (l.drop g) := by subst h; rfl
theorem H8 {α : Type} {r : α → α → Bool} {l : List α} {g : Nat} (h : l.length ≤ g) : E7 r (l.drop (g - 1)) = true := by
 have : (l.drop (g - 1)).length ≤ 1 := by simp; omega
 match l.drop (g - 1), this with
 | [], _ => rfl
 | [x], _ => rfl
 | x :: y :: z, h => simp at h
def b0t (m : Int × List Int × Int × Int × Int) (ar : Int) : Bool :=
 E7 ltB m.2.1 && (a6C m.2.1 ar && (inR m.2.2.1 0 9 && (inR m.2.2.2.1 0 99 && inR m.2.2.2.2 1 99)))
def a9E (s : List Int) (m : Int × List Int × Int × Int × Int) : Bool := F1 s m.1 && b0t m (at0 s m.1)
def T7 (s : List Int) (l : List (Int × List Int × Int × Int × Int)) : Bool := E5 s && (decide ((l.length : Int) ≤ 5) && !l.any fun m => !a9E s m)
def a1F (v : List Int) : Bool := E7 ltB v && P2 v
def b1u (l : List (Int × List Int)) (a : Int × List Int) : Bool := l.any fun z => decide (z = a)
def J8 (M5 : List Int) : Nat → List (List Int)
 | 0 => [[]]
 | n + 1 => (J8 M5 n).flatMap fun l => M5.map fun v => l ++ [v]
def S7 (M5 : List Int) (log : List (Int × List Int)) (i : Int) (k : Nat) : List (Int × List Int) :=
 ((J8 M5 k).filter fun v => !b1u log (i, v)).map fun v => (i, v)
def P6 (M5 : List Int) (log : List (Int × List Int)) : List (Int × List Int × Int × Int × Int) → Int → List (Int × List Int)
 | [], _ => []
 | m :: l, i => (if m.2.2.1 ≠ 0 then [] else S7 M5 log i m.2.1.length) ++ P6 M5 log l (i + 1)
def U6 (s : List Int) (l : List (Int × List Int × Int × Int × Int)) (M5 : List Int) (log : List (Int × List Int)) : List (Int × List Int) :=
 if T7 s l && a1F M5 then P6 M5 log l 0 else []
theorem a2b {α : Type} {c : α → Nat} {n : Nat} : ∀ {l : List α}, (∀ x ∈ l, c x ≤ n) → x2 c l ≤ l.length * n
 | [], _ => by simp [x2]
 | x :: l, h => by
  have h1 := a2b (c := c) (n := n) (l := l) fun y hy => h y (by simp [hy])
  have h2 := h x (by simp)
  simp only [x2, List.map_cons, List.sum_cons, List.length_cons, Nat.succ_mul] at h1 ⊢; omega
end Go.Proofs.YtfnbilpemdgkkaaGreatDoor

namespace Go.Proofs.YtfnbilpemdgkkaaGreatDoor
set_option linter.unusedVariables false
def E6 {α : Type} (p : α → Bool) (f : α) : List α → List α
 | [] => []
 | x :: l => if p x then f :: x :: l else x :: E6 p f l
def I1 {α : Type} (has : Bool) (p : α → Bool) (f : α) (l : List α) : List α := if has then l else if l.any p then E6 p f l else l ++ [f]
section
variable {α : Type} {p q : α → Bool} {f : α}
theorem J1 : ∀ {l : List α}, l.any p = false → E6 p f l = l
 | [], _ => rfl
 | x :: l, h => by
  simp only [List.any_cons, Bool.or_eq_false_iff] at h
  simp [E6, h.1, J1 h.2]
theorem G7 : ∀ {l : List α} {y : α}, E6 p f (l ++ [y]) = if l.any p then E6 p f l ++ [y] else if p y then l ++ [f, y] else l ++ [y]
 | [], y => by simp [E6]
 | x :: l, y => by
  have h := G7 (l := l) (y := y)
  simp only [List.cons_append, E6, List.any_cons, h]
  cases p x <;> cases l.any p <;> cases p y <;> simp
theorem a0S : ∀ {l : List α}, (E6 p f l).length ≤ l.length + 1
 | [] => by simp [E6]
 | x :: l => by
  have := a0S (l := l)
  simp only [E6]; split <;> simp <;> omega
theorem Y5 {h : Bool} {l : List α} : (I1 h p f l).length ≤ l.length + 1 := by
 have := a0S (p := p) (f := f) (l := l)
 unfold I1; split; omega; split; omega; simp
theorem V4 {h : Bool} {l : List α} {y : α} (hy : y ∈ I1 h p f l) : y ∈ l ∨ y = f := by
 have ins : ∀ {l : List α}, y ∈ E6 p f l → y ∈ l ∨ y = f := by
  intro l
  induction l with
  | nil => simp [E6]
  | cons x l ih =>
   intro h
   simp only [E6] at h
   split at h
   ·simp only [List.mem_cons] at h ⊢; rcases h with h | h | h <;> simp [h]
   ·simp only [List.mem_cons] at h ⊢
    rcases h with h | h
    ·simp [h]
    ·rcases ih h with h | h <;> simp [h]
 unfold I1 at hy
 split at hy
 ·exact .inl hy
 ·split at hy
  ·exact ins hy
  ·simpa using hy
theorem a8o {l : List α} (hpq : ∀ y ∈ l, p y = q y) : I1 false p f l = l.take (if D5 q l < 0 then l.length else (D5 q l).toNat) ++ f :: l.drop (if D5 q l < 0 then l.length else (D5 q l).toNat) := by
 have ha : l.any p = l.any q := by
  induction l with
  | nil => rfl
  | cons x l ih => simp [List.any_cons, hpq x (by simp), ih fun y hy => hpq y (by simp [hy])]
 unfold I1 D5
 rw [ha]
 by_cases h : l.any q = true
 ·simp only [h, if_true, Bool.false_eq_true, if_false]
  rw [if_neg (by omega), Int.toNat_natCast]
  clear ha
  induction l with
  | nil => simp at h
  | cons x l ih =>
   simp only [E6, List.findIdx_cons, hpq x (by simp)]
   cases hq : q x with
   | true => simp
   | false =>
    simp only [List.any_cons, hq, Bool.false_or] at h
    simp [ih (fun y hy => hpq y (by simp [hy])) h]
 ·simp [h]
end
def F5 (l : List Int) (x : Int) : Bool := l.any fun y => decide (y = x)
def H2 (l : List Int) (x : Int) : List Int := I1 (F5 l x) (fun y => decide (x < y)) x l
def G3 (l : List Int) : List Int := l.foldl H2 []
theorem a5H : ∀ {a b : List Int}, a.Pairwise (· < ·) → b.Pairwise (· < ·) → (∀ x, x ∈ a ↔ x ∈ b) → a = b
 | [], [], _, _, _ => rfl
 | [], y :: b, _, _, h => by have := (h y).2 (by simp); simp at this
 | x :: a, [], _, _, h => by have := (h x).1 (by simp); simp at this
 | x :: a, y :: b, ha, hb, h => by
  rw [List.pairwise_cons] at ha hb
  have e : x = y := by
   have h1 := (h x).1 (by simp)
   have h2 := (h y).2 (by simp)
   simp only [List.mem_cons] at h1 h2
   rcases h1 with h1 | h1
   ·exact h1
   ·rcases h2 with h2 | h2
    ·exact h2.symm
    ·have := hb.1 x h1; have := ha.1 y h2; omega
  subst e
  rw [a5H ha.2 hb.2 fun z => ?_]
  have := h z
  simp only [List.mem_cons] at this
  constructor
  ·intro hz
   rcases this.1 (.inr hz) with e | e
   ·have := ha.1 z hz; omega
   ·exact e
  ·intro hz
   rcases this.2 (.inr hz) with e | e
   ·have := hb.1 z hz; omega
   ·exact e
theorem a7g {l : List Int} {x : Int} (h : l.Pairwise (· < ·)) : (H2 l x).Pairwise (· < ·) ∧ ∀ y, y ∈ H2 l x ↔ y ∈ l ∨ y = x := by
 have ins : ∀ {l : List Int}, l.Pairwise (· < ·) → x ∉ l → (if (l.any fun y => decide (x < y)) then E6 (fun y => decide (x < y)) x l else l ++ [x]).Pairwise (· < ·) ∧ ∀ y, y ∈ (if (l.any fun y => decide (x < y)) then E6 (fun y => decide (x < y)) x l else l ++ [x]) ↔ y ∈ l ∨ y = x := by
  intro l
  induction l with
  | nil => intro _ _; simp
  | cons z l ih =>
   intro h hx
   rw [List.pairwise_cons] at h
   simp only [List.mem_cons, not_or] at hx
   have ih' := ih h.2 hx.2
   by_cases hz : x < z
   ·simp only [List.any_cons, hz, decide_true, Bool.true_or, if_true, E6]
    refine ⟨?_, fun y => by simp only [List.mem_cons]; constructor <;> (intro h; rcases h with h | h | h) <;> simp [h]⟩
    rw [List.pairwise_cons, List.pairwise_cons]
    refine ⟨fun y hy => ?_, h⟩
    simp only [List.mem_cons] at hy
    rcases hy with rfl | hy
    ·exact hz
    ·have := h.1 y hy; omega
   ·simp only [List.any_cons, hz, decide_false, Bool.false_or, E6, Bool.false_eq_true, if_false]
    have e : (if (l.any fun y => decide (x < y)) then z :: E6 (fun y => decide (x < y)) x l else z :: l ++ [x]) = z :: (if (l.any fun y => decide (x < y)) then E6 (fun y => decide (x < y)) x l else l ++ [x]) := by split <;> simp
    rw [e]
    refine ⟨?_, fun y => by rw [List.mem_cons, ih'.2 y, List.mem_cons, or_assoc]⟩
    rw [List.pairwise_cons]
    refine ⟨fun y hy => ?_, ih'.1⟩
    rcases (ih'.2 y).1 hy with hy | rfl
    ·exact h.1 y hy
    ·omega
 unfold H2 I1 F5
 by_cases hx : x ∈ l
 ·have : (l.any fun y => decide (y = x)) = true := List.any_eq_true.2 ⟨x, hx, by simp⟩
  rw [if_pos this]
  exact ⟨h, fun y => ⟨.inl, fun e => by rcases e with e | rfl; exact e; exact hx⟩⟩
 ·have : ¬ (l.any fun y => decide (y = x)) = true := fun e => by
   obtain ⟨y, hy, e⟩ := List.any_eq_true.1 e
   simp at e; subst e; exact hx hy
  rw [if_neg this]
  exact ins h hx
theorem W5 : ∀ {l s : List Int}, s.Pairwise (· < ·) → (l.foldl H2 s).Pairwise (· < ·) ∧ ∀ y, y ∈ l.foldl H2 s ↔ y ∈ s ∨ y ∈ l
 | [], s, h => ⟨h, by simp⟩
 | x :: l, s, h => by
  have h1 := a7g (x := x) h
  have h2 := W5 (l := l) h1.1
  refine ⟨h2.1, fun y => ?_⟩
  rw [List.foldl_cons, h2.2 y, h1.2 y, List.mem_cons, or_assoc]
theorem a7U {l : List Int} : (G3 l).Pairwise (· < ·) := (W5 .nil).1
theorem a0P {l : List Int} {y : Int} : y ∈ G3 l ↔ y ∈ l := by rw [G3, (W5 .nil).2 y]; simp
theorem a4H {l : List Int} : (G3 l).length ≤ l.length := by
 have : ∀ {l s : List Int}, (l.foldl H2 s).length ≤ s.length + l.length := by
  intro l
  induction l with
  | nil => intro s; simp
  | cons x l ih => intro s; have := ih (s := H2 s x); have h2 := Y5 (h := F5 s x) (p := fun y => decide (x < y)) (f := x) (l := s); simp only [List.foldl_cons, List.length_cons]; unfold H2 at *; omega
 have h := this (l := l) (s := [])
 simpa [G3] using h
theorem a3b {d : List Int} (hd : d.Pairwise (· ≤ ·)) : (Lib.compact d).Pairwise (· < ·) ∧ ∀ y, y ∈ Lib.compact d ↔ y ∈ d := by
 have hle : ∀ i j, (hij : i ≤ j) → (hj : j < d.length) → d[i]'(by omega) ≤ d[j]'hj := by
  intro i j hij hj
  rcases Nat.lt_or_eq_of_le hij with h | h
  ·exact List.pairwise_iff_getElem.1 hd i j (by omega) hj h
  ·subst h; exact Int.le_refl _
 have hget : ∀ i, (h : i < d.length) → d.toArray[i]! = d[i] := by intro i h; simp [h]
 have key : ∀ m, m ≤ d.length → (Lib.compactUpTo d.toArray m).Pairwise (· < ·) ∧ ∀ y, y ∈ Lib.compactUpTo d.toArray m ↔ y ∈ d.take m := by
  intro m
  induction m with
  | zero => intro _; simp [Lib.compactUpTo]
  | succ m ih =>
   intro hm
   obtain ⟨h1, h2⟩ := ih (by omega)
   have hmem : ∀ y, y ∈ d.take (m + 1) ↔ y ∈ d.take m ∨ y = d[m] := by
    intro y; rw [List.take_succ_eq_append_getElem (show m < d.length by omega), List.mem_append, List.mem_singleton]
   rw [Lib.compactUpTo_succ, hget m (by omega)]
   by_cases hk : Lib.keeps d.toArray m = true
   ·rw [if_pos hk]
    refine ⟨List.pairwise_append.2 ⟨h1, by simp, fun a ha b hb => ?_⟩, fun y => by rw [List.mem_append, h2 y, hmem y]; simp⟩
    simp only [List.mem_singleton] at hb
    subst hb
    rw [h2 a, List.mem_take_iff_getElem] at ha
    obtain ⟨i, hi, rfl⟩ := ha
    have hi' : i < m := by omega
    have e1 := hle i (m - 1) (by omega) (by omega)
    have e2 := hle (m - 1) m (by omega) (by omega)
    have e3 : d[m - 1]'(by omega) ≠ d[m] := by
     intro e
     have := Lib.keeps_neg (d := d.toArray) (m := m) (by omega) (by rw [hget m (by omega), hget (m - 1) (by omega), e])
     rw [this] at hk; cases hk
    omega
   ·rw [if_neg hk, List.append_nil]
    refine ⟨h1, fun y => ?_⟩
    rw [h2 y, hmem y]
    refine ⟨.inl, fun h => h.elim id ?_⟩
    rintro rfl
    have h0 : 0 < m := by
     rcases Nat.eq_zero_or_pos m with e | e
     ·subst e; exact absurd (Lib.keeps_lt_one d.toArray 0 (by omega)) hk
     ·exact e
    have e3 : d[m - 1]'(by omega) = d[m] := by
     refine Classical.byContradiction fun e => hk (Lib.keeps_pos ?_)
     rw [hget m (by omega), hget (m - 1) (by omega)]
     exact fun e' => e e'.symm
    rw [List.mem_take_iff_getElem]
    exact ⟨m - 1, by omega, e3⟩
 have := key d.length (Nat.le_refl _)
 simpa [Lib.compact] using this
theorem N7 {l : List Int} : Lib.compact (l.mergeSort fun x y => decide (x ≤ y)) = G3 l := by
 have hs : (l.mergeSort fun x y => decide (x ≤ y)).Pairwise (· ≤ ·) := by
  have := List.pairwise_mergeSort (le := fun x y : Int => decide (x ≤ y)) (by intro a b c; simp only [decide_eq_true_eq]; omega) (by intro a b; simp only [Bool.or_eq_true, decide_eq_true_eq]; omega) l
  exact this.imp fun h => by simpa using h
 have h := a3b hs
 refine a5H h.1 a7U fun x => ?_
 rw [h.2 x, a0P]
 exact (List.mergeSort_perm l _).mem_iff
end Go.Proofs.YtfnbilpemdgkkaaGreatDoor

namespace Go.Proofs.YtfnbilpemdgkkaaGreatDoor
set_option linter.unusedVariables false
theorem a8L {P : Program} {f : FuncId} {args : List Value} {RR RR' : World → List Nat → Prop} {pre : List HP} {κ : Type} {φ : κ → Prop} {ret : κ → Value} {post : κ → List HP} (h : Tr P f args RR pre φ ret post) (hR : ∀ w L, RR' w L → RR w L) : Tr P f args RR' pre φ ret post :=
 ⟨h.1, fun w L hr hs hn => h.2 w L (hR w L hr) hs hn⟩
theorem S1 {l m : List Int} : G3 (l ++ m) = m.foldl H2 (G3 l) := by unfold G3; rw [List.foldl_append]
theorem T4 {l : List Int} {x : Int} : G3 (l ++ [x]) = H2 (G3 l) x := by rw [S1]; rfl
theorem Y6 {l : List Int} {x : Int} : F5 l x = true ↔ x ∈ l := by
 unfold F5
 rw [List.any_eq_true]
 constructor
 ·rintro ⟨y, hy, e⟩; simp at e; subst e; exact hy
 ·intro h; exact ⟨x, h, by simp⟩
def u6 (is : Int → Bool) (l0 : List (Int × List Int)) : List Int := G3 ((l0.flatMap fun a => a.2).filter is)
theorem a2o : ∀ {l : List (Int × List Int)}, (l.flatMap fun a => a.2).length = x2 (fun x => x.2.length) l
 | [] => rfl
 | a :: l => by simp only [List.flatMap_cons, List.length_append, a2o (l := l), x2, List.map_cons, List.sum_cons]
theorem a7i {is : Int → Bool} {l0 : List (Int × List Int)} {g : Nat} (hz : I3 (fun x => x.2.length) l0 ≤ 1048576) : (((l0.take g).flatMap fun a => a.2).filter is).length ≤ 1048576 := by
 have h1 := List.length_filter_le is ((l0.take g).flatMap fun a => a.2)
 have h2 := a5V (t := fun x : Int × List Int => x.2.length) (l := l0) (g := g)
 rw [a2o] at h1
 unfold I3 at hz; omega
theorem a2B {is : Int → Bool} {l0 : List (Int × List Int)} {g h : Nat} (hz : I3 (fun x => x.2.length) l0 ≤ 1048576) (hg : g < l0.length) : (((l0.take g).flatMap fun a => a.2).filter is ++ (l0[g].2.take h).filter is).length ≤ 1048576 := by
 have h1 := List.length_filter_le is ((l0.take g).flatMap fun a => a.2)
 have h2 := a5V (t := fun x : Int × List Int => x.2.length) (l := l0) (g := g + 1)
 have h3 := List.length_filter_le is (l0[g].2.take h)
 have h4 := List.length_take_le' h l0[g].2
 rw [a6H hg] at h2
 rw [a2o] at h1
 rw [List.length_append]
 unfold I3 at hz; omega
def K4 (t : Int) : Bool := inR t 0 9 || inR t 10 17
def G6 (s : List Int) (a : Int × List Int) : Bool := F1 s a.1 && (decide ((a.2.length : Int) = at0 s a.1) && !a.2.any fun t => !K4 t)
def N6 (q : List Int × List (Int × List Int)) : Bool := decide ((q.1.length : Int) ≤ 3) && !q.1.any fun t => !F5 (u6 (fun t => inR t 10 17) q.2) t
def x3 (s : List Int) (q : List Int × List (Int × List Int)) : Bool := E5 s && (inR (q.2.length : Int) 1 4 && ((!q.2.any fun a => !G6 s a) && N6 q))
def b1o (s : List Int) (u : List (List Int × List (Int × List Int))) (q : List Int × List (Int × List Int)) : Bool := !x3 s q || decide ((q.1.length : Int) ≠ ((u.getD 0 ([], [])).1.length : Int))
def a3a (s : List Int) (u : List (List Int × List (Int × List Int))) : Bool := inR (u.length : Int) 1 3 && !u.any (b1o s u)
def b2e (s : List Int) (g : (List Int × List (Int × List Int)) × List (Int × List Int)) : Bool :=
 x3 s g.1 && (decide ((g.2.length : Int) ≤ 4) && ((!g.2.any fun a => !G6 s a) && !(u6 (fun t => inR t 10 17) g.2).any fun t => !F5 (u6 (fun t => inR t 10 17) g.1.2) t))
end Go.Proofs.YtfnbilpemdgkkaaGreatDoor

namespace Go.Proofs.YtfnbilpemdgkkaaGreatDoor
set_option linter.unusedVariables false
def ltF (a b : Int × List Int) : Bool := decide (M7 a b < 0)
def C8 (l : List (Int × List Int)) (f : Int × List Int) : List (Int × List Int) := I1 (D0 l f) (ltF f) f l
theorem a8d {a b : Int} : G2 a b = - G2 b a := by unfold G2; grind
theorem a5l : ∀ {l m : List Int}, C3 l m = - C3 m l
 | [], [] => by simp [C3]
 | [], _ :: _ => by simp [C3]
 | _ :: _, [] => by simp [C3]
 | a :: l, b :: m => by
  have h1 := a8d (a := a) (b := b)
  have h2 := a5l (l := l) (m := m)
  unfold C3; grind
theorem a3W {α : Type} {p : α → Bool} {s : List α} : D5 p s ≤ s.length ∧ -1 ≤ D5 p s := by
 unfold D5
 split
 ·have := List.findIdx_le_length (p := p) (xs := s); omega
 ·omega
def addS {α : Type} (h : Bool) (p : α → Bool) (f : α) (l : List α) : List α := if h then l else E6 p f l
theorem a2r {α : Type} {h : Bool} {p : α → Bool} {f : α} {l : List α} : (addS h p f l).length ≤ l.length + 1 := by
 have := a0S (p := p) (f := f) (l := l)
 unfold addS; split <;> omega
theorem B3 {α : Type} {h : Bool} {p : α → Bool} {f : α} : addS h p f [] = [] := by unfold addS; cases h <;> rfl
theorem y7 {α : Type} {h : Bool} {p : α → Bool} {f : α} {l : List α} {y : α} : addS h p f (l ++ [y]) = if (h || l.any p) = true then addS h p f l ++ [y] else if p y = true then addS h p f l ++ [f, y] else addS h p f l ++ [y] := by
 unfold addS
 cases h
 ·simp only [Bool.false_eq_true, if_false, Bool.false_or, G7]
  cases ha : l.any p
  ·simp [J1 ha]
  ·simp
 ·simp
theorem y6 {α : Type} {h : Bool} {p : α → Bool} {f : α} {l : List α} : I1 h p f l = if (h || l.any p) = true then addS h p f l else addS h p f l ++ [f] := by
 unfold addS I1
 cases h
 ·cases ha : l.any p
  ·simp [J1 ha]
  ·simp
 ·simp
theorem x6 {α : Type} {p : α → Bool} {l : List α} {g : Nat} (h : g < l.length) : (l.take (g + 1)).any p = ((l.take g).any p || p l[g]) := by
 rw [List.take_succ_eq_append_getElem h, List.any_append]; simp
theorem G8 {f : Int × List Int} {a : Int} {b : List Int} : ltF f (a, b) = decide (M7 f (a, b) < 0) := rfl
def P5 (s : List Int) (l : List (Int × List Int)) (g : Nat) : Bool := (l.drop g).all (D4 s) && E7 ltF (l.drop (g - 1))
def C9 (s : List Int) (l : List (Int × List Int)) : Bool := P5 s l 0 && (E5 s && decide ((l.length : Int) ≤ 24))
def b0r (c7 : List (Int × List Int)) (f : Int × List Int) (out : List (Int × List Int)) (r : Int × Int × List Int) : List (Int × List Int) :=
 if f.1 = r.1 then (if D0 c7 (r.2.1, S4 r.2.2 f.2) then out else C8 out (r.2.1, S4 r.2.2 f.2)) else out
def b0L (l : List (Int × Int × List Int)) (c7 : List (Int × List Int)) (out : List (Int × List Int)) (f : Int × List Int) : List (Int × List Int) := l.foldl (b0r c7 f) out
def a6z (l : List (Int × Int × List Int)) (c7 : List (Int × List Int)) : List (Int × List Int) := c7.foldl (b0L l c7) []
end Go.Proofs.YtfnbilpemdgkkaaGreatDoor

namespace Go.Proofs.YtfnbilpemdgkkaaGreatDoor
set_option linter.unusedVariables false
set_option linter.unusedSimpArgs false
theorem W2 {s : List Int} {l : List (Int × List Int)} (h : C9 s l = true) : l.length ≤ 24 ∧ ∀ f ∈ l, D4 s f = true := by
 simp only [C9, P5, List.drop_zero, Bool.and_eq_true, decide_eq_true_eq, List.all_eq_true] at h
 exact ⟨by omega, h.1.1⟩
theorem a6n {s : List Int} {f : Int × List Int} (h : D4 s f = true) : f.2.length ≤ 3 := by
 simp only [D4, Bool.and_eq_true, decide_eq_true_eq] at h
 have := S3 h.1
 simp only [at0] at h; omega
theorem a6c {v : List Int} (h : P2 v = true) : ∀ x ∈ v, 0 ≤ x ∧ x ≤ 9 := by
 simp only [P2, Bool.not_eq_true', List.any_eq_false, Bool.not_eq_true] at h
 intro x hx
 have := h x hx
 simp [inR] at this; omega
def b2S (s : List Int) (l : List (Int × Int × List Int)) (c7 : List (Int × List Int)) : List (Int × List Int) := if a0w s l && C9 s c7 then a6z l c7 else []
def a1G (l : List (Int × Int × List Int)) (c7 : List (Int × List Int)) : Nat → List (Int × List Int)
 | 0 => c7
 | n + 1 => (a6z l (a1G l c7 n)).foldl C8 (a1G l c7 n)
def a9Q (l : List (Int × Int × List Int)) (c7 : List (Int × List Int)) : List (Int × List Int) := a1G l c7 6001
theorem a2l : ∀ {n : Nat} {l : List Nat}, l.Nodup → (∀ x ∈ l, x < n) → l.length ≤ n
 | 0, l, _, h => by
  cases l with
  | nil => simp
  | cons x l => exact absurd (h x (by simp)) (by omega)
 | n + 1, l, hd, h => by
  by_cases hm : n ∈ l
  ·have h1 := a2l (n := n) (l := l.erase n) (hd.erase n) fun x hx => by
    have h2 := (hd.mem_erase_iff).1 hx
    have := h x h2.2; omega
   rw [List.length_erase_of_mem hm] at h1; omega
  ·have h1 := a2l (n := n) (l := l) hd fun x hx => by
    have h2 := h x hx
    have : x ≠ n := fun e => hm (e ▸ hx)
    omega
   omega
def W0 : List Int → Nat
 | [] => 0
 | v :: l => (v.toNat + 1) + 11 * W0 l
theorem a3Y : ∀ {a b : List Int}, (∀ x ∈ a, 0 ≤ x ∧ x ≤ 9) → (∀ x ∈ b, 0 ≤ x ∧ x ≤ 9) → W0 a = W0 b → a = b
 | [], [], _, _, _ => rfl
 | [], y :: b, _, _, h => by simp [W0] at h; omega
 | x :: a, [], _, _, h => by simp [W0] at h
 | x :: a, y :: b, ha, hb, h => by
  have h1 := ha x (by simp)
  have h2 := hb y (by simp)
  simp only [W0] at h
  rw [a3Y (a := a) (b := b) (fun z hz => ha z (by simp [hz])) (fun z hz => hb z (by simp [hz])) (by omega), show x = y by omega]
theorem a5i : ∀ {n : Nat} {a : List Int}, (∀ x ∈ a, 0 ≤ x ∧ x ≤ 9) → a.length ≤ n → W0 a < 11 ^ n
 | n, [], _, _ => by simp [W0]; exact Nat.pow_pos (by decide)
 | 0, x :: a, _, h => by simp at h
 | n + 1, x :: a, ha, h => by
  have h1 := a5i (n := n) (a := a) (fun z hz => ha z (by simp [hz])) (by simpa using h)
  have h2 := ha x (by simp)
  simp only [W0, Nat.pow_succ]; omega
def a6r (f : Int × List Int) : Nat := f.1.toNat + 4 * W0 f.2
theorem a0T {s : List Int} {f : Int × List Int} (h : D4 s f = true) : 0 ≤ f.1 ∧ f.1 < 4 := by
 simp only [D4, Bool.and_eq_true, decide_eq_true_eq] at h
 have h1 := S3 h.1
 have h2 := h.1
 simp only [F1, E5, inR, Bool.and_eq_true, decide_eq_true_eq] at h2
 omega
theorem W3 {s : List Int} {f : Int × List Int} (h : D4 s f = true) : ∀ x ∈ f.2, 0 ≤ x ∧ x ≤ 9 := by
 simp only [D4, Bool.and_eq_true] at h
 exact a6c h.2.2
theorem a7a {s : List Int} {D : List (Int × List Int)} (hd : D.Nodup) (h : ∀ f ∈ D, D4 s f = true) : D.length ≤ 5324 := by
 have h1 : (D.map a6r).Nodup := by
  unfold List.Nodup at hd ⊢
  rw [List.pairwise_map]
  refine List.Pairwise.imp_of_mem (fun {a b} ha hb hab e => hab ?_) hd
  have ra := a0T (h a ha)
  have rb := a0T (h b hb)
  simp only [a6r] at e
  have e2 := a3Y (W3 (h a ha)) (W3 (h b hb)) (by omega)
  exact Prod.ext (by omega) e2
 have h2 := a2l (n := 5324) h1 fun x hx => by
  obtain ⟨f, hf, rfl⟩ := List.mem_map.1 hx
  have r := a0T (h f hf)
  have c := a5i (n := 3) (W3 (h f hf)) (a6n (h f hf))
  unfold a6r; omega
 simpa using h2
theorem a2h {α : Type} {p : α → Bool} {f y : α} : ∀ {l : List α}, y ∈ l → y ∈ E6 p f l
 | x :: l, h => by
  simp only [E6]
  simp only [List.mem_cons] at h
  split
  ·simp [h]
  ·rcases h with h | h
   ·simp [h]
   ·simp [a2h h]
theorem a1t {α : Type} {p : α → Bool} {f : α} : ∀ {l : List α}, l.any p = true → f ∈ E6 p f l
 | x :: l, h => by
  simp only [E6]
  split
  ·simp
  ·rename_i h1
   simp only [List.any_cons, h1, Bool.false_or] at h
   simp [a1t h]
theorem a0Q {l : List (Int × List Int)} {f y : Int × List Int} (h : y ∈ l) : y ∈ C8 l f := by
 unfold C8 I1
 split
 ·exact h
 ·split
  ·exact a2h h
  ·simp [h]
theorem Z0 {l : List (Int × List Int)} {f : Int × List Int} : D0 l f = true ↔ f ∈ l := by
 unfold D0
 rw [List.any_eq_true]
 constructor
 ·rintro ⟨x, hx, e⟩
  rw [decide_eq_true_eq, a3V] at e
  exact e ▸ hx
 ·intro h
  exact ⟨f, h, by rw [decide_eq_true_eq, a3V]⟩
theorem a3S {l : List (Int × List Int)} {f : Int × List Int} (h : D0 l f = false) : f ∈ C8 l f := by
 unfold C8 I1
 rw [h]
 simp only [Bool.false_eq_true, if_false]
 split
 ·rename_i h1; exact a1t h1
 ·simp
def b1s (s : List Int) (x D : List (Int × List Int)) : Prop := D.Nodup ∧ (∀ f ∈ D, f ∈ x) ∧ x.length ≤ 24 + D.length ∧ ∀ f ∈ x, D4 s f = true
def b3d (l : List (Int × Int × List Int)) (c7 : List (Int × List Int)) (n : Nat) : Prop := ∃ s, a0w s l = true ∧ ∃ D, b1s s (a1G l c7 n) D ∧ n ≤ D.length
theorem a8h {m x : List (Int × List Int)} : (m.foldl C8 x).length ≤ x.length + m.length := by
 induction m generalizing x with
 | nil => simp
 | cons f m ih =>
  have h1 := ih (x := C8 x f)
  have h2 := Y5 (h := D0 x f) (p := ltF f) (f := f) (l := x)
  simp only [List.foldl_cons, List.length_cons]
  unfold C8 at h1 ⊢; omega
def b2B (s : List Int) (l : List (Int × Int × List Int)) (c7 : List (Int × List Int)) : List (Int × List Int) := if a0w s l && C9 s c7 then a9Q l c7 else []
end Go.Proofs.YtfnbilpemdgkkaaGreatDoor

namespace Go.Proofs.YtfnbilpemdgkkaaGreatDoor
set_option linter.unusedVariables false
set_option linter.unusedSimpArgs false
def unb (b : List Int × List Int) (t : Int) : Bool := !(b.1.take (min b.1.length b.2.length)).any fun x => decide (x = t)
theorem a9g {α : Type} {p : α → Bool} {s : List α} : D5 p s < 0 ↔ s.any p = false := by
 unfold D5
 by_cases h : s.any p = true
 ·rw [if_pos h]; simp [h]
 ·rw [if_neg h]; simp at h; simp; exact h
theorem s8 {b : List Int × List Int} {t : Int} : unb b t = decide (D5 (fun x => decide (x = t)) (b.1.take (min b.1.length b.2.length)) < 0) := by
 rw [unb, Bool.eq_iff_iff, decide_eq_true_eq, a9g]; simp
theorem U4 {V W : List Int} {p : Int → Bool} {g : Nat} (h : g < V.length) (h2 : g < W.length) : ((V.take (min V.length W.length)).drop g).any p = (p V[g] || ((V.take (min V.length W.length)).drop (g + 1)).any p) := by
 rw [List.drop_eq_getElem_cons (by simp; omega)]
 simp
theorem a0r {V W : List Int} {p : Int → Bool} {g : Nat} (h : ¬ (g < V.length ∧ g < W.length)) : ((V.take (min V.length W.length)).drop g).any p = false := by
 rw [List.drop_eq_nil_of_le (by simp; omega)]; rfl
def x4 (x : List Int × List Int) (t v : Int) : List Int × List Int := if inR t 10 17 && unb x t then (x.1 ++ [t], x.2 ++ [v]) else x
def v7 (b : List Int × List Int) (l : List (Int × Int)) : List Int × List Int := l.foldl (fun x p => x4 x p.1 p.2) b
def okV (b : List Int × List Int) : List (Int × Int) → Bool
 | [] => true
 | p :: l => decide (s4 (x4 b p.1 p.2) p.1 = p.2) && okV (x4 b p.1 p.2) l
def j0 (b : List Int × List Int) (a f : Int × List Int) : Bool := decide (a.1 = f.1) && (decide (a.2.length = f.2.length) && (decide (b.1.length = b.2.length) && okV b (a.2.zip f.2)))
def k7 (b : List Int × List Int) (a f : Int × List Int) : List Int × List Int := v7 b (a.2.zip f.2)
theorem s7 {b : List Int × List Int} {t v : List Int} {g : Nat} (h : g < t.length) (h2 : g < v.length) : v7 b ((t.zip v).take (g + 1)) = x4 (v7 b ((t.zip v).take g)) t[g] v[g] := by
 unfold v7
 rw [List.take_succ_eq_append_getElem (by simp; omega), List.foldl_append]
 simp
theorem r5 {b : List Int × List Int} {t v : List Int} {g : Nat} (h : g < t.length) (h2 : g < v.length) : okV b ((t.zip v).drop g) = (decide (s4 (x4 b t[g] v[g]) t[g] = v[g]) && okV (x4 b t[g] v[g]) ((t.zip v).drop (g + 1))) := by
 rw [List.drop_eq_getElem_cons (by simp; omega)]
 simp [okV]
theorem s6 {b : List Int × List Int} {t v : List Int} {g : Nat} (h : t.length ≤ g) : okV b ((t.zip v).drop g) = true := by
 rw [List.drop_eq_nil_of_le (by simp; omega)]; rfl
theorem w6 {b : List Int × List Int} {t v : List Int} {g : Nat} (h : t.length ≤ g) : v7 b ((t.zip v).take g) = v7 b (t.zip v) := by
 rw [List.take_of_length_le (by simp; omega)]
theorem a7M {x : List Int × List Int} {t v : Int} : (x4 x t v).1.length ≤ x.1.length + 1 ∧ (x4 x t v).2.length ≤ x.2.length + 1 := by
 unfold x4; split <;> simp
theorem a0z {x : List Int × List Int} {t v : Int} (h : x.1.length = x.2.length) : (x4 x t v).1.length = (x4 x t v).2.length := by
 unfold x4; split <;> simp [h]
theorem a1q : ∀ {l : List (Int × Int)} {x : List Int × List Int}, (v7 x l).1.length ≤ x.1.length + l.length ∧ (v7 x l).2.length ≤ x.2.length + l.length
 | [], x => by simp [v7]
 | p :: l, x => by
  have h1 := a1q (l := l) (x := x4 x p.1 p.2)
  have h2 := a7M (x := x) (t := p.1) (v := p.2)
  simp only [v7, List.foldl_cons, List.length_cons] at h1 ⊢; omega
theorem a0K : ∀ {l : List (Int × Int)} {x : List Int × List Int}, x.1.length = x.2.length → (v7 x l).1.length = (v7 x l).2.length
 | [], x, h => h
 | p :: l, x, h => by
  have := a0K (l := l) (a0z (t := p.1) (v := p.2) h)
  simpa only [v7, List.foldl_cons] using this
theorem a6K {b : List Int × List Int} {t v : List Int} {g : Nat} : (v7 b ((t.zip v).take g)).1.length ≤ b.1.length + t.length ∧ (v7 b ((t.zip v).take g)).2.length ≤ b.2.length + t.length := by
 have h := a1q (l := (t.zip v).take g) (x := b)
 have h2 : ((t.zip v).take g).length ≤ t.length := by simp; omega
 omega
theorem a5M {x : List Int × List Int} {t v : Int} (h : x.1.length = x.2.length) (h1 : inR t 10 17 = true) (h2 : unb x t = true) : s4 (x.1 ++ [t], x.2 ++ [v]) t = v := by
 have e := Y4 (b := (x.1 ++ [t], x.2 ++ [v])) (t := t) (g := x.1.length) h1 (by simp) (by simp [h]) (by simp) (by
  intro y hy
  simp only [unb, h, Nat.min_self, Bool.not_eq_true', List.any_eq_false] at h2
  rw [List.take_append_of_le_length (Nat.le_refl _), List.take_length] at hy
  have := h2 y (by rw [← h, List.take_length]; exact hy)
  simpa using this)
 rw [← e]
 simp [h]
theorem a2O {x : List Int × List Int} {t v : Int} (h : (inR t 10 17 && unb x t) = false) : x4 x t v = x := by unfold x4; rw [h]; simp
theorem a1H {x : List Int × List Int} {t v : Int} (h : (inR t 10 17 && unb x t) = true) : x4 x t v = (x.1 ++ [t], x.2 ++ [v]) := by unfold x4; rw [h]; simp
theorem D3 {x : List Int × List Int} {t v : Int} (h : x.1.length = x.2.length) : decide (s4 (x4 x t v) t = v) = (inR t 10 17 && unb x t || decide (s4 x t = v)) := by
 cases hc : inR t 10 17 && unb x t with
 | false => rw [a2O hc]; simp
 | true =>
  rw [a1H hc]
  rw [Bool.and_eq_true] at hc
  rw [a5M h hc.1 hc.2]; simp
def E1 (b : List Int × List Int) (a : Int × List Int) (c7 : List (Int × List Int)) : List (List Int × List Int) := (c7.filter (j0 b a)).map (k7 b a)
def B5 (l : List (List Int × List Int)) (a : Int × List Int) (c7 : List (Int × List Int)) : List (List Int × List Int) := l.flatMap fun b => E1 b a c7
theorem J4 {b : List Int × List Int} {a : Int × List Int} : E1 b a [] = [] := rfl
theorem H7 {b : List Int × List Int} {a f : Int × List Int} {l : List (Int × List Int)} : E1 b a (l ++ [f]) = if j0 b a f then E1 b a l ++ [k7 b a f] else E1 b a l := by
 unfold E1
 cases h : j0 b a f <;> simp [List.filter_append, h]
theorem J6 {a : Int × List Int} {c7 : List (Int × List Int)} : B5 [] a c7 = [] := rfl
theorem H9 {l : List (List Int × List Int)} {b : List Int × List Int} {a : Int × List Int} {c7 : List (Int × List Int)} : B5 (l ++ [b]) a c7 = B5 l a c7 ++ E1 b a c7 := by
 simp [B5]
theorem a4Y {b : List Int × List Int} {a : Int × List Int} {c7 : List (Int × List Int)} : (E1 b a c7).length ≤ c7.length := by
 unfold E1; rw [List.length_map]; exact List.length_filter_le _ _
theorem a5d {a : Int × List Int} {c7 : List (Int × List Int)} : ∀ {l : List (List Int × List Int)}, (B5 l a c7).length ≤ l.length * c7.length
 | [] => by simp [B5]
 | b :: l => by
  have h1 := a5d (a := a) (c7 := c7) (l := l)
  have h2 := a4Y (b := b) (a := a) (c7 := c7)
  simp only [B5, List.flatMap_cons, List.length_append, List.length_cons, Nat.succ_mul] at h1 ⊢; omega
theorem a4L {n k : Nat} {a : Int × List Int} {c7 : List (Int × List Int)} {l : List (List Int × List Int)} (ha : a.2.length ≤ k) (h : ∀ b ∈ l, b.1.length ≤ n ∧ b.2.length ≤ n) : ∀ b ∈ B5 l a c7, b.1.length ≤ n + k ∧ b.2.length ≤ n + k := by
 intro b hb
 simp only [B5, E1, List.mem_flatMap, List.mem_map] at hb
 obtain ⟨x, hx, f, _, rfl⟩ := hb
 have h1 := h x hx
 have h2 := a1q (l := a.2.zip f.2) (x := x)
 have h3 : (a.2.zip f.2).length ≤ a.2.length := by simp; omega
 unfold k7; omega
def r8 (l0 : List (Int × List Int)) (c7 : List (Int × List Int)) : List (List Int × List Int) := l0.foldl (fun l a => B5 l a c7) [([], [])]
theorem O3 {c7 : List (Int × List Int)} : r8 [] c7 = [([], [])] := rfl
theorem M3 {l0 c7 : List (Int × List Int)} {a : Int × List Int} : r8 (l0 ++ [a]) c7 = B5 (r8 l0 c7) a c7 := by
 simp [r8]
theorem a3P {c7 : List (Int × List Int)} (hf : c7.length ≤ 24) : ∀ {n : Nat} {l0 : List (Int × List Int)}, l0.length = n → (∀ a ∈ l0, a.2.length ≤ 3) → (r8 l0 c7).length ≤ 24 ^ n ∧ ∀ b ∈ r8 l0 c7, b.1.length ≤ 3 * n ∧ b.2.length ≤ 3 * n
 | 0, l0, hn, _ => by
  obtain rfl := List.length_eq_zero_iff.1 hn
  simp [O3]
 | n + 1, l0, hn, h => by
  have h0 : l0 ≠ [] := by intro e; subst e; simp at hn
  rw [← List.dropLast_concat_getLast h0] at hn h ⊢
  rw [List.length_append] at hn
  have ih := a3P hf (n := n) (l0 := l0.dropLast) (by simpa using hn) (fun a ha => h a (by simp [ha]))
  rw [M3]
  have h1 := a5d (a := l0.getLast h0) (c7 := c7) (l := r8 l0.dropLast c7)
  have h2 := Nat.mul_le_mul ih.1 hf
  have h3 := a4L (c7 := c7) (h (l0.getLast h0) (by simp)) ih.2
  exact ⟨by rw [Nat.pow_succ]; omega, fun b hb => by have := h3 b hb; omega⟩
theorem a1Y {c7 l0 : List (Int × List Int)} (hf : c7.length ≤ 24) (hn : l0.length ≤ 4) (h : ∀ a ∈ l0, a.2.length ≤ 3) : (r8 l0 c7).length ≤ 331776 ∧ ∀ b ∈ r8 l0 c7, b.1.length ≤ 12 ∧ b.2.length ≤ 12 := by
 have h1 := a3P hf rfl h
 have h2 : 24 ^ l0.length ≤ 24 ^ 4 := Nat.pow_le_pow_right (by decide) hn
 exact ⟨by omega, fun b hb => by have := h1.2 b hb; omega⟩
def E8 (l : List (List Int)) (t : List Int) : Bool := l.any fun x => decide (x = t)
def ltT (a b : List Int) : Bool := decide (C3 a b < 0)
def D1 (l : List (List Int)) (t : List Int) : List (List Int) := I1 (E8 l t) (ltT t) t l
theorem a2g {l : List (List Int)} {t : List Int} (h : E8 l t = true) : D1 l t = l := by simp [D1, I1, h]
theorem a2p {l : List (List Int)} {f : List Int} (h : E8 l f = false) : D1 l f = l.take (if D5 (fun z => decide (0 < C3 z f)) l < 0 then l.length else (D5 (fun z => decide (0 < C3 z f)) l).toNat) ++ f :: l.drop (if D5 (fun z => decide (0 < C3 z f)) l < 0 then l.length else (D5 (fun z => decide (0 < C3 z f)) l).toNat) := by
 rw [D1, h]
 refine a8o fun y _ => ?_
 have := a5l (l := f) (m := y)
 rw [ltT, decide_eq_decide]; omega
theorem a7N {l : List (List Int)} {t : List Int} : (D1 l t).length ≤ l.length + 1 := Y5
def H3 (h : List Int) (l : List (List Int × List Int)) : List (List Int) := l.foldl (fun out b => D1 out (h.map (s4 b))) []
theorem U0 {h : List Int} : H3 h [] = [] := rfl
theorem Q4 {h : List Int} {l : List (List Int × List Int)} {b : List Int × List Int} : H3 h (l ++ [b]) = D1 (H3 h l) (h.map (s4 b)) := by simp [H3]
theorem a2k {h : List Int} : ∀ {l : List (List Int × List Int)} {out : List (List Int)}, (l.foldl (fun out b => D1 out (h.map (s4 b))) out).length ≤ out.length + l.length ∧ ((∀ t ∈ out, t.length ≤ h.length) → ∀ t ∈ l.foldl (fun out b => D1 out (h.map (s4 b))) out, t.length ≤ h.length)
 | [], out => by simp
 | b :: l, out => by
  have h1 := a2k (h := h) (l := l) (out := D1 out (h.map (s4 b)))
  have h2 := a7N (l := out) (t := h.map (s4 b))
  refine ⟨by simp only [List.foldl_cons, List.length_cons]; omega, fun ho => h1.2 fun t ht => ?_⟩
  rcases V4 ht with ht | rfl
  ·exact ho t ht
  ·simp
theorem a3o {h : List Int} {l : List (List Int × List Int)} : (H3 h l).length ≤ l.length := by have := (a2k (h := h) (l := l) (out := [])).1; simpa [H3] using this
theorem a4z {h : List Int} {l : List (List Int × List Int)} : ∀ t ∈ H3 h l, t.length ≤ h.length := (a2k (h := h) (l := l) (out := [])).2 (by simp)
theorem O6 {s : List Int} {q : List Int × List (Int × List Int)} (h : x3 s q = true) : q.2.length ≤ 4 ∧ q.1.length ≤ 3 ∧ ∀ a ∈ q.2, a.2.length ≤ 3 := by
 simp only [x3, N6, inR, Bool.and_eq_true, decide_eq_true_eq, Bool.not_eq_true', List.any_eq_false, Bool.not_eq_true] at h
 refine ⟨by omega, by omega, fun a ha => ?_⟩
 have h1 := h.2.2.1 a ha
 have h1 : G6 s a = true := by simpa using h1
 simp only [G6, Bool.and_eq_true, decide_eq_true_eq] at h1
 have := S3 h1.1
 simp only [at0] at h1; omega
def C0 (s : List Int) (q : List Int × List (Int × List Int)) (c7 : List (Int × List Int)) : List (List Int) := if x3 s q && C9 s c7 then H3 q.1 (r8 q.2 c7) else []
end Go.Proofs.YtfnbilpemdgkkaaGreatDoor

namespace Go.Proofs.YtfnbilpemdgkkaaGreatDoor
set_option linter.unusedVariables false
set_option linter.unusedSimpArgs false
def nxt (u : List Int) : Nat → Nat → Nat
 | 0, v => v
 | n + 1, v => if F5 u (v : Int) then nxt u n (v + 1) else v
def M4 (u : List Int) (v : Nat) : Nat := nxt u 11 v
theorem a9d {u : List Int} (hu : ∀ x ∈ u, 0 ≤ x ∧ x ≤ 9) {v : Nat} (h : F5 u (v : Int) = true) : v ≤ 9 := by
 have := (hu _ (Y6.1 h)).2; omega
def fzN (u : List Int) : Nat → Nat
 | 0 => 0
 | g + 1 => M4 u (fzN u g) + 1
def a4r (u : List Int) (n : Nat) : Bool := (List.range n).all fun i => decide (M4 u (fzN u i) ≤ 9)
def X2 (u : List Int) (n : Nat) : List Int := (List.range n).map fun i => (M4 u (fzN u i) : Int)
theorem a5n {u : List Int} {n : Nat} : (X2 u n).length = n := by simp [X2]
theorem a7e {u : List Int} {n : Nat} (h : ∀ i, i < n → M4 u (fzN u i) ≤ 9) : a4r u n = true := by
 rw [a4r, List.all_eq_true]
 intro i hi
 rw [decide_eq_true_eq]
 exact h i (List.mem_range.1 hi)
def D2 (l0 : List (Int × List Int)) : List Int := u6 (fun t => inR t 10 17) l0
def a8z (l0 : List (Int × List Int)) : List Int := u6 (fun t => inR t 0 9) l0
def a1n (l0 : List (Int × List Int)) (b : List Int × List Int) : List (Int × List Int) := l0.foldl (fun out a => C8 out (F3 a b)) []
def fzB (u : List Int) (l0 : List (Int × List Int)) : Bool := a4r u (D2 l0).length
def fzV (u : List Int) (l0 : List (Int × List Int)) : List Int := cond (fzB u l0) (D2 l0) []
def fzX (u : List Int) (l0 : List (Int × List Int)) : List Int := cond (fzB u l0) (X2 u (D2 l0).length) []
def fzF (u : List Int) (l0 : List (Int × List Int)) : List (Int × List Int) := cond (fzB u l0) (a1n l0 (D2 l0, X2 u (D2 l0).length)) []
theorem a9b {l0 : List (Int × List Int)} : ∀ x ∈ a8z l0, 0 ≤ x ∧ x ≤ 9 := by
 intro x hx
 unfold a8z u6 at hx
 rw [a0P, List.mem_filter] at hx
 have := hx.2
 simpa [inR] using this
theorem a8P {l0 : List (Int × List Int)} : ∀ x ∈ D2 l0, 10 ≤ x ∧ x ≤ 17 := by
 intro x hx
 unfold D2 u6 at hx
 rw [a0P, List.mem_filter] at hx
 have := hx.2
 simpa [inR] using this
end Go.Proofs.YtfnbilpemdgkkaaGreatDoor
