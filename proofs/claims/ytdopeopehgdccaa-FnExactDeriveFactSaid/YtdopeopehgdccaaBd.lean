import Derived.Test.YtdopeopehgdccaaBc
import Derived.Test.YtdopeopehgdccaaBb
import Derived.Lib.SlicesCompact
namespace Go.Proofs.Ytdopeopehgdccaa
open Go.RowKit
set_option linter.unusedVariables false
/-- g, with what it has captured, says p of every two elements, in every later world -/
def FnP2 {α : Type} (P : Program) (w : World) (L : List Nat) (g : FuncId) (caps : List Value) (E : Enc α) (val : List Value → Value) (p : α → α → Bool) : Prop :=
  M3 P g ∧ ∀ w', Keep w L w' → ∀ cs x ds y, Ro w' [] E cs x → Ro w' [] E ds y → Calls P g (val cs :: val ds :: caps).toArray w' fun e w'' => e = .returned (.bool (p x y)) ∧ Ext w' w''
section
variable {P : Program} {α : Type} {E : Enc α} {w w0 : World} {L L0 Lp : List Nat} {pre rest : List HP} {g : FuncId} {caps : List Value} {val : List Value → Value} {p : α → α → Bool}
end
section
variable {P : Program} {Q : Exit → Act → World → Prop} {n : Nat} {w0 : World} {L0 : List Nat} {fr : Fr} {H : List HP} {d : Nat} {ty : TypeId} {pos : String} {af : Array Edge} {g : Option (Nat × Bool)}
end
section
variable {P : Program} {w : World} {L : List Nat} {g : FuncId} {caps : List Value} {RR : World → List Nat → Prop}
end
end Go.Proofs.Ytdopeopehgdccaa

namespace Go.Proofs.Ytdopeopehgdccaa
open Go.RowKit
set_option linter.unusedVariables false
/-- of an owned list, whose row is there whole, the elements from j on -/
def owd {α : Type} (e : TypeId) (E : Enc α) (a : Option Addr) (m c : Nat) (xs : List α) (j : Nat) : HP where
  holds w L := ∃ c1 c2 L1 L2, L = L1 ++ L2 ∧ m = xs.length ∧ m ≤ maxLen ∧ c1.length = j * E.k ∧ d6 E w c2 (xs.drop j) L2 true ∧ (row e E.k a m c (c1 ++ c2)).holds w L1
  stable := by
    rintro w w' L ⟨c1, c2, L1, L2, rfl, h1, h2, h3, h4, h5⟩ hb
    exact ⟨c1, c2, L1, L2, rfl, h1, h2, h3, h4.stable fun b h => hb b (by simp [h]), (row e E.k a m c _).stable h5 fun b h => hb b (by simp [h])⟩
  inh := by
    rintro w L ⟨c1, c2, L1, L2, rfl, h1, h2, h3, h4, h5⟩ b hb
    rcases List.mem_append.1 hb with hb | hb
    · exact (row e E.k a m c _).inh h5 b hb
    · exact h4.inh b hb
/-- the same, where element j (cells ce) has been taken out -/
def owt {α : Type} (e : TypeId) (E : Enc α) (a : Option Addr) (m c : Nat) (xs : List α) (j : Nat) (ce : List Value) : HP where
  holds w L := ∃ c1 c2 L1 L2, L = L1 ++ L2 ∧ m = xs.length ∧ m ≤ maxLen ∧ j < xs.length ∧ ce.length = E.k ∧ c1.length = j * E.k ∧ d6 E w c2 (xs.drop (j + 1)) L2 true ∧ (row e E.k a m c (c1 ++ (ce ++ c2))).holds w L1
  stable := by
    rintro w w' L ⟨c1, c2, L1, L2, rfl, h1, h2, h0, h6, h3, h4, h5⟩ hb
    exact ⟨c1, c2, L1, L2, rfl, h1, h2, h0, h6, h3, h4.stable fun b h => hb b (by simp [h]), (row e E.k a m c _).stable h5 fun b h => hb b (by simp [h])⟩
  inh := by
    rintro w L ⟨c1, c2, L1, L2, rfl, h1, h2, h0, h6, h3, h4, h5⟩ b hb
    rcases List.mem_append.1 hb with hb | hb
    · exact (row e E.k a m c _).inh h5 b hb
    · exact h4.inh b hb
section
variable {n : Nat} {w0 : World} {L0 : List Nat} {fr : Fr} {H R : List HP} {G : Act → World → Prop} {α : Type} {E : Enc α} {e : TypeId} {a : Option Addr} {m c : Nat} {xs : List α} {j : Nat}
theorem Ent.osl {cs : List Value} (h : ∀ (a : Option Addr) (m c : Nat), cs = [.slice a m c] → m = xs.length → Ent n w0 L0 fr (ow (Enc.sl e E) [.slice a m c] xs :: R) G) : Ent n w0 L0 fr (ow (Enc.sl e E) cs xs :: R) G := fun ac w h1 h2 => by
  obtain ⟨L, ⟨Lx, LR, rfl, hx, hR⟩, hn, hst⟩ := h2
  obtain ⟨a, m, c, ccs, L1, L2, rfl, hm, hx2⟩ := id hx
  exact h a m c rfl hm ac w h1 ⟨Lx ++ LR, ⟨Lx, LR, rfl, hx, hR⟩, hn, hst⟩
end
theorem B8.has {w1 w0 : World} {L1 L0 : List Nat} {b off : Nat} {cs : List Value} (h : B8 w1 L1 w0 L0) (k : ∀ H, Has w0 L0 H b off cs) : ∀ H, Has w1 L1 H b off cs := fun H w hw => k H w (h H w hw)
theorem frB {a b : Bool} (h : a = b) : some (Value.bool a) = some (Value.bool b) := by rw [h]
end Go.Proofs.Ytdopeopehgdccaa

namespace Go.Proofs.Ytdopeopehgdccaa
set_option linter.unusedVariables false
def s6 (a b : Int) : Int := if a < b then -1 else if b < a then 1 else 0
def l0 : List Int → List Int → Int
  | [], [] => 0
  | [], _ :: _ => -1
  | _ :: _, [] => 1
  | a :: l, b :: m => if s6 a b ≠ 0 then s6 a b else l0 l m
def orI : List Int → Int
  | [] => 0
  | x :: l => if x ≠ 0 then x else orI l
def r6 (a b : Int × List Int) : Int := if s6 a.1 b.1 ≠ 0 then s6 a.1 b.1 else l0 a.2 b.2
theorem a0q {a b : Int} : I64 (s6 a b) := by unfold s6 I64; split; omega; split <;> omega
theorem a0m : ∀ {l m : List Int}, I64 (l0 l m)
  | [], [] => by unfold l0 I64; omega
  | [], _ :: _ => by unfold l0 I64; omega
  | _ :: _, [] => by unfold l0 I64; omega
  | a :: l, b :: m => by unfold l0; split; exact a0q; exact a0m
theorem W7 {a b : Int} : s6 a b = 0 ↔ a = b := by unfold s6; grind
theorem V7 : ∀ {l m : List Int}, l0 l m = 0 ↔ l = m
  | [], [] => by simp [l0]
  | [], _ :: _ => by simp [l0]
  | _ :: _, [] => by simp [l0]
  | a :: l, b :: m => by
    have := W7 (a := a) (b := b)
    have h2 := V7 (l := l) (m := m)
    unfold l0; grind
theorem W8 {a b : Int × List Int} : r6 a b = 0 ↔ a = b := by
  have h1 := W7 (a := a.1) (b := b.1)
  have h2 := V7 (l := a.2) (m := b.2)
  unfold r6
  rcases a with ⟨a1, a2⟩; rcases b with ⟨b1, b2⟩
  grind
/-- slices.EqualFunc -/
def eqP {α : Type} (p : α → α → Bool) : List α → List α → Bool
  | [], [] => true
  | a :: l, b :: m => p a b && eqP p l m
  | _, _ => false
end Go.Proofs.Ytdopeopehgdccaa

namespace Go.Proofs.Ytdopeopehgdccaa
set_option linter.unusedVariables false
def v5 (l : List (Int × List Int)) (f : Int × List Int) : Bool := l.any fun z => decide (r6 z f = 0)
def a2h (a : Int × List Int) (b : List Int × List Int) : Int × List Int := (a.1, a.2.map (a0M b))
def a4v (q : List Int × List (Int × List Int)) (a8 : List (Int × List Int)) (head : List Int) (b : List Int × List Int) : Bool :=
  decide (b.1.length = b.2.length) && (decide (q.1.map (a0M b) = head) && !q.2.any fun a => !v5 a8 (a2h a b))
end Go.Proofs.Ytdopeopehgdccaa

namespace Go.Proofs.Ytdopeopehgdccaa
set_option linter.unusedVariables false
def s9 {α : Type} (r : α → α → Bool) : List α → Bool
  | a :: b :: l => r a b && s9 r (b :: l)
  | _ => true
theorem a1e {α : Type} {l : List α} {g : Nat} (h : g < l.length) (h0 : 0 < g) : l.drop (g - 1) = l[g - 1] :: l[g] :: l.drop (g + 1) := by
  rw [List.drop_eq_getElem_cons (by omega), show g - 1 + 1 = g by omega, List.drop_eq_getElem_cons h]
def ltB (a b : Int) : Bool := decide (a < b)
theorem m7 {α : Type} {r : α → α → Bool} {l : List α} {g : Nat} (h : g < l.length) (h0 : 0 < g) : s9 r (l.drop (g - 1)) = (r l[g - 1] l[g] && s9 r (l.drop g)) := by
  rw [a1e h h0, s9, ← List.drop_eq_getElem_cons h]
theorem m6 {α : Type} {r : α → α → Bool} {l : List α} {g : Nat} (h : g = 0) : s9 r (l.drop (g - 1)) = s9 r (l.drop g) := by subst h; rfl
theorem o5 {α : Type} {r : α → α → Bool} {l : List α} {g : Nat} (h : l.length ≤ g) : s9 r (l.drop (g - 1)) = true := by
  have : (l.drop (g - 1)).length ≤ 1 := by simp; omega
  match l.drop (g - 1), this with
  | [], _ => rfl
  | [x], _ => rfl
  | x :: y :: z, h => simp at h
def a3w (m : Int × List Int × Int × Int × Int) (ar : Int) : Bool :=
  s9 ltB m.2.1 && (F7 m.2.1 ar && (inR m.2.2.1 0 9 && (inR m.2.2.2.1 0 99 && inR m.2.2.2.2 1 99)))
def a2Z (s : List Int) (m : Int × List Int × Int × Int × Int) : Bool := l3 s m.1 && a3w m (at0 s m.1)
def U8 (s : List Int) (l : List (Int × List Int × Int × Int × Int)) : Bool := l2 s && (decide ((l.length : Int) ≤ 5) && !l.any fun m => !a2Z s m)
def a2r (v : List Int) : Bool := s9 ltB v && w5 v
def a4d (l : List (Int × List Int)) (a : Int × List Int) : Bool := l.any fun z => decide (z = a)
def G4 (u6 : List Int) : Nat → List (List Int)
  | 0 => [[]]
  | n + 1 => (G4 u6 n).flatMap fun l => u6.map fun v => l ++ [v]
def V3 (u6 : List Int) (log : List (Int × List Int)) (i : Int) (k : Nat) : List (Int × List Int) :=
  ((G4 u6 k).filter fun v => !a4d log (i, v)).map fun v => (i, v)
def P5 (u6 : List Int) (log : List (Int × List Int)) : List (Int × List Int × Int × Int × Int) → Int → List (Int × List Int)
  | [], _ => []
  | m :: l, i => (if m.2.2.1 ≠ 0 then [] else V3 u6 log i m.2.1.length) ++ P5 u6 log l (i + 1)
def a0h (s : List Int) (l : List (Int × List Int × Int × Int × Int)) (u6 : List Int) (log : List (Int × List Int)) : List (Int × List Int) :=
  if U8 s l && a2r u6 then P5 u6 log l 0 else []
end Go.Proofs.Ytdopeopehgdccaa

namespace Go.Proofs.Ytdopeopehgdccaa
set_option linter.unusedVariables false
/-- f ahead of the first element of which p is true; nothing if there is none -/
def a1A {α : Type} (p : α → Bool) (f : α) : List α → List α
  | [] => []
  | x :: l => if p x then f :: x :: l else x :: a1A p f l
def a1T {α : Type} (has : Bool) (p : α → Bool) (f : α) (l : List α) : List α := if has then l else if l.any p then a1A p f l else l ++ [f]
section
variable {α : Type} {p q : α → Bool} {f : α}
end
/-- the numbers of a list, each once, ascending -/
def Q3 (l : List Int) (x : Int) : Bool := l.any fun y => decide (y = x)
def a2Q (l : List Int) (x : Int) : List Int := a1T (Q3 l x) (fun y => decide (x < y)) x l
def a2L (l : List Int) : List Int := l.foldl a2Q []
end Go.Proofs.Ytdopeopehgdccaa

namespace Go.Proofs.Ytdopeopehgdccaa
set_option linter.unusedVariables false
def N3 (is : Int → Bool) (o7 : List (Int × List Int)) : List Int := a2L ((o7.flatMap fun a => a.2).filter is)
def a2y (t : Int) : Bool := inR t 0 9 || inR t 10 17
def a1k (s : List Int) (a : Int × List Int) : Bool := l3 s a.1 && (decide ((a.2.length : Int) = at0 s a.1) && !a.2.any fun t => !a2y t)
def a2R (q : List Int × List (Int × List Int)) : Bool := decide ((q.1.length : Int) ≤ 3) && !q.1.any fun t => !Q3 (N3 (fun t => inR t 10 17) q.2) t
def U0 (s : List Int) (q : List Int × List (Int × List Int)) : Bool := l2 s && (inR (q.2.length : Int) 1 4 && ((!q.2.any fun a => !a1k s a) && a2R q))
def a3Q (s : List Int) (u : List (List Int × List (Int × List Int))) (q : List Int × List (Int × List Int)) : Bool := !U0 s q || decide ((q.1.length : Int) ≠ ((u.getD 0 ([], [])).1.length : Int))
def a2u (s : List Int) (u : List (List Int × List (Int × List Int))) : Bool := inR (u.length : Int) 1 3 && !u.any (a3Q s u)
def a4m (s : List Int) (g : (List Int × List (Int × List Int)) × List (Int × List Int)) : Bool :=
  U0 s g.1 && (decide ((g.2.length : Int) ≤ 4) && ((!g.2.any fun a => !a1k s a) && !(N3 (fun t => inR t 10 17) g.2).any fun t => !Q3 (N3 (fun t => inR t 10 17) g.1.2) t))
end Go.Proofs.Ytdopeopehgdccaa

namespace Go.Proofs.Ytdopeopehgdccaa
set_option linter.unusedVariables false
def ltF (a b : Int × List Int) : Bool := decide (r6 a b < 0)
def a0L (l : List (Int × List Int)) (f : Int × List Int) : List (Int × List Int) := a1T (v5 l f) (ltF f) f l
/-- what AddFact has put together of the first elements -/
def a4B {α : Type} (h : Bool) (p : α → Bool) (f : α) (l : List α) : List α := if h then l else a1A p f l
/-- the facts from g on are valid, and ascending from the one ahead of g on -/
def x7 (s : List Int) (l : List (Int × List Int)) (g : Nat) : Bool := (l.drop g).all (j5 s) && s9 ltF (l.drop (g - 1))
def j0 (s : List Int) (l : List (Int × List Int)) : Bool := x7 s l 0 && (l2 s && decide ((l.length : Int) ≤ 24))
/-- a rule at a fact: what it demands, if that is not there -/
def a3C (a8 : List (Int × List Int)) (f : Int × List Int) (out : List (Int × List Int)) (r : Int × Int × List Int) : List (Int × List Int) :=
  if f.1 = r.1 then (if v5 a8 (r.2.1, f7 r.2.2 f.2) then out else a0L out (r.2.1, f7 r.2.2 f.2)) else out
def a3r (l : List (Int × Int × List Int)) (a8 : List (Int × List Int)) (out : List (Int × List Int)) (f : Int × List Int) : List (Int × List Int) := l.foldl (a3C a8 f) out
def a2g (l : List (Int × Int × List Int)) (a8 : List (Int × List Int)) : List (Int × List Int) := a8.foldl (a3r l a8) []
end Go.Proofs.Ytdopeopehgdccaa

namespace Go.Proofs.Ytdopeopehgdccaa
set_option linter.unusedVariables false
set_option linter.unusedSimpArgs false
theorem B6 {s : List Int} {l : List (Int × Int × List Int)} (h : g0 s l = true) : l2 s = true ∧ l.length ≤ 4 ∧ ∀ r ∈ l, g9 s r = true := by
  simp only [g0, Bool.and_eq_true, decide_eq_true_eq, Bool.not_eq_true', List.any_eq_false, Bool.not_eq_true] at h
  exact ⟨h.1, by omega, fun r hr => by have := h.2.2 r hr; simpa using this⟩
theorem I6 {s : List Int} {l : List (Int × List Int)} (h : j0 s l = true) : l.length ≤ 24 ∧ ∀ f ∈ l, j5 s f = true := by
  simp only [j0, x7, List.drop_zero, Bool.and_eq_true, decide_eq_true_eq, List.all_eq_true] at h
  exact ⟨by omega, h.1.1⟩
theorem F9 {s : List Int} {f : Int × List Int} (h : j5 s f = true) : f.2.length ≤ 3 := by
  simp only [j5, Bool.and_eq_true, decide_eq_true_eq] at h
  have := w2 h.1
  simp only [at0] at h; omega
theorem R9 {v : List Int} (h : w5 v = true) : ∀ x ∈ v, 0 ≤ x ∧ x ≤ 9 := by
  simp only [w5, Bool.not_eq_true', List.any_eq_false, Bool.not_eq_true] at h
  intro x hx
  have := h x hx
  simp [inR] at this; omega
theorem a1o {v : List Int} (h : ∀ x ∈ v, 0 ≤ x ∧ x ≤ 9) : w5 v = true := by
  simp only [w5, Bool.not_eq_true', List.any_eq_false, Bool.not_eq_true]
  intro x hx
  have := h x hx
  simp [inR]; omega
/-- what a valid rule makes of a valid fact is valid -/
theorem a0P {s : List Int} {r : Int × Int × List Int} {f : Int × List Int} (h1 : g9 s r = true) (h2 : j5 s f = true) (e : f.1 = r.1) : j5 s (r.2.1, f7 r.2.2 f.2) = true := by
  have h3 := N7 h1 h2 e
  simp only [g9, j5, Bool.and_eq_true, decide_eq_true_eq] at h1 h2 ⊢
  refine ⟨h1.2.1, by rw [a1D]; exact h1.2.2.1, a1o fun x hx => ?_⟩
  simp only [f7, List.mem_map] at hx
  obtain ⟨i, hi, rfl⟩ := hx
  have h4 := h3 i hi
  rw [m5 (show i.toNat < f.2.length by omega)]
  exact R9 h2.2.2 _ (List.getElem_mem _)
def a4w (s : List Int) (l : List (Int × Int × List Int)) (a8 : List (Int × List Int)) : List (Int × List Int) := if g0 s l && j0 s a8 then a2g l a8 else []
/- the closure -/
def O0 (l : List (Int × Int × List Int)) (a8 : List (Int × List Int)) : Nat → List (Int × List Int)
  | 0 => a8
  | n + 1 => (a2g l (O0 l a8 n)).foldl a0L (O0 l a8 n)
def a2I (l : List (Int × Int × List Int)) (a8 : List (Int × List Int)) : List (Int × List Int) := O0 l a8 6001
theorem Q7 : ∀ {n : Nat} {l : List Nat}, l.Nodup → (∀ x ∈ l, x < n) → l.length ≤ n
  | 0, l, _, h => by
    cases l with
    | nil => simp
    | cons x l => exact absurd (h x (by simp)) (by omega)
  | n + 1, l, hd, h => by
    by_cases hm : n ∈ l
    · have h1 := Q7 (n := n) (l := l.erase n) (hd.erase n) fun x hx => by
        have h2 := (hd.mem_erase_iff).1 hx
        have := h x h2.2; omega
      rw [List.length_erase_of_mem hm] at h1; omega
    · have h1 := Q7 (n := n) (l := l) hd fun x hx => by
        have h2 := h x hx
        have : x ≠ n := fun e => hm (e ▸ hx)
        omega
      omega
def E7 : List Int → Nat
  | [] => 0
  | v :: l => (v.toNat + 1) + 11 * E7 l
theorem V9 : ∀ {a b : List Int}, (∀ x ∈ a, 0 ≤ x ∧ x ≤ 9) → (∀ x ∈ b, 0 ≤ x ∧ x ≤ 9) → E7 a = E7 b → a = b
  | [], [], _, _, _ => rfl
  | [], y :: b, _, _, h => by simp [E7] at h; omega
  | x :: a, [], _, _, h => by simp [E7] at h
  | x :: a, y :: b, ha, hb, h => by
    have h1 := ha x (by simp)
    have h2 := hb y (by simp)
    simp only [E7] at h
    rw [V9 (a := a) (b := b) (fun z hz => ha z (by simp [hz])) (fun z hz => hb z (by simp [hz])) (by omega), show x = y by omega]
theorem a0j : ∀ {n : Nat} {a : List Int}, (∀ x ∈ a, 0 ≤ x ∧ x ≤ 9) → a.length ≤ n → E7 a < 11 ^ n
  | n, [], _, _ => by simp [E7]; exact Nat.pow_pos (by decide)
  | 0, x :: a, _, h => by simp at h
  | n + 1, x :: a, ha, h => by
    have h1 := a0j (n := n) (a := a) (fun z hz => ha z (by simp [hz])) (by simpa using h)
    have h2 := ha x (by simp)
    simp only [E7, Nat.pow_succ]; omega
def a0Z (f : Int × List Int) : Nat := f.1.toNat + 4 * E7 f.2
theorem K5 {s : List Int} {f : Int × List Int} (h : j5 s f = true) : 0 ≤ f.1 ∧ f.1 < 4 := by
  simp only [j5, Bool.and_eq_true, decide_eq_true_eq] at h
  have h1 := w2 h.1
  have h2 := h.1
  simp only [l3, l2, inR, Bool.and_eq_true, decide_eq_true_eq] at h2
  omega
theorem I8 {s : List Int} {f : Int × List Int} (h : j5 s f = true) : ∀ x ∈ f.2, 0 ≤ x ∧ x ≤ 9 := by
  simp only [j5, Bool.and_eq_true] at h
  exact R9 h.2.2
theorem a1g {s : List Int} {D : List (Int × List Int)} (hd : D.Nodup) (h : ∀ f ∈ D, j5 s f = true) : D.length ≤ 5324 := by
  have h1 : (D.map a0Z).Nodup := by
    unfold List.Nodup at hd ⊢
    rw [List.pairwise_map]
    refine List.Pairwise.imp_of_mem (fun {a b} ha hb hab e => hab ?_) hd
    have ra := K5 (h a ha)
    have rb := K5 (h b hb)
    simp only [a0Z] at e
    have e2 := V9 (I8 (h a ha)) (I8 (h b hb)) (by omega)
    exact Prod.ext (by omega) e2
  have h2 := Q7 (n := 5324) h1 fun x hx => by
    obtain ⟨f, hf, rfl⟩ := List.mem_map.1 hx
    have r := K5 (h f hf)
    have c := a0j (n := 3) (I8 (h f hf)) (F9 (h f hf))
    unfold a0Z; omega
  simpa using h2
theorem a1N {l : List (Int × List Int)} {f : Int × List Int} : v5 l f = true ↔ f ∈ l := by
  unfold v5
  rw [List.any_eq_true]
  constructor
  · rintro ⟨x, hx, e⟩
    rw [decide_eq_true_eq, W8] at e
    exact e ▸ hx
  · intro h
    exact ⟨f, h, by rw [decide_eq_true_eq, W8]⟩
def a4b (s : List Int) (x D : List (Int × List Int)) : Prop := D.Nodup ∧ (∀ f ∈ D, f ∈ x) ∧ x.length ≤ 24 + D.length ∧ ∀ f ∈ x, j5 s f = true
def a4A (l : List (Int × Int × List Int)) (a8 : List (Int × List Int)) (n : Nat) : Prop := ∃ s, g0 s l = true ∧ ∃ D, a4b s (O0 l a8 n) D ∧ n ≤ D.length
def a4o (s : List Int) (l : List (Int × Int × List Int)) (a8 : List (Int × List Int)) : List (Int × List Int) := if g0 s l && j0 s a8 then a2I l a8 else []
end Go.Proofs.Ytdopeopehgdccaa

namespace Go.Proofs.Ytdopeopehgdccaa
set_option linter.unusedVariables false
set_option linter.unusedSimpArgs false
/-- no value for t -/
def unb (b : List Int × List Int) (t : Int) : Bool := !(b.1.take (min b.1.length b.2.length)).any fun x => decide (x = t)
def a1G (x : List Int × List Int) (t v : Int) : List Int × List Int := if inR t 10 17 && unb x t then (x.1 ++ [t], x.2 ++ [v]) else x
def a3y (b : List Int × List Int) (l : List (Int × Int)) : List Int × List Int := l.foldl (fun x p => a1G x p.1 p.2) b
def okV (b : List Int × List Int) : List (Int × Int) → Bool
  | [] => true
  | p :: l => decide (a0M (a1G b p.1 p.2) p.1 = p.2) && okV (a1G b p.1 p.2) l
def a2G (b : List Int × List Int) (a f : Int × List Int) : Bool := decide (a.1 = f.1) && (decide (a.2.length = f.2.length) && (decide (b.1.length = b.2.length) && okV b (a.2.zip f.2)))
def a2V (b : List Int × List Int) (a f : Int × List Int) : List Int × List Int := a3y b (a.2.zip f.2)
/- all bindings -/
def a3P (b : List Int × List Int) (a : Int × List Int) (a8 : List (Int × List Int)) : List (List Int × List Int) := (a8.filter (a2G b a)).map (a2V b a)
def a3R (l : List (List Int × List Int)) (a : Int × List Int) (a8 : List (Int × List Int)) : List (List Int × List Int) := l.flatMap fun b => a3P b a a8
def a3c (o7 : List (Int × List Int)) (a8 : List (Int × List Int)) : List (List Int × List Int) := o7.foldl (fun l a => a3R l a a8) [([], [])]
/- tuples in order, each once -/
def a4c (l : List (List Int)) (t : List Int) : Bool := l.any fun x => decide (x = t)
def ltT (a b : List Int) : Bool := decide (l0 a b < 0)
def a2X (l : List (List Int)) (t : List Int) : List (List Int) := a1T (a4c l t) (ltT t) t l
def a3U (h : List Int) (l : List (List Int × List Int)) : List (List Int) := l.foldl (fun out b => a2X out (h.map (a0M b))) []
def a3M (s : List Int) (q : List Int × List (Int × List Int)) (a8 : List (Int × List Int)) : List (List Int) := if U0 s q && j0 s a8 then a3U q.1 (a3c q.2 a8) else []
end Go.Proofs.Ytdopeopehgdccaa

namespace Go.Proofs.Ytdopeopehgdccaa
set_option linter.unusedVariables false
set_option linter.unusedSimpArgs false
/-- the first number from v on that is not in u (u holds numbers below 10) -/
def nxt (u : List Int) : Nat → Nat → Nat
  | 0, v => v
  | n + 1, v => if Q3 u (v : Int) then nxt u n (v + 1) else v
def a0U (u : List Int) (v : Nat) : Nat := nxt u 11 v
/-- the number from which the search for the g-th variable's value starts -/
def fzN (u : List Int) : Nat → Nat
  | 0 => 0
  | g + 1 => a0U u (fzN u g) + 1
def a3k (u : List Int) (n : Nat) : Bool := (List.range n).all fun i => decide (a0U u (fzN u i) ≤ 9)
def a2W (u : List Int) (n : Nat) : List Int := (List.range n).map fun i => (a0U u (fzN u i) : Int)
def S2 (o7 : List (Int × List Int)) : List Int := N3 (fun t => inR t 10 17) o7
def a4u (o7 : List (Int × List Int)) : List Int := N3 (fun t => inR t 0 9) o7
def a4e (o7 : List (Int × List Int)) (b : List Int × List Int) : List (Int × List Int) := o7.foldl (fun out a => a0L out (a2h a b)) []
def fzB (u : List Int) (o7 : List (Int × List Int)) : Bool := a3k u (S2 o7).length
def fzV (u : List Int) (o7 : List (Int × List Int)) : List Int := cond (fzB u o7) (S2 o7) []
def fzX (u : List Int) (o7 : List (Int × List Int)) : List Int := cond (fzB u o7) (a2W u (S2 o7).length) []
def fzF (u : List Int) (o7 : List (Int × List Int)) : List (Int × List Int) := cond (fzB u o7) (a4e o7 (S2 o7, a2W u (S2 o7).length)) []
end Go.Proofs.Ytdopeopehgdccaa
