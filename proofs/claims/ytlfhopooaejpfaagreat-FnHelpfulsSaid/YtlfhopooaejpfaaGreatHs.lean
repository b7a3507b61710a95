import Derived.Test.YtlfhopooaejpfaaGreatBu
import Derived.Test.YtlfhopooaejpfaaGreatHr
section
namespace Go.Proofs.YtlfhopooaejpfaaGreat
open Go.RowKit
set_option linter.unusedVariables false
set_option linter.unusedSimpArgs false
section
variable {P : Program} {n : Nat} {fr : Fr}
theorem a9Y {x y : Operand} {T U : TypeId} {b : Nat} (hx : ev fr x = some (.int .i64 1)) (hy : ev fr y = some (.int .i64 (b : Int))) (hb : b ≤ 5) : Yp P n fr (.binOp .shl T x y U) (.int .i64 ((2 ^ b : Nat) : Int)) := fun ac h w' d t p af g => by
 have e : ∀ b : Nat, b ≤ 5 → IntKind.i64.wrap (1 * 2 ^ min (b : Int).toNat IntKind.i64.bits) = ((2 ^ b : Nat) : Int) := by
  intro b hb
  have : b = 0 ∨ b = 1 ∨ b = 2 ∨ b = 3 ∨ b = 4 ∨ b = 5 := by omega
  rcases this with rfl | rfl | rfl | rfl | rfl | rfl <;> decide
 have e3 : Op.shift .shl .i64 1 .i64 (b : Int) = pure (.int .i64 ((2 ^ b : Nat) : Int)) := by
  unfold Op.shift
  rw [if_neg (by omega)]
  show pure (Value.int .i64 (IntKind.i64.wrap (1 * 2 ^ min (b : Int).toNat IntKind.i64.bits))) = _
  rw [e b hb]
 simp [execOp, h.ev hx, h.ev hy, eqGuard_shl, binOp_shl, e3]
 try (
  have : b = 0 ∨ b = 1 ∨ b = 2 ∨ b = 3 ∨ b = 4 ∨ b = 5 := by omega
  rcases this with rfl | rfl | rfl | rfl | rfl | rfl <;> decide)
theorem c0G {x y : Operand} {T U e : TypeId} {a : Option Addr} {l c : Nat} (hT : P.underlying T = some (.slice e)) (hx : ev fr x = some (.slice a l c)) (hy : ev fr y = some (.slice none 0 0)) : Yp P n fr (.binOp .neq T x y U) (.bool (!a.isNone)) := fun ac h w' d t p af g => by
 have e2 : Sem.run P (Op.equal T (.slice a l c) (.slice none 0 0)) w' = .ok a.isNone w' := run_equalIn_slice_nil w' 9999 T e a l c hT
 simp [execOp, h.ev hx, h.ev hy, eqGuard, binOp, e2]
end
abbrev HS := List Int × Bool
def a6t (m i : Nat) : Bool := decide (X8 ((m : Int) / 2 ^ i) 1 = 1)
def B5 (m n : Nat) : List Int := ((List.range n).filter (a6t m)).map fun i : Nat => (i : Int)
def Y7 (a b : List Int) : Bool := if (a.length : Int) ≠ (b.length : Int) then decide ((a.length : Int) < (b.length : Int)) else ltT a b
def hmS (F : List Int → Bool) (σ : HS) (x : List Int) : HS := cond ((!σ.2 || Y7 x σ.1) && F x) (x, true) σ
def hmI (F : List Int → Bool) (n : Nat) : Nat → HS
 | 0 => ([], false)
 | m + 1 => hmS F (hmI F n m) (B5 m n)
def dM : Int × List Int × Int × Int × Int := (0, [], 0, 0, 0)
def dMB : Int × (Option Addr × Nat × Nat) × Int × Int × Int := (0, (none, 0, 0), 0, 0, 0)
def selM {α : Type} (d : α) (l : List α) (x : List Int) : List α := x.map fun i => l.getD i.toNat d
section
variable {F : List Int → Bool} {σ : HS} {x : List Int} {m n i g : Nat} {a b : List Int}
theorem a9w (h : X8 ((m : Int) / 2 ^ i) 1 = 1) : B5 m i ++ [(i : Int)] = B5 m (i + 1) := by
 unfold B5
 rw [List.range_succ, List.filter_append, List.map_append]
 congr 1
 rw [List.filter_cons_of_pos (by unfold a6t; exact decide_eq_true h)]; rfl
theorem a9B (h : ¬ X8 ((m : Int) / 2 ^ i) 1 = 1) : B5 m i = B5 m (i + 1) := by
 unfold B5
 rw [List.range_succ, List.filter_append, List.map_append, List.filter_cons_of_neg (by unfold a6t; rw [decide_eq_false h]; decide)]; simp
theorem a2o : (B5 m n).length ≤ n := by
 unfold B5
 rw [List.length_map]
 have := List.length_filter_le (a6t m) (List.range n)
 simpa using this
theorem a2t {j : Int} (h : j ∈ B5 m n) : 0 ≤ j ∧ j < (n : Int) := by
 unfold B5 at h
 obtain ⟨i, hi, rfl⟩ := List.mem_map.1 h
 have := List.mem_range.1 (List.mem_filter.1 hi).1
 omega
theorem a1h (h : (a.length : Int) < b.length) : Y7 a b = true := by unfold Y7; rw [if_pos (by omega)]; exact decide_eq_true h
theorem a0n (h1 : (a.length : Int) = b.length) (h2 : J7 a b < 0) : Y7 a b = true := by unfold Y7; rw [if_neg (by omega)]; exact decide_eq_true h2
theorem a0o (h : ¬ (a.length : Int) < b.length) (h1 : ¬ (a.length : Int) = b.length) : Y7 a b = false := by unfold Y7; rw [if_pos h1]; exact decide_eq_false h
theorem a0p (h1 : (a.length : Int) = b.length) (h2 : ¬ J7 a b < 0) : Y7 a b = false := by unfold Y7; rw [if_neg (by omega)]; exact decide_eq_false h2
theorem N9 (h1 : (hmI F n m).2 = false) (h2 : F (B5 m n) = true) : hmI F n (m + 1) = (B5 m n, true) := by rw [hmI, hmS, h1, h2]; rfl
theorem I8 (h1 : Y7 (B5 m n) (hmI F n m).1 = true) (h2 : F (B5 m n) = true) : hmI F n (m + 1) = (B5 m n, true) := by rw [hmI, hmS, h1, h2, Bool.or_true]; rfl
theorem I9 (h1 : (hmI F n m).2 = true) (h : Y7 (B5 m n) (hmI F n m).1 = false) : hmI F n (m + 1) = hmI F n m := by rw [hmI, hmS, h1, h]; rfl
theorem N8 (h : F (B5 m n) = false) : hmI F n (m + 1) = hmI F n m := by rw [hmI, hmS, h, Bool.and_false]; rfl
theorem a5Q : ∀ {m : Nat}, (∀ i ∈ (hmI F n m).1, 0 ≤ i ∧ i < (n : Int)) ∧ (hmI F n m).1.length ≤ n
 | 0 => ⟨fun i h => (by cases h), Nat.zero_le _⟩
 | m + 1 => by
  have ih := a5Q (m := m)
  rw [hmI, hmS]
  cases (!(hmI F n m).2 || Y7 (B5 m n) (hmI F n m).1) && F (B5 m n)
  ·exact ih
  ·exact ⟨fun i h => a2t h, a2o⟩
theorem a6r {α : Type} {d : α} {l : List α} (hg : g < x.length) (hx : x[g].toNat < l.length) : selM d l (x.take g) ++ [l[x[g].toNat]] = selM d l (x.take (g + 1)) := by
 unfold selM
 rw [List.take_succ_eq_append_getElem hg, List.map_append]
 congr 1
 simp [List.getD, hx]
theorem Bor.selM {α β : Type} {E : Enc α} {f : β → List Value} {w : World} {L : List Nat} {ys : List β} {xs : List α} {d : β} {d' : α} (h : Bor w L E f ys xs) : ∀ {is : List Int}, (∀ i ∈ is, i.toNat < ys.length) → Bor w L E f (selM d ys is) (selM d' xs is)
 | [], _ => trivial
 | i :: is, hi => by
  have h1 := hi i (List.mem_cons_self ..)
  have h2 : i.toNat < xs.length := by rw [← h.len]; exact h1
  refine ⟨?_, Bor.selM h fun j hj => hi j (List.mem_cons_of_mem _ hj)⟩
  have := h.get i.toNat h1 h2
  simpa [List.getD, h1, h2] using this
end
def O9 (s : List Int) (l : List Mth) (d4 : List Rul) (q : List Int × List (Int × List Int)) (x : List Int) : Bool := X9 s (selM dM l x) d4 q
def a5E (s : List Int) (l : List Mth) (d4 : List Rul) (q : List Int × List (Int × List Int)) : Bool := (C0 s l && C4 s d4) && (hmI (O9 s l d4 q) l.length (2 ^ l.length)).2
def a5I (s : List Int) (l : List Mth) (d4 : List Rul) (q : List Int × List (Int × List Int)) : List Int := cond (C0 s l && C4 s d4) (hmI (O9 s l d4 q) l.length (2 ^ l.length)).1 []
section
variable {s : List Int} {l : List Mth} {d4 : List Rul} {q : List Int × List (Int × List Int)}
theorem a3X {x : List Int} : X9 s (selM dM l x) d4 q = O9 s l d4 q x := rfl
theorem a1f (h : (C0 s l && C4 s d4) = false) : [] = a5I s l d4 q ∧ false = a5E s l d4 q := by rw [a5I, a5E, h]; exact ⟨rfl, rfl⟩
theorem a1g (h : (C0 s l && C4 s d4) = true) : (hmI (O9 s l d4 q) l.length (2 ^ l.length)).1 = a5I s l d4 q ∧ (hmI (O9 s l d4 q) l.length (2 ^ l.length)).2 = a5E s l d4 q := by rw [a5I, a5E, h]; exact ⟨rfl, rfl⟩
theorem c0s (h : (C0 s l && C4 s d4) = true) : l.length ≤ 5 := (a3T (Bool.and_eq_true_iff.1 h).1).2
end
end Go.Proofs.YtlfhopooaejpfaaGreat
end
section
namespace Go.Proofs.YtlfhopooaejpfaaGreat
set_option linter.unusedVariables false
set_option linter.unusedSimpArgs false
section
variable {F : List Int → Bool} {m n k g : Nat} {x : List Int} {a b : List Int}
theorem c1k (h : Y7 a b = true) : a.length ≤ b.length := by
 unfold Y7 at h
 split at h
 ·have := of_decide_eq_true h; omega
 ·omega
theorem c1m (h : Y7 a b = false) : b.length ≤ a.length := by
 unfold Y7 at h
 split at h
 ·have := of_decide_eq_false h; omega
 ·omega
theorem b2a : ∀ {m : Nat}, ((hmI F n m).2 = true → (∃ k, k < m ∧ (hmI F n m).1 = B5 k n) ∧ F (hmI F n m).1 = true ∧ ∀ k, k < m → F (B5 k n) = true → (hmI F n m).1.length ≤ (B5 k n).length) ∧ ((hmI F n m).2 = false → ∀ k, k < m → F (B5 k n) = false)
 | 0 => ⟨fun h => by simp [hmI] at h, fun _ k hk => absurd hk (by omega)⟩
 | m + 1 => by
  obtain ⟨ih1, ih2⟩ := b2a (m := m)
  rw [hmI, hmS]
  cases hc : (!(hmI F n m).2 || Y7 (B5 m n) (hmI F n m).1) && F (B5 m n) with
  | true =>
   rw [Bool.and_eq_true] at hc
   refine ⟨fun _ => ⟨⟨m, by omega, rfl⟩, hc.2, fun k hk hF => ?_⟩, fun h => by cases h⟩
   show (B5 m n).length ≤ _
   rcases Nat.lt_or_ge k m with h | h
   ·cases h2 : (hmI F n m).2 with
    | false => rw [ih2 h2 k h] at hF; cases hF
    | true =>
     rw [h2] at hc
     have h3 := c1k (show Y7 (B5 m n) (hmI F n m).1 = true by simpa using hc.1)
     exact Nat.le_trans h3 ((ih1 h2).2.2 k h hF)
   ·have : k = m := by omega
    subst this; exact Nat.le_refl _
  | false =>
   rw [cond_false]
   refine ⟨fun h2 => ?_, fun h2 k hk => ?_⟩
   ·obtain ⟨⟨k0, h3, h4⟩, h5, h6⟩ := ih1 h2
    refine ⟨⟨k0, by omega, h4⟩, h5, fun k hk hF => ?_⟩
    rcases Nat.lt_or_ge k m with h | h
    ·exact h6 k h hF
    ·have : k = m := by omega
     subst this
     rw [h2, hF, Bool.and_true] at hc
     exact c1m (by simpa using hc)
   ·rcases Nat.lt_or_ge k m with h | h
    ·exact ih2 h2 k h
    ·have : k = m := by omega
     subst this
     rw [h2] at hc
     simpa using hc
theorem b2S : (hmI F n m).2 = true ↔ ∃ k, k < m ∧ F (B5 k n) = true := by
 constructor
 ·intro h
  obtain ⟨⟨k, h1, h2⟩, h3, _⟩ := b2a.1 h
  exact ⟨k, h1, by rw [← h2]; exact h3⟩
 ·rintro ⟨k, h1, h2⟩
  cases h : (hmI F n m).2 with
  | true => rfl
  | false => rw [b2a.2 h k h1] at h2; cases h2
end
def b5s (a b : Int) : Int := IntKind.i64.wrap ((BitVec.ofInt 64 a ||| BitVec.ofInt 64 b).toNat : Int)
theorem c1w {P : Program} {n : Nat} {fr : Fr} {x y : Operand} {T U : TypeId} {a b : Int} (hx : ev fr x = some (.int .i64 a)) (hy : ev fr y = some (.int .i64 b)) : Yp P n fr (.binOp .or T x y U) (.int .i64 (b5s a b)) := fun ac h w' d t p af g => by
 simp [execOp, h.ev hx, h.ev hy, eqGuard, binOp, Op.intBits, b5s]
 rfl
def skp (w : List Int) (i : Int) (k : Nat) : List Int := ((List.range k).filter fun j : Nat => decide ((j : Int) ≠ i)).map fun j : Nat => w.getD j 0
def mkM (L : List Int) : Int := L.foldl (fun m w => b5s m ((2 ^ w.toNat : Nat) : Int)) 0
def b7u (n m : Nat) (i : Int) : Bool :=
 decide (B5 (mkM (skp (B5 m n) i (B5 m n).length)).toNat n = skp (B5 m n) i (B5 m n).length) && (decide (0 ≤ mkM (skp (B5 m n) i (B5 m n).length)) && (decide (mkM (skp (B5 m n) i (B5 m n).length) < ((2 ^ n : Nat) : Int)) &&
  (if 0 ≤ i ∧ i < ((B5 m n).length : Int) then decide ((skp (B5 m n) i (B5 m n).length).length < (B5 m n).length) else (if i < 0 then decide (skp (B5 m n) i (B5 m n).length = B5 m n) else true))))
theorem b9j : (List.range 5).all (fun n => (List.range (2 ^ n)).all fun m => (List.range 6).all fun i => b7u n m ((i : Int) - 1)) = true := by decide +kernel
theorem c0z {n m : Nat} {i : Int} (hn : n ≤ 4) (hm : m < 2 ^ n) (h0 : -1 ≤ i) (h1 : i ≤ 4) : b7u n m i = true := by
 have h := List.all_eq_true.1 (List.all_eq_true.1 (List.all_eq_true.1 b9j n (List.mem_range.2 (by omega))) m (List.mem_range.2 hm)) (i + 1).toNat (List.mem_range.2 (by omega))
 rwa [show (((i + 1).toNat : Nat) : Int) - 1 = i from by omega] at h
theorem c0J {P : Program} {n : Nat} {fr : Fr} {x y : Operand} {T U : TypeId} {b : Int} (hx : ev fr x = some (.int .i64 1)) (hy : ev fr y = some (.int .i64 b)) (h0 : 0 ≤ b) (hb : b ≤ 5) : Yp P n fr (.binOp .shl T x y U) (.int .i64 ((2 ^ b.toNat : Nat) : Int)) :=
 a9Y hx (by rw [hy, Int.toNat_of_nonneg h0]) (by omega)
theorem b5M {w : List Int} {i : Int} {k : Nat} (h : (k : Int) ≠ i) (hk : k < w.length) : b5s (mkM (skp w i k)) ((2 ^ (w[k]).toNat : Nat) : Int) = mkM (skp w i (k + 1)) := by
 have e : skp w i (k + 1) = skp w i k ++ [w[k]] := by
  rw [skp, skp, List.range_succ, List.filter_append, List.map_append, List.filter_cons_of_pos (by simpa using h), List.filter_nil, List.map_cons, List.map_nil, R7 hk]
 rw [e, mkM, mkM, List.foldl_append]; rfl
theorem b5U {w : List Int} {i : Int} {k : Nat} (h : (k : Int) = i) : mkM (skp w i k) = mkM (skp w i (k + 1)) := by
 have e : skp w i (k + 1) = skp w i k := by
  rw [skp, skp, List.range_succ, List.filter_append, List.map_append, List.filter_cons_of_neg (by simpa using h), List.filter_nil, List.map_nil, List.append_nil]
 rw [e]
theorem b9Y {rl : List Rul} (h : rl.length ≤ 4 ∧ ∀ r ∈ rl, r.2.2.length ≤ 4) : K2 (fun x : Rul => x.2.2.length) rl ≤ 1048576 := by
 have h3 := a4K (c := fun x : Rul => x.2.2.length) (n := 4) (l := rl) h.2
 unfold K2; omega
def dR : Rul := (0, 0, [])
def dRB : Int × Int × (Option Addr × Nat × Nat) := (0, 0, (none, 0, 0))
section
variable {s : List Int} {l : List Mth} {d4 : List Rul} {q : List Int × List (Int × List Int)} {m n k g : Nat} {i : Int}
theorem b2v {p : Nat → Bool} {L : List Rul} : ∀ {g : Nat}, g ≤ L.length → pick p (L.take g) 0 = ((List.range g).filter p).map fun i => L.getD i dR
 | 0, _ => by simp [pick]
 | g + 1, h => by
  have ih := b2v (p := p) (L := L) (g := g) (by omega)
  rw [List.range_succ, List.filter_append, List.map_append, ← ih]
  cases hp : p g with
  | true => rw [← a7t (by omega) hp, List.filter_cons_of_pos hp, List.filter_nil, List.map_cons, List.map_nil, R7 (by omega)]
  | false => rw [← a5o (by omega) hp, List.filter_cons_of_neg (by rw [hp]; decide), List.filter_nil, List.map_nil, List.append_nil]
theorem a3j (h : d4.length ≤ 20) : a0q d4 (m : Int) = selM dR d4 (B5 m d4.length) := by
 have h1 := b2v (p := W1 (m : Int)) (L := d4) (Nat.le_refl d4.length)
 rw [List.take_length] at h1
 rw [a0q, List.take_of_length_le h, h1, selM, B5, List.map_map]
 have e : W1 (m : Int) = a6t m := by
  funext i
  rw [a2d (by omega)]; rfl
 rw [e]
 refine List.map_congr_left fun i _ => ?_
 simp
theorem c0w {x : List Int} (h : ∀ i ∈ x, 0 ≤ i ∧ i < (d4.length : Int)) : ∀ r ∈ selM dR d4 x, r ∈ d4 := by
 intro r hr
 obtain ⟨i, hi, rfl⟩ := List.mem_map.1 hr
 have := h i hi
 rw [R7 (by omega)]; exact List.getElem_mem _
theorem b7n (h : ∀ i, i < n → a6t m i = true) : B5 m n = (List.range n).map fun i : Nat => (i : Int) := by
 rw [B5, List.filter_eq_self.2 fun i hi => h i (List.mem_range.1 hi)]
theorem b6m : (List.range 5).all (fun n => (List.range n).all fun i => a6t (2 ^ n - 1) i) = true := by decide +kernel
theorem b7s (h : d4.length ≤ 4) : selM dR d4 (B5 (2 ^ d4.length - 1) d4.length) = d4 := by
 rw [b7n fun i hi => List.all_eq_true.1 (List.all_eq_true.1 b6m d4.length (List.mem_range.2 (by omega))) i (List.mem_range.2 hi), selM, List.map_map]
 refine List.ext_getElem (by simp) fun j h1 h2 => ?_
 simp [List.getD, h2]
def R9 (s : List Int) (l : List Mth) (d4 : List Rul) (q : List Int × List (Int × List Int)) (x : List Int) : Bool := X9 s l (selM dR d4 x) q
def a1u (s : List Int) (l : List Mth) (d4 : List Rul) (q : List Int × List (Int × List Int)) : Bool := (C0 s l && C4 s d4) && (hmI (R9 s l d4 q) d4.length (2 ^ d4.length)).2
def W8 (s : List Int) (l : List Mth) (d4 : List Rul) (q : List Int × List (Int × List Int)) : List Int := cond (C0 s l && C4 s d4) (hmI (R9 s l d4 q) d4.length (2 ^ d4.length)).1 []
theorem a2S {x : List Int} : X9 s l (selM dR d4 x) q = R9 s l d4 q x := rfl
theorem b6d (h : C4 s d4 = true) : K2 (fun x : Rul => x.2.2.length) d4 ≤ 1048576 := by
 obtain ⟨_, h1, h2⟩ := W5 h
 have h3 := a4K (c := fun x : Rul => x.2.2.length) (n := 3) (l := d4) fun r hr => b2u (h2 r hr)
 unfold K2; omega
theorem a1c (h : (C0 s l && C4 s d4) = false) : [] = W8 s l d4 q ∧ false = a1u s l d4 q := by rw [W8, a1u, h]; exact ⟨rfl, rfl⟩
theorem a0K (h : (C0 s l && C4 s d4) = true) : (hmI (R9 s l d4 q) d4.length (2 ^ d4.length)).1 = W8 s l d4 q ∧ (hmI (R9 s l d4 q) d4.length (2 ^ d4.length)).2 = a1u s l d4 q := by rw [W8, a1u, h]; exact ⟨rfl, rfl⟩
theorem c0c : (W8 s l d4 q).length ≤ d4.length ∧ ∀ i ∈ W8 s l d4 q, 0 ≤ i ∧ i < (d4.length : Int) := by
 rw [W8]
 cases C0 s l && C4 s d4
 ·exact ⟨Nat.zero_le _, fun i h => (by cases h)⟩
 ·exact ⟨a5Q.2, a5Q.1⟩
theorem b7J (hm : C0 s l = true) (hr : C4 s d4 = true) : a1u s l d4 q = X9 s l d4 q := by
 have h4 := (W5 hr).2.1
 have e : a1u s l d4 q = (hmI (R9 s l d4 q) d4.length (2 ^ d4.length)).2 := by rw [a1u, hm, hr]; rfl
 rw [e]
 cases hf : X9 s l d4 q with
 | true =>
  refine b2S.2 ⟨2 ^ d4.length - 1, by have := Nat.two_pow_pos d4.length; omega, ?_⟩
  rw [R9, b7s h4]; exact hf
 | false =>
  cases h : (hmI (R9 s l d4 q) d4.length (2 ^ d4.length)).2 with
  | false => rfl
  | true =>
   obtain ⟨k, h1, h2⟩ := b2S.1 h
   rw [R9] at h2
   rw [b6z hr (c0w fun i hi => a2t hi) h2] at hf; cases hf
theorem b9Z (h : a1u s l d4 q = true) (h0 : -1 ≤ i) (h1 : i < ((W8 s l d4 q).length : Int)) : X9 s l (a0q d4 (mkM (skp (W8 s l d4 q) i (W8 s l d4 q).length))) q = decide (i < 0) := by
 have hb := h
 rw [a1u, Bool.and_eq_true] at hb
 have hok := hb.1
 have h4 := (W5 (Bool.and_eq_true_iff.1 hok).2).2.1
 obtain ⟨⟨m, hm1, hm2⟩, hF, hmin⟩ := b2a.1 hb.2
 rw [← (a0K hok).1] at h1 ⊢
 rw [hm2] at h1 hF hmin ⊢
 have hlen := a2o (m := m) (n := d4.length)
 have hc := c0z h4 hm1 h0 (by omega)
 simp only [b7u, Bool.and_eq_true, decide_eq_true_eq] at hc
 obtain ⟨c1, c2, c3, c4⟩ := hc
 generalize skp (B5 m d4.length) i (B5 m d4.length).length = L at c1 c2 c3 c4 ⊢
 obtain ⟨k, hk⟩ := Int.eq_ofNat_of_zero_le c2
 rw [hk] at c1 c3 ⊢
 have c1' : B5 k d4.length = L := c1
 have c3' : k < 2 ^ d4.length := Int.ofNat_lt.1 c3
 show X9 s l (a0q d4 (k : Int)) q = _
 rw [a3j (by omega), a2S, c1']
 by_cases hi : i < 0
 ·rw [if_neg (by omega), if_pos hi, decide_eq_true_eq] at c4
  rw [c4, hF, decide_eq_true hi]
 ·rw [if_pos ⟨by omega, h1⟩, decide_eq_true_eq] at c4
  rw [decide_eq_false hi]
  cases hL : R9 s l d4 q L with
  | false => rfl
  | true =>
   have := hmin k c3' (by rw [c1']; exact hL)
   rw [c1'] at this; omega
end
end Go.Proofs.YtlfhopooaejpfaaGreat
end
