import Derived.Test.YtdopeopehgdccaaGreatBu
import Derived.Test.YtdopeopehgdccaaGreatEn
namespace Go.Proofs.YtdopeopehgdccaaGreat
open Go.RowKit
set_option linter.unusedVariables false
set_option linter.unusedSimpArgs false
section
variable {P : Program} {n : Nat} {fr : Fr}
theorem Y.shl1 {x y : Operand} {T U : TypeId} {b : Nat} (hx : ev fr x = some (.int .i64 1)) (hy : ev fr y = some (.int .i64 (b : Int))) (hb : b ≤ 5) : Yp P n fr (.binOp .shl T x y U) (.int .i64 ((2 ^ b : Nat) : Int)) := fun ac h w' d t p af g => by
  have e : ∀ b : Nat, b ≤ 5 → IntKind.i64.wrap (1 * 2 ^ min (b : Int).toNat IntKind.i64.bits) = ((2 ^ b : Nat) : Int) := by
    intro b hb
    have : b = 0 ∨ b = 1 ∨ b = 2 ∨ b = 3 ∨ b = 4 ∨ b = 5 := by omega
    rcases this with rfl | rfl | rfl | rfl | rfl | rfl <;> decide
  have e3 : Op.shift .shl .i64 1 .i64 (b : Int) = pure (.int .i64 ((2 ^ b : Nat) : Int)) := by
    unfold Op.shift
    rw [if_neg (by omega)]
    show pure (Value.int .i64 (IntKind.i64.wrap (1 * 2 ^ min (b : Int).toNat IntKind.i64.bits))) = _
    rw [e b hb]
  simp [execOp, h.ev hx, h.ev hy, eqGuard_shl, binOp_shl, e3]
  try (
    have : b = 0 ∨ b = 1 ∨ b = 2 ∨ b = 3 ∨ b = 4 ∨ b = 5 := by omega
    rcases this with rfl | rfl | rfl | rfl | rfl | rfl <;> decide)
theorem Y.neqN {x y : Operand} {T U e : TypeId} {a : Option Addr} {l c : Nat} (hT : P.underlying T = some (.slice e)) (hx : ev fr x = some (.slice a l c)) (hy : ev fr y = some (.slice none 0 0)) : Yp P n fr (.binOp .neq T x y U) (.bool (!a.isNone)) := fun ac h w' d t p af g => by
  have e2 : Sem.run P (Op.equal T (.slice a l c) (.slice none 0 0)) w' = .ok a.isNone w' := run_equalIn_slice_nil w' 9999 T e a l c hT
  simp [execOp, h.ev hx, h.ev hy, eqGuard, binOp, e2]
end
abbrev HS := List Int × Bool
def a9v (m i : Nat) : Bool := decide (a7z ((m : Int) / 2 ^ i) 1 = 1)
def w9 (m n : Nat) : List Int := ((List.range n).filter (a9v m)).map fun i : Nat => (i : Int)
def Y1 (a b : List Int) : Bool := if (a.length : Int) ≠ (b.length : Int) then decide ((a.length : Int) < (b.length : Int)) else ltT a b
def hmS (F : List Int → Bool) (σ : HS) (x : List Int) : HS := cond ((!σ.2 || Y1 x σ.1) && F x) (x, true) σ
def hmI (F : List Int → Bool) (n : Nat) : Nat → HS
  | 0 => ([], false)
  | m + 1 => hmS F (hmI F n m) (w9 m n)
def dM : Int × List Int × Int × Int × Int := (0, [], 0, 0, 0)
def dMB : Int × (Option Addr × Nat × Nat) × Int × Int × Int := (0, (none, 0, 0), 0, 0, 0)
def selM {α : Type} (d : α) (l : List α) (x : List Int) : List α := x.map fun i => l.getD i.toNat d
section
variable {F : List Int → Bool} {σ : HS} {x : List Int} {m n i g : Nat} {a b : List Int}
theorem a6W (h : a7z ((m : Int) / 2 ^ i) 1 = 1) : w9 m i ++ [(i : Int)] = w9 m (i + 1) := by
  unfold w9
  rw [List.range_succ, List.filter_append, List.map_append]
  congr 1
  rw [List.filter_cons_of_pos (by unfold a9v; exact decide_eq_true h)]; rfl
theorem a7q (h : ¬ a7z ((m : Int) / 2 ^ i) 1 = 1) : w9 m i = w9 m (i + 1) := by
  unfold w9
  rw [List.range_succ, List.filter_append, List.map_append, List.filter_cons_of_neg (by unfold a9v; rw [decide_eq_false h]; decide)]; simp
theorem a2o : (w9 m n).length ≤ n := by
  unfold w9
  rw [List.length_map]
  have := List.length_filter_le (a9v m) (List.range n)
  simpa using this
theorem a1s {j : Int} (h : j ∈ w9 m n) : 0 ≤ j ∧ j < (n : Int) := by
  unfold w9 at h
  obtain ⟨i, hi, rfl⟩ := List.mem_map.1 h
  have := List.mem_range.1 (List.mem_filter.1 hi).1
  omega
theorem W9 (h : (a.length : Int) < b.length) : Y1 a b = true := by unfold Y1; rw [if_pos (by omega)]; exact decide_eq_true h
theorem S8 (h1 : (a.length : Int) = b.length) (h2 : E6 a b < 0) : Y1 a b = true := by unfold Y1; rw [if_neg (by omega)]; exact decide_eq_true h2
theorem T0 (h : ¬ (a.length : Int) < b.length) (h1 : ¬ (a.length : Int) = b.length) : Y1 a b = false := by unfold Y1; rw [if_pos h1]; exact decide_eq_false h
theorem S9 (h1 : (a.length : Int) = b.length) (h2 : ¬ E6 a b < 0) : Y1 a b = false := by unfold Y1; rw [if_neg (by omega)]; exact decide_eq_false h2
theorem M7 (h1 : (hmI F n m).2 = false) (h2 : F (w9 m n) = true) : hmI F n (m + 1) = (w9 m n, true) := by rw [hmI, hmS, h1, h2]; rfl
theorem F2 (h1 : Y1 (w9 m n) (hmI F n m).1 = true) (h2 : F (w9 m n) = true) : hmI F n (m + 1) = (w9 m n, true) := by rw [hmI, hmS, h1, h2, Bool.or_true]; rfl
theorem F1 (h1 : (hmI F n m).2 = true) (h : Y1 (w9 m n) (hmI F n m).1 = false) : hmI F n (m + 1) = hmI F n m := by rw [hmI, hmS, h1, h]; rfl
theorem M9 (h : F (w9 m n) = false) : hmI F n (m + 1) = hmI F n m := by rw [hmI, hmS, h, Bool.and_false]; rfl
theorem a5m : ∀ {m : Nat}, (∀ i ∈ (hmI F n m).1, 0 ≤ i ∧ i < (n : Int)) ∧ (hmI F n m).1.length ≤ n
  | 0 => ⟨fun i h => (by cases h), Nat.zero_le _⟩
  | m + 1 => by
    have ih := a5m (m := m)
    rw [hmI, hmS]
    cases (!(hmI F n m).2 || Y1 (w9 m n) (hmI F n m).1) && F (w9 m n)
    · exact ih
    · exact ⟨fun i h => a1s h, a2o⟩
theorem a6u {α : Type} {d : α} {l : List α} (hg : g < x.length) (hx : x[g].toNat < l.length) : selM d l (x.take g) ++ [l[x[g].toNat]] = selM d l (x.take (g + 1)) := by
  unfold selM
  rw [List.take_succ_eq_append_getElem hg, List.map_append]
  congr 1
  simp [List.getD, hx]
theorem Bor.selM {α β : Type} {E : Enc α} {f : β → List Value} {w : World} {L : List Nat} {ys : List β} {xs : List α} {d : β} {d' : α} (h : Bor w L E f ys xs) : ∀ {is : List Int}, (∀ i ∈ is, i.toNat < ys.length) → Bor w L E f (selM d ys is) (selM d' xs is)
  | [], _ => trivial
  | i :: is, hi => by
    have h1 := hi i (List.mem_cons_self ..)
    have h2 : i.toNat < xs.length := by rw [← h.len]; exact h1
    refine ⟨?_, Bor.selM h fun j hj => hi j (List.mem_cons_of_mem _ hj)⟩
    have := h.get i.toNat h1 h2
    simpa [List.getD, h1, h2] using this
end
def H9 (s : List Int) (l : List Mth) (d8 : List Rul) (q : List Int × List (Int × List Int)) (x : List Int) : Bool := a0o s (selM dM l x) d8 q
def a3I (s : List Int) (l : List Mth) (d8 : List Rul) (q : List Int × List (Int × List Int)) : Bool := (x8 s l && x7 s d8) && (hmI (H9 s l d8 q) l.length (2 ^ l.length)).2
def a1l (s : List Int) (l : List Mth) (d8 : List Rul) (q : List Int × List (Int × List Int)) : List Int := cond (x8 s l && x7 s d8) (hmI (H9 s l d8 q) l.length (2 ^ l.length)).1 []
section
variable {s : List Int} {l : List Mth} {d8 : List Rul} {q : List Int × List (Int × List Int)}
theorem a2C {x : List Int} : a0o s (selM dM l x) d8 q = H9 s l d8 q x := rfl
theorem W8 (h : (x8 s l && x7 s d8) = false) : [] = a1l s l d8 q ∧ false = a3I s l d8 q := by rw [a1l, a3I, h]; exact ⟨rfl, rfl⟩
theorem W5 (h : (x8 s l && x7 s d8) = true) : (hmI (H9 s l d8 q) l.length (2 ^ l.length)).1 = a1l s l d8 q ∧ (hmI (H9 s l d8 q) l.length (2 ^ l.length)).2 = a3I s l d8 q := by rw [a1l, a3I, h]; exact ⟨rfl, rfl⟩
theorem b3R : (a1l s l d8 q).length ≤ l.length ∧ ∀ i ∈ a1l s l d8 q, 0 ≤ i ∧ i < (l.length : Int) := by
  rw [a1l]
  cases x8 s l && x7 s d8
  · exact ⟨Nat.zero_le _, fun i h => (by cases h)⟩
  · exact ⟨a5m.2, a5m.1⟩
theorem b3I (h : (x8 s l && x7 s d8) = true) : l.length ≤ 5 := (a2x (Bool.and_eq_true_iff.1 h).1).2
end
end Go.Proofs.YtdopeopehgdccaaGreat
