/- Plain definitions: facts of atoms, mappings. No program in sight. -/
import Derived.Test.YtnagfcajnbkdoaaDg
namespace Go.Proofs.Ytnagfcajnbkdoaa
set_option linter.unusedVariables false
def hasF (l : List (Int × List Int)) (f : Int × List Int) : Bool := l.any fun z => decide (cmpF z f = 0)
def factO (a : Int × List Int) (b : List Int × List Int) : Int × List Int := (a.1, a.2.map (valO b))
def okMap (q : List Int × List (Int × List Int)) (facts : List (Int × List Int)) (head : List Int) (b : List Int × List Int) : Bool :=
  decide (b.1.length = b.2.length) && (decide (q.1.map (valO b) = head) && !q.2.any fun a => !hasF facts (factO a b))
theorem Ro.i64A {w : World} {L : List Nat} {e : TypeId} {a : Option Addr} {m c : Nat} {xs : List (Int × List Int)} (h : Ro w L (Enc.sl e (Enc.pair Enc.int (Enc.sl tI Enc.int))) [.slice a m c] xs) : ∀ x ∈ xs, I64 x.1 ∧ ∀ y ∈ x.2, I64 y := by
  intro x hx
  obtain ⟨i, hi, rfl⟩ := List.getElem_of_mem hx
  obtain ⟨_, _, ci, _, h1, _⟩ := h.elem i hi
  obtain ⟨c1, c2, rfl, h2, h3⟩ := h1.pair
  obtain ⟨a', c', rfl⟩ := h3.sl
  exact ⟨h2.int.2, h3.i64⟩
theorem valO_i64ss {b : List Int × List Int} {l : List (Int × List Int)} (h : ∀ x ∈ l, I64 x.1 ∧ ∀ y ∈ x.2, I64 y) (h1 : ∀ x ∈ b.1, I64 x) (h2 : ∀ x ∈ b.2, I64 x) : ∀ x ∈ l, ∀ y ∈ x.2, I64 (valO b y) := fun x hx y hy => valO_i64 ((h x hx).2 y hy) h2
theorem tot_mem {α : Type} {t : α → Nat} {l : List α} {n : Nat} (h : totL t l ≤ n) : ∀ x ∈ l, t x ≤ n := by
  intro x hx
  obtain ⟨i, hi, rfl⟩ := List.getElem_of_mem hx
  exact Nat.le_trans (tot_elem hi) h
theorem atoms_len {l : List (Int × List Int)} {n : Nat} (h : totL (fun x => x.2.length) l ≤ n) : ∀ x ∈ l, x.2.length ≤ n := tot_mem h
end Go.Proofs.Ytnagfcajnbkdoaa
