/- Plain definitions: comparing. No program in sight. -/
import Derived.Test.YtnagfcajnbkdoaaSlq
namespace Go.Proofs.Ytnagfcajnbkdoaa
set_option linter.unusedVariables false
def cmpI (a b : Int) : Int := if a < b then -1 else if b < a then 1 else 0
def cmpL : List Int → List Int → Int
  | [], [] => 0
  | [], _ :: _ => -1
  | _ :: _, [] => 1
  | a :: l, b :: m => if cmpI a b ≠ 0 then cmpI a b else cmpL l m
def orI : List Int → Int
  | [] => 0
  | x :: l => if x ≠ 0 then x else orI l
def cmpF (a b : Int × List Int) : Int := if cmpI a.1 b.1 ≠ 0 then cmpI a.1 b.1 else cmpL a.2 b.2
theorem cmpI_i64 {a b : Int} : I64 (cmpI a b) := by unfold cmpI I64; split; omega; split <;> omega
theorem cmpL_i64 : ∀ {l m : List Int}, I64 (cmpL l m)
  | [], [] => by unfold cmpL I64; omega
  | [], _ :: _ => by unfold cmpL I64; omega
  | _ :: _, [] => by unfold cmpL I64; omega
  | a :: l, b :: m => by unfold cmpL; split; exact cmpI_i64; exact cmpL_i64
theorem cmpI_zero {a b : Int} : cmpI a b = 0 ↔ a = b := by unfold cmpI; grind
theorem cmpL_zero : ∀ {l m : List Int}, cmpL l m = 0 ↔ l = m
  | [], [] => by simp [cmpL]
  | [], _ :: _ => by simp [cmpL]
  | _ :: _, [] => by simp [cmpL]
  | a :: l, b :: m => by
    have := cmpI_zero (a := a) (b := b)
    have h2 := cmpL_zero (l := l) (m := m)
    unfold cmpL; grind
theorem cmpF_zero {a b : Int × List Int} : cmpF a b = 0 ↔ a = b := by
  have h1 := cmpI_zero (a := a.1) (b := b.1)
  have h2 := cmpL_zero (l := a.2) (m := b.2)
  unfold cmpF
  rcases a with ⟨a1, a2⟩; rcases b with ⟨b1, b2⟩
  grind
/-- slices.EqualFunc -/
def eqP {α : Type} (p : α → α → Bool) : List α → List α → Bool
  | [], [] => true
  | a :: l, b :: m => p a b && eqP p l m
  | _, _ => false
theorem eqP_len {α : Type} {p : α → α → Bool} : ∀ {l m : List α}, eqP p l m = true → l.length = m.length
  | [], [], _ => rfl
  | [], _ :: _, h => by simp [eqP] at h
  | _ :: _, [], h => by simp [eqP] at h
  | a :: l, b :: m, h => by
    simp only [eqP, Bool.and_eq_true] at h
    simp [eqP_len h.2]
theorem eqP_dec {α : Type} [DecidableEq α] : ∀ {l m : List α}, eqP (fun z y => decide (z = y)) l m = decide (l = m)
  | [], [] => by simp [eqP]
  | [], _ :: _ => by simp [eqP]
  | _ :: _, [] => by simp [eqP]
  | a :: l, b :: m => by simp [eqP, eqP_dec (l := l) (m := m)]
theorem eqP_facts {l m : List (Int × List Int)} : eqP (fun z y => decide (cmpF z y = 0)) l m = decide (l = m) := by
  rw [← eqP_dec]
  congr 1
  funext z y
  simp [cmpF_zero]
end Go.Proofs.Ytnagfcajnbkdoaa
