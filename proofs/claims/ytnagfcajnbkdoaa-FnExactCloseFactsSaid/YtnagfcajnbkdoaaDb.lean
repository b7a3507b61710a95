/- Plain definitions: calls' limits. No program in sight. -/
import Derived.Test.YtnagfcajnbkdoaaDa
namespace Go.Proofs.Ytnagfcajnbkdoaa
set_option linter.unusedVariables false
def bitI (b : Bool) : Int := if b then 1 else 0
def uses (log : List (Int × List Int)) (m : Int) : Int := ((log.countP fun a => decide (a.1 = m) : Nat) : Int)
theorem uses_nil {m : Int} : uses [] m = 0 := rfl
theorem uses_step {l : List (Int × List Int)} {m : Int} {g : Nat} (h : g < l.length) : uses (l.take (g + 1)) m = uses (l.take g) m + bitI (decide (l[g].1 = m)) := by
  unfold uses bitI; rw [List.take_succ_eq_append_getElem h, List.countP_append]; by_cases e : l[g].1 = m <;> simp [e]
theorem uses_ge {l : List (Int × List Int)} {m : Int} : 0 ≤ uses l m := by unfold uses; omega
theorem uses_le {l : List (Int × List Int)} {m : Int} {g : Nat} : uses (l.take g) m ≤ g := by
  have h1 := List.countP_le_length (p := fun a : Int × List Int => decide (a.1 = m)) (l := l.take g)
  have h2 := List.length_take_le g l
  unfold uses; omega
def quo (l : List (Int × List Int × Int × Int × Int)) (m : Int) : Int := (l.getD m.toNat (0, [], 0, 0, 0)).2.2.2.2
theorem quo_get {l : List (Int × List Int × Int × Int × Int)} {m : Int} (h : m.toNat < l.length) : quo l m = l[m.toNat].2.2.2.2 := by rw [quo, getD_get h]
def quotaBad (l : List (Int × List Int × Int × Int × Int)) (log : List (Int × List Int)) (m : Int) : Bool := !inR m 0 ((l.length : Int) - 1) || decide (quo l m < uses log m)
theorem inR_true {n lo hi : Int} (h : inR n lo hi = true) : lo ≤ n ∧ n ≤ hi := by simpa [inR] using h
theorem quotaBad1 {l : List (Int × List Int × Int × Int × Int)} {log : List (Int × List Int)} {m : Int} (h : inR m 0 ((l.length : Int) - 1) = false) : quotaBad l log m = true := by simp [quotaBad, h]
theorem quotaBad2 {l : List (Int × List Int × Int × Int × Int)} {log : List (Int × List Int)} {m : Int} (h : inR m 0 ((l.length : Int) - 1) = true) {k : Int} (e : quo l m = k) : quotaBad l log m = decide (k < uses log m) := by simp [quotaBad, h, e]
def okQuota (l : List (Int × List Int × Int × Int × Int)) (log : List (Int × List Int)) : Bool := !log.any fun a => quotaBad l log a.1
end Go.Proofs.Ytnagfcajnbkdoaa
