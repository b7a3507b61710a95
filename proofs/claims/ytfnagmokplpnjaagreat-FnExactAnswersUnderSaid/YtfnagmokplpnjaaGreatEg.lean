/- Plain: the answers on what is reached by calls and rules. No program in sight. -/
import Derived.Test.YtfnagmokplpnjaaGreatEa
import Derived.Test.YtfnagmokplpnjaaGreatEf
import Derived.Test.YtfnagmokplpnjaaGreatDs
namespace Go.Proofs.YtfnagmokplpnjaaGreat
set_option linter.unusedVariables false
set_option linter.unusedSimpArgs false
abbrev constF (q : List Int × List (Int × List Int)) : List Int := termsF (fun t => inR t 0 9) q.2
def ansU (s : List Int) (l : List Mth) (rules : List Rul) (q : List Int × List (Int × List Int)) (facts : List Fct) : List (List Int) :=
  if okUnd s l rules facts && okQuery s q then tupF q.1 (bindsF q.2 (uFin l rules facts (constF q)).1) else []
attribute [local irreducible] uFin
section
variable {s : List Int} {l : List Mth} {rules : List Rul} {facts : List Fct} {seeds : List Int} {q : List Int × List (Int × List Int)}
theorem nInv.asc {S : NoS} (h : nInv s S) : ascF S.1 := by rw [h.fold]; exact fold_asc .nil
theorem uFin_few (h : okUnd s l rules facts = true) (a : Int × List Int) : Few a (uFin l rules facts seeds).1 :=
  fewOk (ascF_nodup (uFin_inv (seeds := seeds) h).n.asc) (uFin_inv (seeds := seeds) h).n.okF
theorem reachU_few (h : okUnd s l rules facts = true) (a : Int × List Int) : Few a (reachU s l rules facts seeds) := by
  rw [reachU, if_pos h]; exact uFin_few h a
theorem ansU_yes (h : okUnd s l rules facts = true) (h2 : okQuery s q = true) : tupF q.1 (bindsF q.2 (uFin l rules facts (constF q)).1) = ansU s l rules q facts := by
  rw [ansU, h, h2]; rfl
theorem ansU_yes2 (h : okUnd s l rules facts = true) (h2 : okQuery s q = true) : tupF q.1 (bindsF q.2 (reachU s l rules facts (constF q))) = ansU s l rules q facts := by
  rw [reachU, if_pos h]; exact ansU_yes h h2
theorem ansU_no (h : (okUnd s l rules facts && okQuery s q) = false) : [] = ansU s l rules q facts := by rw [ansU, h]; rfl
theorem ansU_tot : totS cE_Is (ansU s l rules q facts) ≤ 3000000000000 := by
  unfold ansU
  split
  · rename_i h
    rw [Bool.and_eq_true] at h
    have h1 := okQuery_h h.2
    have h3 := bindsK_all (facts := (uFin l rules facts (constF q)).1) (fun a _ => uFin_few h.1 a) h1.1 h1.2.2
    have h4 := tup_len (h := q.1) (l := bindsF q.2 (uFin l rules facts (constF q)).1)
    have h5 := tuples_tot (n := 1000000000000) (fun t ht => Nat.le_trans (tup_el (h := q.1) (l := bindsF q.2 (uFin l rules facts (constF q)).1) t ht) h1.2.1) (by omega)
    omega
  · simp [totS]
end
end Go.Proofs.YtfnagmokplpnjaaGreat
