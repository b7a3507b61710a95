/- Plain definitions: a list without one element. No program in sight. -/
import Derived.Test.YtlcfbfbdnnoifaaGreatBd
namespace Go.Proofs.YtlcfbfbdnnoifaaGreat
def dropA {α : Type} (l : List α) (i : Int) : List α := if inR i 0 ((l.length : Int) - 1) then l.take i.toNat ++ l.drop (i + 1).toNat else l
theorem dropA_nil {α : Type} {i : Int} : dropA ([] : List α) i = [] := by
  unfold dropA; split <;> simp
theorem dropA_step {α : Type} {l : List α} {i : Int} {g : Nat} (h : g < l.length) : dropA (l.take (g + 1)) i = if (g : Int) = i then dropA (l.take g) i else dropA (l.take g) i ++ [l[g]] := by
  have e := List.take_succ_eq_append_getElem h
  have l1 : (l.take (g + 1)).length = g + 1 := by simp; omega
  have l2 : (l.take g).length = g := by simp; omega
  unfold dropA inR
  rw [l1, l2]
  by_cases h1 : (g : Int) = i
  · subst h1
    rw [if_pos (by simp), if_pos rfl, if_neg (by simp; omega)]
    rw [show ((g : Int)).toNat = g from rfl, show ((g : Int) + 1).toNat = g + 1 by omega, List.take_take, Nat.min_eq_left (by omega), List.drop_eq_nil_of_le (by omega), List.append_nil]
  · rw [if_neg h1]
    by_cases h2 : 0 ≤ i ∧ i < (g : Int)
    · rw [if_pos (by simp; omega), if_pos (by simp; omega), e, List.take_append_of_le_length (by omega), List.drop_append_of_le_length (by omega), List.append_assoc]
    · rw [if_neg (by simp; omega), if_neg (by simp; omega), e]
theorem dropA_all {α : Type} {l : List α} {i : Int} {g : Nat} (h : l.length ≤ g) : dropA (l.take g) i = dropA l i := by rw [List.take_of_length_le h]
theorem dropA_len {α : Type} {l : List α} {i : Int} : (dropA l i).length ≤ l.length := by
  unfold dropA
  split
  · simp; omega
  · exact Nat.le_refl _
theorem dropA_mem {α : Type} {l : List α} {i : Int} {x : α} (h : x ∈ dropA l i) : x ∈ l := by
  unfold dropA at h
  split at h
  · rw [List.mem_append] at h
    rcases h with h | h
    · exact List.mem_of_mem_take h
    · exact List.mem_of_mem_drop h
  · exact h
theorem dropA_tot {α : Type} {t : α → Nat} {l : List α} {i : Int} : totS t (dropA l i) ≤ totS t l := by
  unfold dropA inR
  split
  · rename_i h
    rw [decide_eq_true_eq] at h
    have e : totS t l = totS t (l.take i.toNat) + totS t (l.drop i.toNat) := by
      rw [totS, totS, totS, ← List.sum_append, ← List.map_append, List.take_append_drop]
    have e2 : totS t (l.drop i.toNat) = t (l[i.toNat]'(by omega)) + totS t (l.drop (i.toNat + 1)) := by
      rw [List.drop_eq_getElem_cons (show i.toNat < l.length by omega)]; simp only [totS, List.map_cons, List.sum_cons]
    have e3 : totS t (l.take i.toNat ++ l.drop (i + 1).toNat) = totS t (l.take i.toNat) + totS t (l.drop (i + 1).toNat) := by
      rw [totS, totS, totS, List.map_append, List.sum_append]
    rw [show (i + 1).toNat = i.toNat + 1 by omega] at *
    omega
  · exact Nat.le_refl _
end Go.Proofs.YtlcfbfbdnnoifaaGreat
