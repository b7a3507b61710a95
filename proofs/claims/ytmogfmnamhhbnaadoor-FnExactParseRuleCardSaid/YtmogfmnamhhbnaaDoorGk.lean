/- Plain: the loops that cut a text, read a number and read a list of numbers. No program in sight. -/
import Derived.Test.YtmogfmnamhhbnaaDoorGj
namespace Go.Proofs.YtmogfmnamhhbnaaDoor
set_option linter.unusedVariables false
set_option linter.unusedSimpArgs false
section
variable {b : UInt8} {s : Str} {n : Int} {i g : Nat}
theorem take_succ' {α : Type} {l : List α} {i : Nat} (h : i < l.length) : l.take (i + 1) = l.take i ++ [l[i]] := by
  rw [List.take_add_one, List.getElem?_eq_getElem h]; rfl
/-- a byte more in the cutting -/
def cutS (b : UInt8) (p : List Str × Str) (c : UInt8) : List Str × Str := if c = b then (p.1 ++ [p.2], []) else (p.1, p.2 ++ [c])
def cutG (b : UInt8) (s : Str) (i : Nat) : List Str × Str := (s.take i).foldl (cutS b) ([], [])
theorem cutG_zero : cutG b s 0 = ([], []) := by simp [cutG]
theorem cutG_succ (h : i < s.length) : cutG b s (i + 1) = cutS b (cutG b s i) s[i] := by
  rw [cutG, take_succ' h, List.foldl_append]; rfl
theorem cutG_at (h : i < s.length) (e : s[i] = b) : cutG b s (i + 1) = ((cutG b s i).1 ++ [(cutG b s i).2], []) := by
  rw [cutG_succ h, cutS, if_pos e]
theorem cutG_off (h : i < s.length) (e : ¬ s[i] = b) : cutG b s (i + 1) = ((cutG b s i).1, (cutG b s i).2 ++ [s[i]]) := by
  rw [cutG_succ h, cutS, if_neg e]
theorem cut_fold : ∀ {s : Str} {p : List Str × Str}, (s.foldl (cutS b) p).1 ++ [(s.foldl (cutS b) p).2] = p.1 ++ (p.2 ++ (cut b s).headD []) :: (cut b s).tail
  | [], p => by simp [cut]
  | c :: s, p => by
    show ((s.foldl (cutS b) (cutS b p c)).1 ++ [(s.foldl (cutS b) (cutS b p c)).2]) = _
    rw [cut_fold, cutS, cut]
    split
    · simp
      cases e : cut b s with
      | nil => exact absurd e cut_ne
      | cons w r => simp
    · cases e : cut b s with
      | nil => exact absurd e cut_ne
      | cons w r => simp
theorem cutG_end (h : ¬ i < s.length) : (cutG b s i).1 ++ [(cutG b s i).2] = cut b s := by
  rw [cutG, List.take_of_length_le (by omega), cut_fold]
  cases e : cut b s with
  | nil => exact absurd e cut_ne
  | cons w r => simp
theorem cutG_len : ∀ {i : Nat}, i ≤ s.length → (cutG b s i).1.length ≤ i ∧ (cutG b s i).2.length ≤ i
  | 0, _ => by simp [cutG_zero]
  | i + 1, h => by
    have ih := cutG_len (i := i) (by omega)
    rw [cutG_succ (by omega), cutS]
    split <;> simp <;> omega
theorem cut_len : (cut b s).length ≤ s.length + 1 := by
  have := (cutG_len (b := b) (s := s) (i := s.length) (Nat.le_refl _)).1
  rw [← cutG_end (b := b) (s := s) (i := s.length) (by omega)]; simp; omega
/-- every piece is no longer than the text -/
theorem cut_mem : ∀ {s : Str}, ∀ x ∈ cut b s, x.length ≤ s.length
  | [], x, h => by simp [cut] at h; simp [h]
  | c :: s, x, h => by
    rw [cut] at h
    split at h
    · rcases List.mem_cons.1 h with e | e
      · simp [e]
      · have := cut_mem x e; simp; omega
    · cases e : cut b s with
      | nil => exact absurd e cut_ne
      | cons w r =>
        rw [e] at h
        have ih := fun y hy => cut_mem (s := s) y (by rw [e]; exact hy)
        rcases List.mem_cons.1 h with e1 | e1
        · have := ih w (by simp); rw [e1]; simp; omega
        · have := ih x (by simp [e1]); simp; omega
def pvG (s : Str) (i : Nat) : Int × Nat := (s.take i).foldl pvS (0, 0)
theorem pvG_zero : pvG s 0 = (0, 0) := by simp [pvG]
theorem pvG_succ (h : i < s.length) : pvG s (i + 1) = pvS (pvG s i) s[i] := by
  rw [pvG, take_succ' h, List.foldl_append]; rfl
theorem pvG_dig (h : i < s.length) (h1 : 48 ≤ s[i].toNat ∧ s[i].toNat ≤ 57) : pvG s (i + 1) = ((pvG s i).1 * 10 + ((s[i].toNat : Int) - 48), (pvG s i).2 + 1) := by
  rw [pvG_succ h, pvS, if_pos h1]
theorem pvG_off (h : i < s.length) (h1 : ¬ (48 ≤ s[i].toNat ∧ s[i].toNat ≤ 57)) : pvG s (i + 1) = pvG s i := by
  rw [pvG_succ h, pvS, if_neg h1]
theorem pvG_end (hi : i ≤ 11) (h : ¬ (i < s.length ∧ i < 11)) : pvG s i = pV s := by
  rw [pvG, pV]
  by_cases e : i = 11
  · rw [e]
  · rw [List.take_of_length_le (by omega), List.take_of_length_le (by omega)]
theorem pvG_le : ∀ {i : Nat}, i ≤ s.length → (pvG s i).2 ≤ i
  | 0, _ => by simp [pvG_zero]
  | i + 1, h => by
    have ih := pvG_le (i := i) (by omega)
    rw [pvG_succ (by omega), pvS]
    split <;> simp <;> omega
theorem pvG_lt (hi : i ≤ 11) (hs : i ≤ s.length) : 0 ≤ (pvG s i).1 ∧ (pvG s i).1 < 100000000000 := by
  have h : 0 ≤ (pvG s i).1 ∧ (pvG s i).1 < 10 ^ (pvG s i).2 := fold_lt (p := (0, 0)) (by decide)
  have h1 := pvG_le hs
  have hp : (10 : Nat) ^ (pvG s i).2 ≤ 10 ^ 11 := Nat.pow_le_pow_right (by omega) (by omega)
  have hp2 : ((10 : Int) ^ (pvG s i).2) = (((10 : Nat) ^ (pvG s i).2 : Nat) : Int) := by simp
  rw [hp2] at h
  omega
theorem rd_step {l : List Str} {o : List Int} (hg : g < l.length) (h : (l.take g).mapM pI = some o) (h1 : pI l[g] = some n) : (l.take (g + 1)).mapM pI = some (o ++ [n]) := by
  rw [take_succ' hg, List.mapM_append, h]; simp [h1]
theorem rd_no {l : List Str} (hg : g < l.length) (h1 : pI l[g] = none) : l.mapM pI = none := by
  have e : l = l.take g ++ (l[g] :: l.drop (g + 1)) := by rw [← List.drop_eq_getElem_cons hg, List.take_append_drop]
  rw [e, List.mapM_append, List.mapM_cons, h1]
  cases (l.take g).mapM pI <;> rfl
theorem rd_end {l : List Str} (hg : ¬ g < l.length) : (l.take g).mapM pI = l.mapM pI := by
  rw [List.take_of_length_le (by omega)]
end
end Go.Proofs.YtmogfmnamhhbnaaDoor
