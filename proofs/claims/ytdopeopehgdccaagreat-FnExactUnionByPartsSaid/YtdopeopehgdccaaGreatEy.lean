import Derived.Test.YtdopeopehgdccaaGreatEx
import Derived.Test.YtdopeopehgdccaaGreatDz
namespace Go.Proofs.YtdopeopehgdccaaGreat
open Go.RowKit
set_option linter.unusedVariables false
set_option linter.unusedSimpArgs false
section
variable {P : Program} {n : Nat} {fr : Fr}
theorem b7j {x y : Operand} {T U : TypeId} {a b : Int} (hx : ev fr x = some (.int .i64 a)) (hy : ev fr y = some (.int .i64 b)) (ha : 0 ≤ a) (hb : 1 ≤ b) : Yp P n fr (.binOp .rem T x y U) (.int .i64 (a % b)) := fun ac hF w' d t p af g => by
 have h2 : ¬ b = 0 := by omega
 have h3 : a.tmod b = a % b := Int.tmod_eq_emod_of_nonneg ha
 simp [execOp, hF.ev hx, hF.ev hy, eqGuard_rem, binOp_rem, Op.intDiv, h2, h3]
theorem c1f {x y : Operand} {ts : Array TypeId} {a b : Int} (hx : ev fr x = some (.int .i64 a)) (hy : ev fr y = some (.int .i64 b)) : Yp P n fr (.call ⟨.builtin .max, #[x, y], ts⟩) (.int .i64 (max a b)) := fun ac h w' d t p af g => by
 have e : (if a < b then b else a) = max a b := by split <;> omega
 simp [execOp, resolve, invoke, builtin, Builtin.max_, Builtin.max2, h.ev hx, h.ev hy, ← e]
end
def b2V (n : Nat) (k lim : Int) (i : Nat) : Bool := decide (((i : Int) - k + n) % n < lim)
def a2I (x : List Fct) (k lim : Int) (g : Nat) : List Fct := ((List.range g).filter (b2V x.length k lim)).map fun i => x.getD i (0, [])
def a2O (x : List Fct) (k : Int) (g : Nat) : List Fct := ((List.range g).map fun j : Nat => x.getD ((k + j) % x.length).toNat (0, [])).foldl D4 []
def a1V (l : List Mth) (a : Int × List Int) : Int := (atM l a.1).2.2.1
def n9 (l : List Mth) (d7 : List Fct) (a : Int × List Int) : List Fct := d7.filter (V5 (atM l a.1) a.2)
def r8 (l : List Mth) (d7 : List Fct) (a : Int × List Int) (c : Int) : List Fct :=
 if a1V l a = 0 ∨ ((n9 l d7 a).length : Int) ≤ a1V l a then n9 l d7 a
 else a2I (n9 l d7 a) (max 0 c % ((n9 l d7 a).length : Int)) (a1V l a) (n9 l d7 a).length
section
variable {x : List Fct} {k lim c : Int} {g : Nat} {l : List Mth} {d7 : List Fct} {a : Int × List Int}
theorem c0p (hg : g < x.length) (h : ((g : Int) - k + x.length) % x.length < lim) : a2I x k lim g ++ [x[g]] = a2I x k lim (g + 1) := by
 unfold a2I
 rw [List.range_succ, List.filter_append, List.map_append, List.filter_cons_of_pos (by unfold b2V; exact decide_eq_true h)]
 simp [List.getD, hg]
theorem c0m (h : ¬ ((g : Int) - k + x.length) % x.length < lim) : a2I x k lim g = a2I x k lim (g + 1) := by
 unfold a2I
 rw [List.range_succ, List.filter_append, List.map_append, List.filter_cons_of_neg (by unfold b2V; rw [decide_eq_false h]; decide)]; simp
theorem b7D : (a2I x k lim g).length ≤ g := by
 unfold a2I
 rw [List.length_map]
 have := List.length_filter_le (b2V x.length k lim) (List.range g)
 simpa using this
theorem b8g {f : Fct} (hg : g ≤ x.length) (h : f ∈ a2I x k lim g) : f ∈ x := by
 unfold a2I at h
 obtain ⟨i, hi, rfl⟩ := List.mem_map.1 h
 have h1 := List.mem_range.1 (List.mem_filter.1 hi).1
 rw [K5 (by omega : i < x.length)]; exact List.getElem_mem _
theorem b6y {j : Nat} (hj : j < x.length) (e : ((k + g) % x.length).toNat = j) : D4 (a2O x k g) x[j] = a2O x k (g + 1) := by
 unfold a2O
 rw [List.range_succ, List.map_append, List.foldl_append]
 simp only [List.map_cons, List.map_nil, List.foldl_cons, List.foldl_nil, e, K5 hj]
theorem a4V : ∀ {m v : List Fct}, (m.foldl D4 v).length ≤ v.length + m.length
 | [], v => by simp
 | f :: m, v => by
  have ih := a4V (m := m) (v := D4 v f)
  have h1 : (D4 v f).length ≤ v.length + 1 := by
   cases hh : M6 v f
   ·rw [a6b hh]; simp only [List.length_append, List.length_cons, List.length_take, List.length_drop]; omega
   ·rw [a4O hh]; omega
  rw [List.foldl_cons, List.length_cons]; omega
theorem b7X : (a2O x k g).length ≤ g := by
 have := a4V (m := (List.range g).map fun j : Nat => x.getD ((k + j) % x.length).toNat (0, [])) (v := [])
 simpa [a2O] using this
theorem b4e (h0 : 0 ≤ k) (hn : 0 < x.length) : 0 ≤ (k + (g : Int)) % (x.length : Int) ∧ ((k + (g : Int)) % (x.length : Int)).toNat < x.length := by
 have h1 := Int.emod_nonneg (k + (g : Int)) (show (x.length : Int) ≠ 0 by omega)
 have h2 := Int.emod_lt_of_pos (k + (g : Int)) (show 0 < (x.length : Int) by omega)
 omega
theorem b7I {f : Fct} (h0 : 0 ≤ k) (hn : 0 < x.length) (h : f ∈ a2O x k g) : f ∈ x := by
 unfold a2O at h
 rcases (a5n f).1 h with h | h
 ·simp at h
 ·obtain ⟨j, hj, rfl⟩ := List.mem_map.1 h
  have := b4e (g := j) h0 hn
  rw [K5 this.2]; exact List.getElem_mem _
theorem b3J : ∀ {a b : List Fct}, a2a a → a2a b → (∀ y, y ∈ a ↔ y ∈ b) → a = b
 | [], [], _, _, _ => rfl
 | [], y :: b, _, _, h => by have := (h y).2 (List.mem_cons_self ..); simp at this
 | x :: a, [], _, _, h => by have := (h x).1 (List.mem_cons_self ..); simp at this
 | x :: a, y :: b, ha, hb, h => by
  have ha' := List.pairwise_cons.1 ha
  have hb' := List.pairwise_cons.1 hb
  have irr : ∀ z : Fct, ltF z z = true → False := fun z hz => by simp [ltF, a4p.2 rfl] at hz
  have tr : ∀ u v : Fct, ltF u v = true → ltF v u = true → False := fun u v h1 h2 => by
   simp only [ltF, decide_eq_true_eq] at h1 h2
   have := a8X (a := u) (b := v); omega
  have e : x = y := by
   rcases List.mem_cons.1 ((h x).1 (List.mem_cons_self ..)) with e | e
   ·exact e
   ·rcases List.mem_cons.1 ((h y).2 (List.mem_cons_self ..)) with e2 | e2
    ·exact e2.symm
    ·exact (tr x y (ha'.1 y e2) (hb'.1 x e)).elim
  subst e
  congr 1
  refine b3J ha'.2 hb'.2 fun z => ⟨fun hz => ?_, fun hz => ?_⟩
  ·rcases List.mem_cons.1 ((h z).1 (List.mem_cons_of_mem _ hz)) with e | e
   ·subst e; exact (irr z (ha'.1 z hz)).elim
   ·exact e
  ·rcases List.mem_cons.1 ((h z).2 (List.mem_cons_of_mem _ hz)) with e | e
   ·subst e; exact (irr z (hb'.1 z hz)).elim
   ·exact e
theorem a9j (h : a2a x) : ∀ {g : Nat}, g ≤ x.length → a2a (a2I x k lim g) ∧ ∀ f ∈ a2I x k lim g, ∃ i, i < g ∧ x[i]? = some f
 | 0, _ => ⟨.nil, fun f hf => by simp [a2I] at hf⟩
 | g + 1, hg => by
  obtain ⟨i1, i2⟩ := a9j h (g := g) (by omega)
  by_cases hc : ((g : Int) - k + x.length) % x.length < lim
  ·rw [← c0p (by omega) hc]
   refine ⟨List.pairwise_append.2 ⟨i1, List.pairwise_singleton _ _, fun u hu v hv => ?_⟩, fun f hf => ?_⟩
   ·simp only [List.mem_singleton] at hv; subst hv
    obtain ⟨i, hi, e⟩ := i2 u hu
    obtain ⟨hi2, rfl⟩ := List.getElem?_eq_some_iff.1 e
    exact List.pairwise_iff_getElem.1 h i g hi2 (by omega) hi
   ·rcases List.mem_append.1 hf with hf | hf
    ·obtain ⟨i, hi, e⟩ := i2 f hf; exact ⟨i, by omega, e⟩
    ·simp only [List.mem_singleton] at hf; subst hf
     exact ⟨g, by omega, List.getElem?_eq_getElem (by omega)⟩
  ·rw [← c0m hc]
   exact ⟨i1, fun f hf => by obtain ⟨i, hi, e⟩ := i2 f hf; exact ⟨i, by omega, e⟩⟩
theorem c0j {n : Nat} {i : Nat} (hn : 0 < n) (h0 : 0 ≤ k ∧ k < n) (hi : i < n) : ((k + ((i : Int) - k + n) % n) % n).toNat = i := by
 have e : (k + ((i : Int) - k + n) % n) % n = i := by
  rw [Int.add_emod, Int.emod_emod_of_dvd _ (Int.dvd_refl _), ← Int.add_emod, show k + ((i : Int) - k + n) = i + n from by omega, Int.add_emod_right]
  exact Int.emod_eq_of_lt (by omega) (by omega)
 rw [e]; simp
theorem b9j {n : Nat} {j : Nat} (hn : 0 < n) (h0 : 0 ≤ k ∧ k < n) (hj : j < n) : ((((k + j) % n).toNat : Int) - k + n) % n = j := by
 have h1 := Int.emod_nonneg (k + (j : Int)) (show (n : Int) ≠ 0 by omega)
 rw [show (((k + (j : Int)) % n).toNat : Int) = (k + j) % n from by omega]
 rw [show (k + (j : Int)) % n - k + n = (k + j) % n + (n - k) from by omega, Int.emod_add_emod, show k + (j : Int) + (n - k) = j + n from by omega, Int.add_emod_right]
 exact Int.emod_eq_of_lt (by omega) (by omega)
theorem c0h (h : a2a x) (h0 : 0 ≤ k ∧ k < x.length) (hl : 0 ≤ lim ∧ lim ≤ x.length) : a2O x k lim.toNat = a2I x k lim x.length := by
 have hn : 0 < x.length := by omega
 refine b3J (a9i .nil) (a9j h (Nat.le_refl _)).1 fun y => ?_
 unfold a2I a2O
 rw [a5n]
 simp only [List.mem_map, List.mem_filter, List.mem_range, List.not_mem_nil, false_or, b2V, decide_eq_true_eq]
 constructor
 ·rintro ⟨j, hj, rfl⟩
  have h1 := b4e (g := j) h0.1 hn
  have h2 := b9j (n := x.length) (j := j) hn h0 (by omega)
  exact ⟨((k + j) % x.length).toNat, ⟨h1.2, by rw [h2]; omega⟩, rfl⟩
 ·rintro ⟨i, ⟨hi, hc⟩, rfl⟩
  have h1 := Int.emod_nonneg ((i : Int) - k + x.length) (show (x.length : Int) ≠ 0 by omega)
  have h2 := c0j (n := x.length) (i := i) hn h0 hi
  refine ⟨(((i : Int) - k + x.length) % x.length).toNat, by omega, ?_⟩
  rw [show ((((i : Int) - k + x.length) % x.length).toNat : Int) = ((i : Int) - k + x.length) % x.length from by omega, h2]
theorem b0j {s : List Int} (h : F1 s d7 = true) : a2a d7 := by
 have h := (Bool.and_eq_true_iff.1 h).1
 simp only [a1G, List.drop_zero, Bool.and_eq_true, List.all_eq_true] at h
 exact a8H (fun a b c h1 h2 => by simp only [ltF, decide_eq_true_eq] at h1 h2 ⊢; exact b5d h1 h2) h.2
theorem b9t {s : List Int} (h : R7 s l a = true) : 0 ≤ a1V l a ∧ a1V l a ≤ 9 := by
 have h1 := a0x h
 have h2 := a8J h1.1 (atM l a.1) (by rw [S6 h1.2.1.2]; exact List.getElem_mem _)
 simp only [R1, a0I, Bool.and_eq_true] at h2
 unfold a1V
 have : inR (atM l a.1).2.2.1 0 9 = true := by grind
 exact a0d this
theorem a5H : (n9 l d7 a).length ≤ d7.length := List.length_filter_le _ _
theorem a7Y (h : a2a d7) : a2a (n9 l d7 a) := List.Pairwise.filter _ h
theorem a8b (h : a1V l a = 0 ∨ ((n9 l d7 a).length : Int) ≤ a1V l a) : n9 l d7 a = r8 l d7 a c := by rw [r8, if_pos h]
theorem b7y (ha : a2a d7) (h0 : 0 ≤ a1V l a) (h : ¬ a1V l a = 0) (h2 : ¬ ((n9 l d7 a).length : Int) ≤ a1V l a) (hg : (g : Int) = a1V l a) : a2O (n9 l d7 a) (max c 0 % ((n9 l d7 a).length : Int)) g = r8 l d7 a c := by
 rw [r8, if_neg (by omega), show max c 0 = max 0 c from by omega, show g = (a1V l a).toNat from by omega]
 have h3 := Int.emod_nonneg (max 0 c) (show ((n9 l d7 a).length : Int) ≠ 0 by omega)
 have h4 := Int.emod_lt_of_pos (max 0 c) (show 0 < ((n9 l d7 a).length : Int) by omega)
 exact c0h (a7Y ha) ⟨h3, h4⟩ (by omega)
theorem b8H {f : Fct} (h : f ∈ r8 l d7 a c) : f ∈ d7 := by
 unfold r8 at h
 split at h
 ·exact (List.mem_filter.1 h).1
 ·exact (List.mem_filter.1 (b8g (Nat.le_refl _) h)).1
theorem b4T : (r8 l d7 a c).length ≤ d7.length := by
 unfold r8
 split
 ·exact a5H
 ·exact Nat.le_trans b7D a5H
end
def a0D (m : Mth) (a : AT2) (b : List Int × List Int) : List Int := m.2.1.map fun i => C7 b (at0 a.2 i)
def a1g (l : List Mth) (m : Int) : Int := if (inR m 0 ((l.length : Int) - 1) && inR (atM l m).2.2.2.1 0 99) = true then (atM l m).2.2.2.1 else 0
def a0r (l : List Mth) (log : List (Int × List Int)) : Int := log.foldl (fun n a => n + a1g l a.1) 0
section
variable {l : List Mth} {m i : Int} {g : Nat} {a : AT2} {b : List Int × List Int} {mm : Mth} {log : List (Int × List Int)}
theorem b3w {x : List Int} (hg : g < x.length) (h : 0 ≤ x[g] ∧ x[g].toNat < a.2.length) : (x.take g).map (fun i => C7 b (at0 a.2 i)) ++ [C7 b (a.2[x[g].toNat]'h.2)] = (x.take (g + 1)).map fun i => C7 b (at0 a.2 i) := by
 rw [List.take_succ_eq_append_getElem hg, List.map_append]
 congr 1
 simp [at0, List.getD, h.2]
theorem a6g (h : inR m 0 ((l.length : Int) - 1) = false) : 0 = a1g l m := by rw [a1g, h]; rfl
theorem a6k (h : m.toNat < l.length) (h2 : inR l[m.toNat].2.2.2.1 0 99 = false) : 0 = a1g l m := by rw [a1g, S6 h, h2, Bool.and_false]; rfl
theorem a6e (h1 : inR m 0 ((l.length : Int) - 1) = true) (h : m.toNat < l.length) (h2 : inR l[m.toNat].2.2.2.1 0 99 = true) : l[m.toNat].2.2.2.1 = a1g l m := by rw [a1g, S6 h, h1, h2]; rfl
theorem b3V : 0 ≤ a1g l m ∧ a1g l m ≤ 99 := by
 unfold a1g
 split
 ·rename_i h; have := a0d (Bool.and_eq_true_iff.1 h).2; omega
 ·omega
theorem b2a : ∀ {log : List (Int × List Int)} {n : Int}, n ≤ log.foldl (fun n a => n + a1g l a.1) n ∧ log.foldl (fun n a => n + a1g l a.1) n ≤ n + 99 * log.length
 | [], n => by simp
 | x :: log, n => by
  have ih := b2a (log := log) (n := n + a1g l x.1)
  have := b3V (l := l) (m := x.1)
  rw [List.foldl_cons, List.length_cons]
  omega
theorem b3d : 0 ≤ a0r l log ∧ a0r l log ≤ 99 * log.length := by
 have := b2a (l := l) (log := log) (n := 0)
 unfold a0r; omega
theorem a3i (h : g < log.length) : a0r l (log.take g) + a1g l log[g].1 = a0r l (log.take (g + 1)) := by
 unfold a0r; rw [a1v h]
theorem a2t (h : g < log.length) (h2 : 0 = a1g l log[g].1) : a0r l (log.take g) = a0r l (log.take (g + 1)) := by
 rw [← a3i h, ← h2, Int.add_zero]
end
end Go.Proofs.YtdopeopehgdccaaGreat
