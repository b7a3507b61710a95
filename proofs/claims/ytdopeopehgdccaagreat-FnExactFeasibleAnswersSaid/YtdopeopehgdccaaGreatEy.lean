import Derived.Test.YtdopeopehgdccaaGreatEx
import Derived.Test.YtdopeopehgdccaaGreatDz
namespace Go.Proofs.YtdopeopehgdccaaGreat
open Go.RowKit
set_option linter.unusedVariables false
set_option linter.unusedSimpArgs false
section
variable {P : Program} {n : Nat} {fr : Fr}
theorem Y.remV {x y : Operand} {T U : TypeId} {a b : Int} (hx : ev fr x = some (.int .i64 a)) (hy : ev fr y = some (.int .i64 b)) (ha : 0 ≤ a) (hb : 1 ≤ b) : Yp P n fr (.binOp .rem T x y U) (.int .i64 (a % b)) := fun ac hF w' d t p af g => by
  have h2 : ¬ b = 0 := by omega
  have h3 : a.tmod b = a % b := Int.tmod_eq_emod_of_nonneg ha
  simp [execOp, hF.ev hx, hF.ev hy, eqGuard_rem, binOp_rem, Op.intDiv, h2, h3]
theorem Y.mx2 {x y : Operand} {ts : Array TypeId} {a b : Int} (hx : ev fr x = some (.int .i64 a)) (hy : ev fr y = some (.int .i64 b)) : Yp P n fr (.call ⟨.builtin .max, #[x, y], ts⟩) (.int .i64 (max a b)) := fun ac h w' d t p af g => by
  have e : (if a < b then b else a) = max a b := by split <;> omega
  simp [execOp, resolve, invoke, builtin, Builtin.max_, Builtin.max2, h.ev hx, h.ev hy, ← e]
end
def b0w (n : Nat) (k lim : Int) (i : Nat) : Bool := decide (((i : Int) - k + n) % n < lim)
def a0T (x : List Fct) (k lim : Int) (g : Nat) : List Fct := ((List.range g).filter (b0w x.length k lim)).map fun i => x.getD i (0, [])
def a1e (x : List Fct) (k : Int) (g : Nat) : List Fct := ((List.range g).map fun j : Nat => x.getD ((k + j) % x.length).toNat (0, [])).foldl x6 []
def a0l (l : List Mth) (a : Int × List Int) : Int := (atM l a.1).2.2.1
def j6 (l : List Mth) (d8 : List Fct) (a : Int × List Int) : List Fct := d8.filter (N8 (atM l a.1) a.2)
def n0 (l : List Mth) (d8 : List Fct) (a : Int × List Int) (c : Int) : List Fct :=
  if a0l l a = 0 ∨ ((j6 l d8 a).length : Int) ≤ a0l l a then j6 l d8 a
  else a0T (j6 l d8 a) (max 0 c % ((j6 l d8 a).length : Int)) (a0l l a) (j6 l d8 a).length
section
variable {x : List Fct} {k lim c : Int} {g : Nat} {l : List Mth} {d8 : List Fct} {a : Int × List Int}
theorem b5F (hg : g < x.length) (h : ((g : Int) - k + x.length) % x.length < lim) : a0T x k lim g ++ [x[g]] = a0T x k lim (g + 1) := by
  unfold a0T
  rw [List.range_succ, List.filter_append, List.map_append, List.filter_cons_of_pos (by unfold b0w; exact decide_eq_true h)]
  simp [List.getD, hg]
theorem b4Z (h : ¬ ((g : Int) - k + x.length) % x.length < lim) : a0T x k lim g = a0T x k lim (g + 1) := by
  unfold a0T
  rw [List.range_succ, List.filter_append, List.map_append, List.filter_cons_of_neg (by unfold b0w; rw [decide_eq_false h]; decide)]; simp
theorem b3F : (a0T x k lim g).length ≤ g := by
  unfold a0T
  rw [List.length_map]
  have := List.length_filter_le (b0w x.length k lim) (List.range g)
  simpa using this
theorem b3j {f : Fct} (hg : g ≤ x.length) (h : f ∈ a0T x k lim g) : f ∈ x := by
  unfold a0T at h
  obtain ⟨i, hi, rfl⟩ := List.mem_map.1 h
  have h1 := List.mem_range.1 (List.mem_filter.1 hi).1
  rw [F6 (by omega : i < x.length)]; exact List.getElem_mem _
theorem b2Q {j : Nat} (hj : j < x.length) (e : ((k + g) % x.length).toNat = j) : x6 (a1e x k g) x[j] = a1e x k (g + 1) := by
  unfold a1e
  rw [List.range_succ, List.map_append, List.foldl_append]
  simp only [List.map_cons, List.map_nil, List.foldl_cons, List.foldl_nil, e, F6 hj]
theorem a2C : ∀ {m v : List Fct}, (m.foldl x6 v).length ≤ v.length + m.length
  | [], v => by simp
  | f :: m, v => by
    have ih := a2C (m := m) (v := x6 v f)
    have h1 : (x6 v f).length ≤ v.length + 1 := by
      cases hh : G6 v f
      · rw [a3V hh]; simp only [List.length_append, List.length_cons, List.length_take, List.length_drop]; omega
      · rw [a2D hh]; omega
    rw [List.foldl_cons, List.length_cons]; omega
theorem b3b : (a1e x k g).length ≤ g := by
  have := a2C (m := (List.range g).map fun j : Nat => x.getD ((k + j) % x.length).toNat (0, [])) (v := [])
  simpa [a1e] using this
theorem a9Q (h0 : 0 ≤ k) (hn : 0 < x.length) : 0 ≤ (k + (g : Int)) % (x.length : Int) ∧ ((k + (g : Int)) % (x.length : Int)).toNat < x.length := by
  have h1 := Int.emod_nonneg (k + (g : Int)) (show (x.length : Int) ≠ 0 by omega)
  have h2 := Int.emod_lt_of_pos (k + (g : Int)) (show 0 < (x.length : Int) by omega)
  omega
theorem b2Y {f : Fct} (h0 : 0 ≤ k) (hn : 0 < x.length) (h : f ∈ a1e x k g) : f ∈ x := by
  unfold a1e at h
  rcases (a2S f).1 h with h | h
  · simp at h
  · obtain ⟨j, hj, rfl⟩ := List.mem_map.1 h
    have := a9Q (g := j) h0 hn
    rw [F6 this.2]; exact List.getElem_mem _
theorem a9P : ∀ {a b : List Fct}, a0q a → a0q b → (∀ y, y ∈ a ↔ y ∈ b) → a = b
  | [], [], _, _, _ => rfl
  | [], y :: b, _, _, h => by have := (h y).2 (List.mem_cons_self ..); simp at this
  | x :: a, [], _, _, h => by have := (h x).1 (List.mem_cons_self ..); simp at this
  | x :: a, y :: b, ha, hb, h => by
    have ha' := List.pairwise_cons.1 ha
    have hb' := List.pairwise_cons.1 hb
    have irr : ∀ z : Fct, ltF z z = true → False := fun z hz => by simp [ltF, a2n.2 rfl] at hz
    have tr : ∀ u v : Fct, ltF u v = true → ltF v u = true → False := fun u v h1 h2 => by
      simp only [ltF, decide_eq_true_eq] at h1 h2
      have := a6y (a := u) (b := v); omega
    have e : x = y := by
      rcases List.mem_cons.1 ((h x).1 (List.mem_cons_self ..)) with e | e
      · exact e
      · rcases List.mem_cons.1 ((h y).2 (List.mem_cons_self ..)) with e2 | e2
        · exact e2.symm
        · exact (tr x y (ha'.1 y e2) (hb'.1 x e)).elim
    subst e
    congr 1
    refine a9P ha'.2 hb'.2 fun z => ⟨fun hz => ?_, fun hz => ?_⟩
    · rcases List.mem_cons.1 ((h z).1 (List.mem_cons_of_mem _ hz)) with e | e
      · subst e; exact (irr z (ha'.1 z hz)).elim
      · exact e
    · rcases List.mem_cons.1 ((h z).2 (List.mem_cons_of_mem _ hz)) with e | e
      · subst e; exact (irr z (hb'.1 z hz)).elim
      · exact e
theorem a6z (h : a0q x) : ∀ {g : Nat}, g ≤ x.length → a0q (a0T x k lim g) ∧ ∀ f ∈ a0T x k lim g, ∃ i, i < g ∧ x[i]? = some f
  | 0, _ => ⟨.nil, fun f hf => by simp [a0T] at hf⟩
  | g + 1, hg => by
    obtain ⟨i1, i2⟩ := a6z h (g := g) (by omega)
    by_cases hc : ((g : Int) - k + x.length) % x.length < lim
    · rw [← b5F (by omega) hc]
      refine ⟨List.pairwise_append.2 ⟨i1, List.pairwise_singleton _ _, fun u hu v hv => ?_⟩, fun f hf => ?_⟩
      · simp only [List.mem_singleton] at hv; subst hv
        obtain ⟨i, hi, e⟩ := i2 u hu
        obtain ⟨hi2, rfl⟩ := List.getElem?_eq_some_iff.1 e
        exact List.pairwise_iff_getElem.1 h i g hi2 (by omega) hi
      · rcases List.mem_append.1 hf with hf | hf
        · obtain ⟨i, hi, e⟩ := i2 f hf; exact ⟨i, by omega, e⟩
        · simp only [List.mem_singleton] at hf; subst hf
          exact ⟨g, by omega, List.getElem?_eq_getElem (by omega)⟩
    · rw [← b4Z hc]
      exact ⟨i1, fun f hf => by obtain ⟨i, hi, e⟩ := i2 f hf; exact ⟨i, by omega, e⟩⟩
theorem b5E {n : Nat} {i : Nat} (hn : 0 < n) (h0 : 0 ≤ k ∧ k < n) (hi : i < n) : ((k + ((i : Int) - k + n) % n) % n).toNat = i := by
  have e : (k + ((i : Int) - k + n) % n) % n = i := by
    rw [Int.add_emod, Int.emod_emod_of_dvd _ (Int.dvd_refl _), ← Int.add_emod, show k + ((i : Int) - k + n) = i + n from by omega, Int.add_emod_right]
    exact Int.emod_eq_of_lt (by omega) (by omega)
  rw [e]; simp
theorem b4O {n : Nat} {j : Nat} (hn : 0 < n) (h0 : 0 ≤ k ∧ k < n) (hj : j < n) : ((((k + j) % n).toNat : Int) - k + n) % n = j := by
  have h1 := Int.emod_nonneg (k + (j : Int)) (show (n : Int) ≠ 0 by omega)
  rw [show (((k + (j : Int)) % n).toNat : Int) = (k + j) % n from by omega]
  rw [show (k + (j : Int)) % n - k + n = (k + j) % n + (n - k) from by omega, Int.emod_add_emod, show k + (j : Int) + (n - k) = j + n from by omega, Int.add_emod_right]
  exact Int.emod_eq_of_lt (by omega) (by omega)
theorem b4Y (h : a0q x) (h0 : 0 ≤ k ∧ k < x.length) (hl : 0 ≤ lim ∧ lim ≤ x.length) : a1e x k lim.toNat = a0T x k lim x.length := by
  have hn : 0 < x.length := by omega
  refine a9P (a5V .nil) (a6z h (Nat.le_refl _)).1 fun y => ?_
  unfold a0T a1e
  rw [a2S]
  simp only [List.mem_map, List.mem_filter, List.mem_range, List.not_mem_nil, false_or, b0w, decide_eq_true_eq]
  constructor
  · rintro ⟨j, hj, rfl⟩
    have h1 := a9Q (g := j) h0.1 hn
    have h2 := b4O (n := x.length) (j := j) hn h0 (by omega)
    exact ⟨((k + j) % x.length).toNat, ⟨h1.2, by rw [h2]; omega⟩, rfl⟩
  · rintro ⟨i, ⟨hi, hc⟩, rfl⟩
    have h1 := Int.emod_nonneg ((i : Int) - k + x.length) (show (x.length : Int) ≠ 0 by omega)
    have h2 := b5E (n := x.length) (i := i) hn h0 hi
    refine ⟨(((i : Int) - k + x.length) % x.length).toNat, by omega, ?_⟩
    rw [show ((((i : Int) - k + x.length) % x.length).toNat : Int) = ((i : Int) - k + x.length) % x.length from by omega, h2]
theorem a7k {s : List Int} (h : B7 s d8 = true) : a0q d8 := by
  have h := (Bool.and_eq_true_iff.1 h).1
  simp only [a0f, List.drop_zero, Bool.and_eq_true, List.all_eq_true] at h
  exact a5S (fun a b c h1 h2 => by simp only [ltF, decide_eq_true_eq] at h1 h2 ⊢; exact b1q h1 h2) h.2
theorem b4L {s : List Int} (h : K8 s l a = true) : 0 ≤ a0l l a ∧ a0l l a ≤ 9 := by
  have h1 := V2 h
  have h2 := a5O h1.1 (atM l a.1) (by rw [M5 h1.2.1.2]; exact List.getElem_mem _)
  simp only [J9, W1, Bool.and_eq_true] at h2
  unfold a0l
  have : inR (atM l a.1).2.2.1 0 9 = true := by grind
  exact S5 this
theorem a3m : (j6 l d8 a).length ≤ d8.length := List.length_filter_le _ _
theorem a5q (h : a0q d8) : a0q (j6 l d8 a) := List.Pairwise.filter _ h
theorem a5o (h : a0l l a = 0 ∨ ((j6 l d8 a).length : Int) ≤ a0l l a) : j6 l d8 a = n0 l d8 a c := by rw [n0, if_pos h]
theorem b3m (ha : a0q d8) (h0 : 0 ≤ a0l l a) (h : ¬ a0l l a = 0) (h2 : ¬ ((j6 l d8 a).length : Int) ≤ a0l l a) (hg : (g : Int) = a0l l a) : a1e (j6 l d8 a) (max c 0 % ((j6 l d8 a).length : Int)) g = n0 l d8 a c := by
  rw [n0, if_neg (by omega), show max c 0 = max 0 c from by omega, show g = (a0l l a).toNat from by omega]
  have h3 := Int.emod_nonneg (max 0 c) (show ((j6 l d8 a).length : Int) ≠ 0 by omega)
  have h4 := Int.emod_lt_of_pos (max 0 c) (show 0 < ((j6 l d8 a).length : Int) by omega)
  exact b4Y (a5q ha) ⟨h3, h4⟩ (by omega)
theorem b4l {f : Fct} (h : f ∈ n0 l d8 a c) : f ∈ d8 := by
  unfold n0 at h
  split at h
  · exact (List.mem_filter.1 h).1
  · exact (List.mem_filter.1 (b3j (Nat.le_refl _) h)).1
theorem b1e : (n0 l d8 a c).length ≤ d8.length := by
  unfold n0
  split
  · exact a3m
  · exact Nat.le_trans b3F a3m
end
/-! ### accesses and their cost -/
def V8 (m : Mth) (a : AT2) (b : List Int × List Int) : List Int := m.2.1.map fun i => w4 b (at0 a.2 i)
def X7 (l : List Mth) (m : Int) : Int := if (inR m 0 ((l.length : Int) - 1) && inR (atM l m).2.2.2.1 0 99) = true then (atM l m).2.2.2.1 else 0
def U7 (l : List Mth) (log : List (Int × List Int)) : Int := log.foldl (fun n a => n + X7 l a.1) 0
section
variable {l : List Mth} {m i : Int} {g : Nat} {a : AT2} {b : List Int × List Int} {mm : Mth} {log : List (Int × List Int)}
theorem b0p {x : List Int} (hg : g < x.length) (h : 0 ≤ x[g] ∧ x[g].toNat < a.2.length) : (x.take g).map (fun i => w4 b (at0 a.2 i)) ++ [w4 b (a.2[x[g].toNat]'h.2)] = (x.take (g + 1)).map fun i => w4 b (at0 a.2 i) := by
  rw [List.take_succ_eq_append_getElem hg, List.map_append]
  congr 1
  simp [at0, List.getD, h.2]
theorem a4h (h : inR m 0 ((l.length : Int) - 1) = false) : 0 = X7 l m := by rw [X7, h]; rfl
theorem a4d (h : m.toNat < l.length) (h2 : inR l[m.toNat].2.2.2.1 0 99 = false) : 0 = X7 l m := by rw [X7, M5 h, h2, Bool.and_false]; rfl
theorem a3S (h1 : inR m 0 ((l.length : Int) - 1) = true) (h : m.toNat < l.length) (h2 : inR l[m.toNat].2.2.2.1 0 99 = true) : l[m.toNat].2.2.2.1 = X7 l m := by rw [X7, M5 h, h1, h2]; rfl
theorem b0B : 0 ≤ X7 l m ∧ X7 l m ≤ 99 := by
  unfold X7
  split
  · rename_i h; have := S5 (Bool.and_eq_true_iff.1 h).2; omega
  · omega
theorem a8J : ∀ {log : List (Int × List Int)} {n : Int}, n ≤ log.foldl (fun n a => n + X7 l a.1) n ∧ log.foldl (fun n a => n + X7 l a.1) n ≤ n + 99 * log.length
  | [], n => by simp
  | x :: log, n => by
    have ih := a8J (log := log) (n := n + X7 l x.1)
    have := b0B (l := l) (m := x.1)
    rw [List.foldl_cons, List.length_cons]
    omega
theorem a9N : 0 ≤ U7 l log ∧ U7 l log ≤ 99 * log.length := by
  have := a8J (l := l) (log := log) (n := 0)
  unfold U7; omega
theorem a1y (h : g < log.length) : U7 l (log.take g) + X7 l log[g].1 = U7 l (log.take (g + 1)) := by
  unfold U7; rw [a1p h]
theorem a0N (h : g < log.length) (h2 : 0 = X7 l log[g].1) : U7 l (log.take g) = U7 l (log.take (g + 1)) := by
  rw [← a1y h, ← h2, Int.add_zero]
end
end Go.Proofs.YtdopeopehgdccaaGreat
