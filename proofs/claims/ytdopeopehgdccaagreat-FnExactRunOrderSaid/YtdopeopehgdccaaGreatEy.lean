import Derived.Test.YtdopeopehgdccaaGreatEx
import Derived.Test.YtdopeopehgdccaaGreatDz
namespace Go.Proofs.YtdopeopehgdccaaGreat
open Go.RowKit
set_option linter.unusedVariables false
set_option linter.unusedSimpArgs false
section
variable {P : Program} {n : Nat} {fr : Fr}
theorem Y.remV {x y : Operand} {T U : TypeId} {a b : Int} (hx : ev fr x = some (.int .i64 a)) (hy : ev fr y = some (.int .i64 b)) (ha : 0 ≤ a) (hb : 1 ≤ b) : Yp P n fr (.binOp .rem T x y U) (.int .i64 (a % b)) := fun ac hF w' d t p af g => by
  have h2 : ¬ b = 0 := by omega
  have h3 : a.tmod b = a % b := Int.tmod_eq_emod_of_nonneg ha
  simp [execOp, hF.ev hx, hF.ev hy, eqGuard_rem, binOp_rem, Op.intDiv, h2, h3]
theorem Y.mx2 {x y : Operand} {ts : Array TypeId} {a b : Int} (hx : ev fr x = some (.int .i64 a)) (hy : ev fr y = some (.int .i64 b)) : Yp P n fr (.call ⟨.builtin .max, #[x, y], ts⟩) (.int .i64 (max a b)) := fun ac h w' d t p af g => by
  have e : (if a < b then b else a) = max a b := by split <;> omega
  simp [execOp, resolve, invoke, builtin, Builtin.max_, Builtin.max2, h.ev hx, h.ev hy, ← e]
end
def a7m (n : Nat) (k lim : Int) (i : Nat) : Bool := decide (((i : Int) - k + n) % n < lim)
def Q6 (x : List Fct) (k lim : Int) (g : Nat) : List Fct := ((List.range g).filter (a7m x.length k lim)).map fun i => x.getD i (0, [])
def a0t (x : List Fct) (k : Int) (g : Nat) : List Fct := ((List.range g).map fun j : Nat => x.getD ((k + j) % x.length).toNat (0, [])).foldl y4 []
def J0 (l : List Mth) (a : Int × List Int) : Int := (atM l a.1).2.2.1
def C0 (l : List Mth) (d8 : List Fct) (a : Int × List Int) : List Fct := d8.filter (z6 (atM l a.1) a.2)
def f7 (l : List Mth) (d8 : List Fct) (a : Int × List Int) (c : Int) : List Fct :=
  if J0 l a = 0 ∨ ((C0 l d8 a).length : Int) ≤ J0 l a then C0 l d8 a
  else Q6 (C0 l d8 a) (max 0 c % ((C0 l d8 a).length : Int)) (J0 l a) (C0 l d8 a).length
section
variable {x : List Fct} {k lim c : Int} {g : Nat} {l : List Mth} {d8 : List Fct} {a : Int × List Int}
theorem a7a (hg : g < x.length) (h : ((g : Int) - k + x.length) % x.length < lim) : Q6 x k lim g ++ [x[g]] = Q6 x k lim (g + 1) := by
  unfold Q6
  rw [List.range_succ, List.filter_append, List.map_append, List.filter_cons_of_pos (by unfold a7m; exact decide_eq_true h)]
  simp [List.getD, hg]
theorem a7S (h : ¬ ((g : Int) - k + x.length) % x.length < lim) : Q6 x k lim g = Q6 x k lim (g + 1) := by
  unfold Q6
  rw [List.range_succ, List.filter_append, List.map_append, List.filter_cons_of_neg (by unfold a7m; rw [decide_eq_false h]; decide)]; simp
theorem a7d : (Q6 x k lim g).length ≤ g := by
  unfold Q6
  rw [List.length_map]
  have := List.length_filter_le (a7m x.length k lim) (List.range g)
  simpa using this
theorem b0i {f : Fct} (hg : g ≤ x.length) (h : f ∈ Q6 x k lim g) : f ∈ x := by
  unfold Q6 at h
  obtain ⟨i, hi, rfl⟩ := List.mem_map.1 h
  have h1 := List.mem_range.1 (List.mem_filter.1 hi).1
  rw [F5 (by omega : i < x.length)]; exact List.getElem_mem _
theorem a9I {j : Nat} (hj : j < x.length) (e : ((k + g) % x.length).toNat = j) : y4 (a0t x k g) x[j] = a0t x k (g + 1) := by
  unfold a0t
  rw [List.range_succ, List.map_append, List.foldl_append]
  simp only [List.map_cons, List.map_nil, List.foldl_cons, List.foldl_nil, e, F5 hj]
theorem a1h : ∀ {m v : List Fct}, (m.foldl y4 v).length ≤ v.length + m.length
  | [], v => by simp
  | f :: m, v => by
    have ih := a1h (m := m) (v := y4 v f)
    have h1 : (y4 v f).length ≤ v.length + 1 := by
      cases hh : F1 v f
      · rw [a2u hh]; simp only [List.length_append, List.length_cons, List.length_take, List.length_drop]; omega
      · rw [a1j hh]; omega
    rw [List.foldl_cons, List.length_cons]; omega
theorem b0e : (a0t x k g).length ≤ g := by
  have := a1h (m := (List.range g).map fun j : Nat => x.getD ((k + j) % x.length).toNat (0, [])) (v := [])
  simpa [a0t] using this
theorem a7E (h0 : 0 ≤ k) (hn : 0 < x.length) : 0 ≤ (k + (g : Int)) % (x.length : Int) ∧ ((k + (g : Int)) % (x.length : Int)).toNat < x.length := by
  have h1 := Int.emod_nonneg (k + (g : Int)) (show (x.length : Int) ≠ 0 by omega)
  have h2 := Int.emod_lt_of_pos (k + (g : Int)) (show 0 < (x.length : Int) by omega)
  omega
theorem b0j {f : Fct} (h0 : 0 ≤ k) (hn : 0 < x.length) (h : f ∈ a0t x k g) : f ∈ x := by
  unfold a0t at h
  rcases (a1w f).1 h with h | h
  · simp at h
  · obtain ⟨j, hj, rfl⟩ := List.mem_map.1 h
    have := a7E (g := j) h0 hn
    rw [F5 this.2]; exact List.getElem_mem _
theorem a7x : ∀ {a b : List Fct}, Z0 a → Z0 b → (∀ y, y ∈ a ↔ y ∈ b) → a = b
  | [], [], _, _, _ => rfl
  | [], y :: b, _, _, h => by have := (h y).2 (List.mem_cons_self ..); simp at this
  | x :: a, [], _, _, h => by have := (h x).1 (List.mem_cons_self ..); simp at this
  | x :: a, y :: b, ha, hb, h => by
    have ha' := List.pairwise_cons.1 ha
    have hb' := List.pairwise_cons.1 hb
    have irr : ∀ z : Fct, ltF z z = true → False := fun z hz => by simp [ltF, a0X.2 rfl] at hz
    have tr : ∀ u v : Fct, ltF u v = true → ltF v u = true → False := fun u v h1 h2 => by
      simp only [ltF, decide_eq_true_eq] at h1 h2
      have := a4m (a := u) (b := v); omega
    have e : x = y := by
      rcases List.mem_cons.1 ((h x).1 (List.mem_cons_self ..)) with e | e
      · exact e
      · rcases List.mem_cons.1 ((h y).2 (List.mem_cons_self ..)) with e2 | e2
        · exact e2.symm
        · exact (tr x y (ha'.1 y e2) (hb'.1 x e)).elim
    subst e
    congr 1
    refine a7x ha'.2 hb'.2 fun z => ⟨fun hz => ?_, fun hz => ?_⟩
    · rcases List.mem_cons.1 ((h z).1 (List.mem_cons_of_mem _ hz)) with e | e
      · subst e; exact (irr z (ha'.1 z hz)).elim
      · exact e
    · rcases List.mem_cons.1 ((h z).2 (List.mem_cons_of_mem _ hz)) with e | e
      · subst e; exact (irr z (hb'.1 z hz)).elim
      · exact e
theorem a2g (h : Z0 x) : ∀ {g : Nat}, g ≤ x.length → Z0 (Q6 x k lim g) ∧ ∀ f ∈ Q6 x k lim g, ∃ i, i < g ∧ x[i]? = some f
  | 0, _ => ⟨.nil, fun f hf => by simp [Q6] at hf⟩
  | g + 1, hg => by
    obtain ⟨i1, i2⟩ := a2g h (g := g) (by omega)
    by_cases hc : ((g : Int) - k + x.length) % x.length < lim
    · rw [← a7a (by omega) hc]
      refine ⟨List.pairwise_append.2 ⟨i1, List.pairwise_singleton _ _, fun u hu v hv => ?_⟩, fun f hf => ?_⟩
      · simp only [List.mem_singleton] at hv; subst hv
        obtain ⟨i, hi, e⟩ := i2 u hu
        obtain ⟨hi2, rfl⟩ := List.getElem?_eq_some_iff.1 e
        exact List.pairwise_iff_getElem.1 h i g hi2 (by omega) hi
      · rcases List.mem_append.1 hf with hf | hf
        · obtain ⟨i, hi, e⟩ := i2 f hf; exact ⟨i, by omega, e⟩
        · simp only [List.mem_singleton] at hf; subst hf
          exact ⟨g, by omega, List.getElem?_eq_getElem (by omega)⟩
    · rw [← a7S hc]
      exact ⟨i1, fun f hf => by obtain ⟨i, hi, e⟩ := i2 f hf; exact ⟨i, by omega, e⟩⟩
theorem b1D {n : Nat} {i : Nat} (hn : 0 < n) (h0 : 0 ≤ k ∧ k < n) (hi : i < n) : ((k + ((i : Int) - k + n) % n) % n).toNat = i := by
  have e : (k + ((i : Int) - k + n) % n) % n = i := by
    rw [Int.add_emod, Int.emod_emod_of_dvd _ (Int.dvd_refl _), ← Int.add_emod, show k + ((i : Int) - k + n) = i + n from by omega, Int.add_emod_right]
    exact Int.emod_eq_of_lt (by omega) (by omega)
  rw [e]; simp
theorem b0U {n : Nat} {j : Nat} (hn : 0 < n) (h0 : 0 ≤ k ∧ k < n) (hj : j < n) : ((((k + j) % n).toNat : Int) - k + n) % n = j := by
  have h1 := Int.emod_nonneg (k + (j : Int)) (show (n : Int) ≠ 0 by omega)
  rw [show (((k + (j : Int)) % n).toNat : Int) = (k + j) % n from by omega]
  rw [show (k + (j : Int)) % n - k + n = (k + j) % n + (n - k) from by omega, Int.emod_add_emod, show k + (j : Int) + (n - k) = j + n from by omega, Int.add_emod_right]
  exact Int.emod_eq_of_lt (by omega) (by omega)
theorem b1y (h : Z0 x) (h0 : 0 ≤ k ∧ k < x.length) (hl : 0 ≤ lim ∧ lim ≤ x.length) : a0t x k lim.toNat = Q6 x k lim x.length := by
  have hn : 0 < x.length := by omega
  refine a7x (a3O .nil) (a2g h (Nat.le_refl _)).1 fun y => ?_
  unfold Q6 a0t
  rw [a1w]
  simp only [List.mem_map, List.mem_filter, List.mem_range, List.not_mem_nil, false_or, a7m, decide_eq_true_eq]
  constructor
  · rintro ⟨j, hj, rfl⟩
    have h1 := a7E (g := j) h0.1 hn
    have h2 := b0U (n := x.length) (j := j) hn h0 (by omega)
    exact ⟨((k + j) % x.length).toNat, ⟨h1.2, by rw [h2]; omega⟩, rfl⟩
  · rintro ⟨i, ⟨hi, hc⟩, rfl⟩
    have h1 := Int.emod_nonneg ((i : Int) - k + x.length) (show (x.length : Int) ≠ 0 by omega)
    have h2 := b1D (n := x.length) (i := i) hn h0 hi
    refine ⟨(((i : Int) - k + x.length) % x.length).toNat, by omega, ?_⟩
    rw [show ((((i : Int) - k + x.length) % x.length).toNat : Int) = ((i : Int) - k + x.length) % x.length from by omega, h2]
theorem a2U {s : List Int} (h : C5 s d8 = true) : Z0 d8 := by
  have h := (Bool.and_eq_true_iff.1 h).1
  simp only [X2, List.drop_zero, Bool.and_eq_true, List.all_eq_true] at h
  exact a3F (fun a b c h1 h2 => by simp only [ltF, decide_eq_true_eq] at h1 h2 ⊢; exact a8x h1 h2) h.2
theorem a8r {s : List Int} (h : I0 s l a = true) : 0 ≤ J0 l a ∧ J0 l a ≤ 9 := by
  have h1 := P2 h
  have h2 := a3I h1.1 (atM l a.1) (by rw [H2 h1.2.1.2]; exact List.getElem_mem _)
  simp only [H6, S7, Bool.and_eq_true] at h2
  unfold J0
  have : inR (atM l a.1).2.2.1 0 9 = true := by grind
  exact O1 this
theorem a5z : (C0 l d8 a).length ≤ d8.length := List.length_filter_le _ _
theorem a1K (h : Z0 d8) : Z0 (C0 l d8 a) := List.Pairwise.filter _ h
theorem a1Q (h : J0 l a = 0 ∨ ((C0 l d8 a).length : Int) ≤ J0 l a) : C0 l d8 a = f7 l d8 a c := by rw [f7, if_pos h]
theorem b0T (h : ¬ J0 l a = 0) (h2 : ¬ ((C0 l d8 a).length : Int) ≤ J0 l a) (hg : g = (C0 l d8 a).length) : Q6 (C0 l d8 a) (max 0 c % ((C0 l d8 a).length : Int)) (J0 l a) g = f7 l d8 a c := by
  rw [f7, if_neg (by omega), hg]
theorem b0a (ha : Z0 d8) (h0 : 0 ≤ J0 l a) (h : ¬ J0 l a = 0) (h2 : ¬ ((C0 l d8 a).length : Int) ≤ J0 l a) (hg : (g : Int) = J0 l a) : a0t (C0 l d8 a) (max c 0 % ((C0 l d8 a).length : Int)) g = f7 l d8 a c := by
  rw [f7, if_neg (by omega), show max c 0 = max 0 c from by omega, show g = (J0 l a).toNat from by omega]
  have h3 := Int.emod_nonneg (max 0 c) (show ((C0 l d8 a).length : Int) ≠ 0 by omega)
  have h4 := Int.emod_lt_of_pos (max 0 c) (show 0 < ((C0 l d8 a).length : Int) by omega)
  exact b1y (a1K ha) ⟨h3, h4⟩ (by omega)
theorem a8i {f : Fct} (h : f ∈ f7 l d8 a c) : f ∈ d8 := by
  unfold f7 at h
  split at h
  · exact (List.mem_filter.1 h).1
  · exact (List.mem_filter.1 (b0i (Nat.le_refl _) h)).1
theorem a3m : (f7 l d8 a c).length ≤ d8.length := by
  unfold f7
  split
  · exact a5z
  · exact Nat.le_trans a7d a5z
end
/-! ### accesses and their cost -/
def U8 (m : Mth) (a : AT2) (b : List Int × List Int) : List Int := m.2.1.map fun i => B7 b (at0 a.2 i)
def V4 (l : List Mth) (m : Int) : Int := if (inR m 0 ((l.length : Int) - 1) && inR (atM l m).2.2.2.1 0 99) = true then (atM l m).2.2.2.1 else 0
def P6 (l : List Mth) (log : List (Int × List Int)) : Int := log.foldl (fun n a => n + V4 l a.1) 0
section
variable {l : List Mth} {m i : Int} {g : Nat} {a : AT2} {b : List Int × List Int} {mm : Mth} {log : List (Int × List Int)}
theorem a7C {x : List Int} (hg : g < x.length) (h : 0 ≤ x[g] ∧ x[g].toNat < a.2.length) : (x.take g).map (fun i => B7 b (at0 a.2 i)) ++ [B7 b (a.2[x[g].toNat]'h.2)] = (x.take (g + 1)).map fun i => B7 b (at0 a.2 i) := by
  rw [List.take_succ_eq_append_getElem hg, List.map_append]
  congr 1
  simp [at0, List.getD, h.2]
theorem a2f (h : inR m 0 ((l.length : Int) - 1) = false) : 0 = V4 l m := by rw [V4, h]; rfl
theorem a2l (h : m.toNat < l.length) (h2 : inR l[m.toNat].2.2.2.1 0 99 = false) : 0 = V4 l m := by rw [V4, H2 h, h2, Bool.and_false]; rfl
theorem a2h (h1 : inR m 0 ((l.length : Int) - 1) = true) (h : m.toNat < l.length) (h2 : inR l[m.toNat].2.2.2.1 0 99 = true) : l[m.toNat].2.2.2.1 = V4 l m := by rw [V4, H2 h, h1, h2]; rfl
theorem a7I : 0 ≤ V4 l m ∧ V4 l m ≤ 99 := by
  unfold V4
  split
  · rename_i h; have := O1 (Bool.and_eq_true_iff.1 h).2; omega
  · omega
theorem a6b : ∀ {log : List (Int × List Int)} {n : Int}, n ≤ log.foldl (fun n a => n + V4 l a.1) n ∧ log.foldl (fun n a => n + V4 l a.1) n ≤ n + 99 * log.length
  | [], n => by simp
  | x :: log, n => by
    have ih := a6b (log := log) (n := n + V4 l x.1)
    have := a7I (l := l) (m := x.1)
    rw [List.foldl_cons, List.length_cons]
    omega
theorem a3X : 0 ≤ P6 l log ∧ P6 l log ≤ 99 * log.length := by
  have := a6b (l := l) (log := log) (n := 0)
  unfold P6; omega
theorem a0G (h : g < log.length) : P6 l (log.take g) + V4 l log[g].1 = P6 l (log.take (g + 1)) := by
  unfold P6; rw [Y8 h]
theorem a0f (h : g < log.length) (h2 : 0 = V4 l log[g].1) : P6 l (log.take g) = P6 l (log.take (g + 1)) := by
  rw [← a0G h, ← h2, Int.add_zero]
end
end Go.Proofs.YtdopeopehgdccaaGreat
