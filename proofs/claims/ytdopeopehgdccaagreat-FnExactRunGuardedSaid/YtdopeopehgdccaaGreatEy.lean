import Derived.Test.YtdopeopehgdccaaGreatEx
import Derived.Test.YtdopeopehgdccaaGreatDz
namespace Go.Proofs.YtdopeopehgdccaaGreat
open Go.RowKit
set_option linter.unusedVariables false
set_option linter.unusedSimpArgs false
section
variable {P : Program} {n : Nat} {fr : Fr}
theorem b5Q {x y : Operand} {T U : TypeId} {a b : Int} (hx : ev fr x = some (.int .i64 a)) (hy : ev fr y = some (.int .i64 b)) (ha : 0 ≤ a) (hb : 1 ≤ b) : Yp P n fr (.binOp .rem T x y U) (.int .i64 (a % b)) := fun ac hF w' d t p af g => by
 have h2 : ¬ b = 0 := by omega
 have h3 : a.tmod b = a % b := Int.tmod_eq_emod_of_nonneg ha
 simp [execOp, hF.ev hx, hF.ev hy, eqGuard_rem, binOp_rem, Op.intDiv, h2, h3]
theorem b9N {x y : Operand} {ts : Array TypeId} {a b : Int} (hx : ev fr x = some (.int .i64 a)) (hy : ev fr y = some (.int .i64 b)) : Yp P n fr (.call ⟨.builtin .max, #[x, y], ts⟩) (.int .i64 (max a b)) := fun ac h w' d t p af g => by
 have e : (if a < b then b else a) = max a b := by split <;> omega
 simp [execOp, resolve, invoke, builtin, Builtin.max_, Builtin.max2, h.ev hx, h.ev hy, ← e]
end
def b2u (n : Nat) (k lim : Int) (i : Nat) : Bool := decide (((i : Int) - k + n) % n < lim)
def a2I (x : List Fct) (k lim : Int) (g : Nat) : List Fct := ((List.range g).filter (b2u x.length k lim)).map fun i => x.getD i (0, [])
def a2Y (x : List Fct) (k : Int) (g : Nat) : List Fct := ((List.range g).map fun j : Nat => x.getD ((k + j) % x.length).toNat (0, [])).foldl F0 []
def a2J (l : List Mth) (a : Int × List Int) : Int := (atM l a.1).2.2.1
def l2 (l : List Mth) (d8 : List Fct) (a : Int × List Int) : List Fct := d8.filter (T0 (atM l a.1) a.2)
def o7 (l : List Mth) (d8 : List Fct) (a : Int × List Int) (c : Int) : List Fct :=
 if a2J l a = 0 ∨ ((l2 l d8 a).length : Int) ≤ a2J l a then l2 l d8 a
 else a2I (l2 l d8 a) (max 0 c % ((l2 l d8 a).length : Int)) (a2J l a) (l2 l d8 a).length
section
variable {x : List Fct} {k lim c : Int} {g : Nat} {l : List Mth} {d8 : List Fct} {a : Int × List Int}
theorem b8Y (hg : g < x.length) (h : ((g : Int) - k + x.length) % x.length < lim) : a2I x k lim g ++ [x[g]] = a2I x k lim (g + 1) := by
 unfold a2I
 rw [List.range_succ, List.filter_append, List.map_append, List.filter_cons_of_pos (by unfold b2u; exact decide_eq_true h)]
 simp [List.getD, hg]
theorem b8G (h : ¬ ((g : Int) - k + x.length) % x.length < lim) : a2I x k lim g = a2I x k lim (g + 1) := by
 unfold a2I
 rw [List.range_succ, List.filter_append, List.map_append, List.filter_cons_of_neg (by unfold b2u; rw [decide_eq_false h]; decide)]; simp
theorem b6q : (a2I x k lim g).length ≤ g := by
 unfold a2I
 rw [List.length_map]
 have := List.length_filter_le (b2u x.length k lim) (List.range g)
 simpa using this
theorem b6l {f : Fct} (hg : g ≤ x.length) (h : f ∈ a2I x k lim g) : f ∈ x := by
 unfold a2I at h
 obtain ⟨i, hi, rfl⟩ := List.mem_map.1 h
 have h1 := List.mem_range.1 (List.mem_filter.1 hi).1
 rw [J3 (by omega : i < x.length)]; exact List.getElem_mem _
theorem b5r {j : Nat} (hj : j < x.length) (e : ((k + g) % x.length).toNat = j) : F0 (a2Y x k g) x[j] = a2Y x k (g + 1) := by
 unfold a2Y
 rw [List.range_succ, List.map_append, List.foldl_append]
 simp only [List.map_cons, List.map_nil, List.foldl_cons, List.foldl_nil, e, J3 hj]
theorem a4y : ∀ {m v : List Fct}, (m.foldl F0 v).length ≤ v.length + m.length
 | [], v => by simp
 | f :: m, v => by
  have ih := a4y (m := m) (v := F0 v f)
  have h1 : (F0 v f).length ≤ v.length + 1 := by
   cases hh : K6 v f
   ·rw [a6q hh]; simp only [List.length_append, List.length_cons, List.length_take, List.length_drop]; omega
   ·rw [a4z hh]; omega
  rw [List.foldl_cons, List.length_cons]; omega
theorem b6a : (a2Y x k g).length ≤ g := by
 have := a4y (m := (List.range g).map fun j : Nat => x.getD ((k + j) % x.length).toNat (0, [])) (v := [])
 simpa [a2Y] using this
theorem b2J (h0 : 0 ≤ k) (hn : 0 < x.length) : 0 ≤ (k + (g : Int)) % (x.length : Int) ∧ ((k + (g : Int)) % (x.length : Int)).toNat < x.length := by
 have h1 := Int.emod_nonneg (k + (g : Int)) (show (x.length : Int) ≠ 0 by omega)
 have h2 := Int.emod_lt_of_pos (k + (g : Int)) (show 0 < (x.length : Int) by omega)
 omega
theorem b6f {f : Fct} (h0 : 0 ≤ k) (hn : 0 < x.length) (h : f ∈ a2Y x k g) : f ∈ x := by
 unfold a2Y at h
 rcases (a3i f).1 h with h | h
 ·simp at h
 ·obtain ⟨j, hj, rfl⟩ := List.mem_map.1 h
  have := b2J (g := j) h0 hn
  rw [J3 this.2]; exact List.getElem_mem _
theorem b2G : ∀ {a b : List Fct}, a2r a → a2r b → (∀ y, y ∈ a ↔ y ∈ b) → a = b
 | [], [], _, _, _ => rfl
 | [], y :: b, _, _, h => by have := (h y).2 (List.mem_cons_self ..); simp at this
 | x :: a, [], _, _, h => by have := (h x).1 (List.mem_cons_self ..); simp at this
 | x :: a, y :: b, ha, hb, h => by
  have ha' := List.pairwise_cons.1 ha
  have hb' := List.pairwise_cons.1 hb
  have irr : ∀ z : Fct, ltF z z = true → False := fun z hz => by simp [ltF, a4e.2 rfl] at hz
  have tr : ∀ u v : Fct, ltF u v = true → ltF v u = true → False := fun u v h1 h2 => by
   simp only [ltF, decide_eq_true_eq] at h1 h2
   have := a8R (a := u) (b := v); omega
  have e : x = y := by
   rcases List.mem_cons.1 ((h x).1 (List.mem_cons_self ..)) with e | e
   ·exact e
   ·rcases List.mem_cons.1 ((h y).2 (List.mem_cons_self ..)) with e2 | e2
    ·exact e2.symm
    ·exact (tr x y (ha'.1 y e2) (hb'.1 x e)).elim
  subst e
  congr 1
  refine b2G ha'.2 hb'.2 fun z => ⟨fun hz => ?_, fun hz => ?_⟩
  ·rcases List.mem_cons.1 ((h z).1 (List.mem_cons_of_mem _ hz)) with e | e
   ·subst e; exact (irr z (ha'.1 z hz)).elim
   ·exact e
  ·rcases List.mem_cons.1 ((h z).2 (List.mem_cons_of_mem _ hz)) with e | e
   ·subst e; exact (irr z (hb'.1 z hz)).elim
   ·exact e
theorem a8M (h : a2r x) : ∀ {g : Nat}, g ≤ x.length → a2r (a2I x k lim g) ∧ ∀ f ∈ a2I x k lim g, ∃ i, i < g ∧ x[i]? = some f
 | 0, _ => ⟨.nil, fun f hf => by simp [a2I] at hf⟩
 | g + 1, hg => by
  obtain ⟨i1, i2⟩ := a8M h (g := g) (by omega)
  by_cases hc : ((g : Int) - k + x.length) % x.length < lim
  ·rw [← b8Y (by omega) hc]
   refine ⟨List.pairwise_append.2 ⟨i1, List.pairwise_singleton _ _, fun u hu v hv => ?_⟩, fun f hf => ?_⟩
   ·simp only [List.mem_singleton] at hv; subst hv
    obtain ⟨i, hi, e⟩ := i2 u hu
    obtain ⟨hi2, rfl⟩ := List.getElem?_eq_some_iff.1 e
    exact List.pairwise_iff_getElem.1 h i g hi2 (by omega) hi
   ·rcases List.mem_append.1 hf with hf | hf
    ·obtain ⟨i, hi, e⟩ := i2 f hf; exact ⟨i, by omega, e⟩
    ·simp only [List.mem_singleton] at hf; subst hf
     exact ⟨g, by omega, List.getElem?_eq_getElem (by omega)⟩
  ·rw [← b8G hc]
   exact ⟨i1, fun f hf => by obtain ⟨i, hi, e⟩ := i2 f hf; exact ⟨i, by omega, e⟩⟩
theorem b8Z {n : Nat} {i : Nat} (hn : 0 < n) (h0 : 0 ≤ k ∧ k < n) (hi : i < n) : ((k + ((i : Int) - k + n) % n) % n).toNat = i := by
 have e : (k + ((i : Int) - k + n) % n) % n = i := by
  rw [Int.add_emod, Int.emod_emod_of_dvd _ (Int.dvd_refl _), ← Int.add_emod, show k + ((i : Int) - k + n) = i + n from by omega, Int.add_emod_right]
  exact Int.emod_eq_of_lt (by omega) (by omega)
 rw [e]; simp
theorem b7P {n : Nat} {j : Nat} (hn : 0 < n) (h0 : 0 ≤ k ∧ k < n) (hj : j < n) : ((((k + j) % n).toNat : Int) - k + n) % n = j := by
 have h1 := Int.emod_nonneg (k + (j : Int)) (show (n : Int) ≠ 0 by omega)
 rw [show (((k + (j : Int)) % n).toNat : Int) = (k + j) % n from by omega]
 rw [show (k + (j : Int)) % n - k + n = (k + j) % n + (n - k) from by omega, Int.emod_add_emod, show k + (j : Int) + (n - k) = j + n from by omega, Int.add_emod_right]
 exact Int.emod_eq_of_lt (by omega) (by omega)
theorem b8W (h : a2r x) (h0 : 0 ≤ k ∧ k < x.length) (hl : 0 ≤ lim ∧ lim ≤ x.length) : a2Y x k lim.toNat = a2I x k lim x.length := by
 have hn : 0 < x.length := by omega
 refine b2G (a8S .nil) (a8M h (Nat.le_refl _)).1 fun y => ?_
 unfold a2I a2Y
 rw [a3i]
 simp only [List.mem_map, List.mem_filter, List.mem_range, List.not_mem_nil, false_or, b2u, decide_eq_true_eq]
 constructor
 ·rintro ⟨j, hj, rfl⟩
  have h1 := b2J (g := j) h0.1 hn
  have h2 := b7P (n := x.length) (j := j) hn h0 (by omega)
  exact ⟨((k + j) % x.length).toNat, ⟨h1.2, by rw [h2]; omega⟩, rfl⟩
 ·rintro ⟨i, ⟨hi, hc⟩, rfl⟩
  have h1 := Int.emod_nonneg ((i : Int) - k + x.length) (show (x.length : Int) ≠ 0 by omega)
  have h2 := b8Z (n := x.length) (i := i) hn h0 hi
  refine ⟨(((i : Int) - k + x.length) % x.length).toNat, by omega, ?_⟩
  rw [show ((((i : Int) - k + x.length) % x.length).toNat : Int) = ((i : Int) - k + x.length) % x.length from by omega, h2]
theorem a9E {s : List Int} (h : F2 s d8 = true) : a2r d8 := by
 have h := (Bool.and_eq_true_iff.1 h).1
 simp only [a1X, List.drop_zero, Bool.and_eq_true, List.all_eq_true] at h
 exact a8r (fun a b c h1 h2 => by simp only [ltF, decide_eq_true_eq] at h1 h2 ⊢; exact b3N h1 h2) h.2
theorem b7M {s : List Int} (h : Q0 s l a = true) : 0 ≤ a2J l a ∧ a2J l a ≤ 9 := by
 have h1 := R0 h
 have h2 := a8n h1.1 (atM l a.1) (by rw [P3 h1.2.1.2]; exact List.getElem_mem _)
 simp only [S3, a1j, Bool.and_eq_true] at h2
 unfold a2J
 have : inR (atM l a.1).2.2.1 0 9 = true := by grind
 exact W2 this
theorem a5y : (l2 l d8 a).length ≤ d8.length := List.length_filter_le _ _
theorem a7O (h : a2r d8) : a2r (l2 l d8 a) := List.Pairwise.filter _ h
theorem a7M (h : a2J l a = 0 ∨ ((l2 l d8 a).length : Int) ≤ a2J l a) : l2 l d8 a = o7 l d8 a c := by rw [o7, if_pos h]
theorem b6I (ha : a2r d8) (h0 : 0 ≤ a2J l a) (h : ¬ a2J l a = 0) (h2 : ¬ ((l2 l d8 a).length : Int) ≤ a2J l a) (hg : (g : Int) = a2J l a) : a2Y (l2 l d8 a) (max c 0 % ((l2 l d8 a).length : Int)) g = o7 l d8 a c := by
 rw [o7, if_neg (by omega), show max c 0 = max 0 c from by omega, show g = (a2J l a).toNat from by omega]
 have h3 := Int.emod_nonneg (max 0 c) (show ((l2 l d8 a).length : Int) ≠ 0 by omega)
 have h4 := Int.emod_lt_of_pos (max 0 c) (show 0 < ((l2 l d8 a).length : Int) by omega)
 exact b8W (a7O ha) ⟨h3, h4⟩ (by omega)
theorem b7U {f : Fct} (h : f ∈ o7 l d8 a c) : f ∈ d8 := by
 unfold o7 at h
 split at h
 ·exact (List.mem_filter.1 h).1
 ·exact (List.mem_filter.1 (b6l (Nat.le_refl _) h)).1
theorem b3L : (o7 l d8 a c).length ≤ d8.length := by
 unfold o7
 split
 ·exact a5y
 ·exact Nat.le_trans b6q a5y
end
def N7 (m : Mth) (a : AT2) (b : List Int × List Int) : List Int := m.2.1.map fun i => F3 b (at0 a.2 i)
def a1A (l : List Mth) (m : Int) : Int := if (inR m 0 ((l.length : Int) - 1) && inR (atM l m).2.2.2.1 0 99) = true then (atM l m).2.2.2.1 else 0
def a0m (l : List Mth) (log : List (Int × List Int)) : Int := log.foldl (fun n a => n + a1A l a.1) 0
section
variable {l : List Mth} {m i : Int} {g : Nat} {a : AT2} {b : List Int × List Int} {mm : Mth} {log : List (Int × List Int)}
theorem b2Y {x : List Int} (hg : g < x.length) (h : 0 ≤ x[g] ∧ x[g].toNat < a.2.length) : (x.take g).map (fun i => F3 b (at0 a.2 i)) ++ [F3 b (a.2[x[g].toNat]'h.2)] = (x.take (g + 1)).map fun i => F3 b (at0 a.2 i) := by
 rw [List.take_succ_eq_append_getElem hg, List.map_append]
 congr 1
 simp [at0, List.getD, h.2]
theorem a6y (h : inR m 0 ((l.length : Int) - 1) = false) : 0 = a1A l m := by rw [a1A, h]; rfl
theorem a6w (h : m.toNat < l.length) (h2 : inR l[m.toNat].2.2.2.1 0 99 = false) : 0 = a1A l m := by rw [a1A, P3 h, h2, Bool.and_false]; rfl
theorem a6e (h1 : inR m 0 ((l.length : Int) - 1) = true) (h : m.toNat < l.length) (h2 : inR l[m.toNat].2.2.2.1 0 99 = true) : l[m.toNat].2.2.2.1 = a1A l m := by rw [a1A, P3 h, h1, h2]; rfl
theorem b3a : 0 ≤ a1A l m ∧ a1A l m ≤ 99 := by
 unfold a1A
 split
 ·rename_i h; have := W2 (Bool.and_eq_true_iff.1 h).2; omega
 ·omega
theorem b0X : ∀ {log : List (Int × List Int)} {n : Int}, n ≤ log.foldl (fun n a => n + a1A l a.1) n ∧ log.foldl (fun n a => n + a1A l a.1) n ≤ n + 99 * log.length
 | [], n => by simp
 | x :: log, n => by
  have ih := b0X (log := log) (n := n + a1A l x.1)
  have := b3a (l := l) (m := x.1)
  rw [List.foldl_cons, List.length_cons]
  omega
theorem b2j : 0 ≤ a0m l log ∧ a0m l log ≤ 99 * log.length := by
 have := b0X (l := l) (log := log) (n := 0)
 unfold a0m; omega
theorem a3u (h : g < log.length) : a0m l (log.take g) + a1A l log[g].1 = a0m l (log.take (g + 1)) := by
 unfold a0m; rw [a1Q h]
theorem a2E (h : g < log.length) (h2 : 0 = a1A l log[g].1) : a0m l (log.take g) = a0m l (log.take (g + 1)) := by
 rw [← a3u h, ← h2, Int.add_zero]
end
end Go.Proofs.YtdopeopehgdccaaGreat
