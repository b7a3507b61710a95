import Derived.Test.YtlfhopooaejpfaaGreatEx
namespace Go.Proofs.YtlfhopooaejpfaaGreat
open Go.RowKit
set_option linter.unusedVariables false
set_option linter.unusedSimpArgs false
section
variable {P : Program} {n : Nat} {fr : Fr}
theorem b4V {x y : Operand} {ts : Array TypeId} {a b : Int} (hx : ev fr x = some (.int .i64 a)) (hy : ev fr y = some (.int .i64 b)) : Yp P n fr (.call ⟨.builtin .max, #[x, y], ts⟩) (.int .i64 (max a b)) := fun ac h w' d t p af g => by
 have e : (if a < b then b else a) = max a b := by split <;> omega
 simp [execOp, resolve, invoke, builtin, Builtin.max_, Builtin.max2, h.ev hx, h.ev hy, ← e]
end
def b0b (n : Nat) (k lim : Int) (i : Nat) : Bool := decide (((i : Int) - k + n) % n < lim)
def U9 (x : List Fct) (k lim : Int) (g : Nat) : List Fct := ((List.range g).filter (b0b x.length k lim)).map fun i => x.getD i (0, [])
def a1a (x : List Fct) (k : Int) (g : Nat) : List Fct := ((List.range g).map fun j : Nat => x.getD ((k + j) % x.length).toNat (0, [])).foldl D1 []
def O2 (l : List Mth) (a : Int × List Int) : Int := (atM l a.1).2.2.1
def F7 (l : List Mth) (d4 : List Fct) (a : Int × List Int) : List Fct := d4.filter (E4 (atM l a.1) a.2)
def f5 (l : List Mth) (d4 : List Fct) (a : Int × List Int) (c : Int) : List Fct :=
 if O2 l a = 0 ∨ ((F7 l d4 a).length : Int) ≤ O2 l a then F7 l d4 a
 else U9 (F7 l d4 a) (max 0 c % ((F7 l d4 a).length : Int)) (O2 l a) (F7 l d4 a).length
section
variable {x : List Fct} {k lim c : Int} {g : Nat} {l : List Mth} {d4 : List Fct} {a : Int × List Int}
theorem b0v (hg : g < x.length) (h : ((g : Int) - k + x.length) % x.length < lim) : U9 x k lim g ++ [x[g]] = U9 x k lim (g + 1) := by
 unfold U9
 rw [List.range_succ, List.filter_append, List.map_append, List.filter_cons_of_pos (by unfold b0b; exact decide_eq_true h)]
 simp [List.getD, hg]
theorem a9N (h : ¬ ((g : Int) - k + x.length) % x.length < lim) : U9 x k lim g = U9 x k lim (g + 1) := by
 unfold U9
 rw [List.range_succ, List.filter_append, List.map_append, List.filter_cons_of_neg (by unfold b0b; rw [decide_eq_false h]; decide)]; simp
theorem b0w : (U9 x k lim g).length ≤ g := by
 unfold U9
 rw [List.length_map]
 have := List.length_filter_le (b0b x.length k lim) (List.range g)
 simpa using this
theorem b3U {f : Fct} (hg : g ≤ x.length) (h : f ∈ U9 x k lim g) : f ∈ x := by
 unfold U9 at h
 obtain ⟨i, hi, rfl⟩ := List.mem_map.1 h
 have h1 := List.mem_range.1 (List.mem_filter.1 hi).1
 rw [J0 (by omega : i < x.length)]; exact List.getElem_mem _
theorem b3s {j : Nat} (hj : j < x.length) (e : ((k + g) % x.length).toNat = j) : D1 (a1a x k g) x[j] = a1a x k (g + 1) := by
 unfold a1a
 rw [List.range_succ, List.map_append, List.foldl_append]
 simp only [List.map_cons, List.map_nil, List.foldl_cons, List.foldl_nil, e, J0 hj]
theorem a2B : ∀ {m v : List Fct}, (m.foldl D1 v).length ≤ v.length + m.length
 | [], v => by simp
 | f :: m, v => by
  have ih := a2B (m := m) (v := D1 v f)
  have h1 : (D1 v f).length ≤ v.length + 1 := by
   cases hh : I2 v f
   ·rw [a4j hh]; simp only [List.length_append, List.length_cons, List.length_take, List.length_drop]; omega
   ·rw [a2u hh]; omega
  rw [List.foldl_cons, List.length_cons]; omega
theorem b3P : (a1a x k g).length ≤ g := by
 have := a2B (m := (List.range g).map fun j : Nat => x.getD ((k + j) % x.length).toNat (0, [])) (v := [])
 simpa [a1a] using this
theorem b0j (h0 : 0 ≤ k) (hn : 0 < x.length) : 0 ≤ (k + (g : Int)) % (x.length : Int) ∧ ((k + (g : Int)) % (x.length : Int)).toNat < x.length := by
 have h1 := Int.emod_nonneg (k + (g : Int)) (show (x.length : Int) ≠ 0 by omega)
 have h2 := Int.emod_lt_of_pos (k + (g : Int)) (show 0 < (x.length : Int) by omega)
 omega
theorem b3J {f : Fct} (h0 : 0 ≤ k) (hn : 0 < x.length) (h : f ∈ a1a x k g) : f ∈ x := by
 unfold a1a at h
 rcases (a1k f).1 h with h | h
 ·simp at h
 ·obtain ⟨j, hj, rfl⟩ := List.mem_map.1 h
  have := b0j (g := j) h0 hn
  rw [J0 this.2]; exact List.getElem_mem _
theorem a9q : ∀ {a b : List Fct}, a0G a → a0G b → (∀ y, y ∈ a ↔ y ∈ b) → a = b
 | [], [], _, _, _ => rfl
 | [], y :: b, _, _, h => by have := (h y).2 (List.mem_cons_self ..); simp at this
 | x :: a, [], _, _, h => by have := (h x).1 (List.mem_cons_self ..); simp at this
 | x :: a, y :: b, ha, hb, h => by
  have ha' := List.pairwise_cons.1 ha
  have hb' := List.pairwise_cons.1 hb
  have irr : ∀ z : Fct, ltF z z = true → False := fun z hz => by simp [ltF, a1j.2 rfl] at hz
  have tr : ∀ u v : Fct, ltF u v = true → ltF v u = true → False := fun u v h1 h2 => by
   simp only [ltF, decide_eq_true_eq] at h1 h2
   have := a6l (a := u) (b := v); omega
  have e : x = y := by
   rcases List.mem_cons.1 ((h x).1 (List.mem_cons_self ..)) with e | e
   ·exact e
   ·rcases List.mem_cons.1 ((h y).2 (List.mem_cons_self ..)) with e2 | e2
    ·exact e2.symm
    ·exact (tr x y (ha'.1 y e2) (hb'.1 x e)).elim
  subst e
  congr 1
  refine a9q ha'.2 hb'.2 fun z => ⟨fun hz => ?_, fun hz => ?_⟩
  ·rcases List.mem_cons.1 ((h z).1 (List.mem_cons_of_mem _ hz)) with e | e
   ·subst e; exact (irr z (ha'.1 z hz)).elim
   ·exact e
  ·rcases List.mem_cons.1 ((h z).2 (List.mem_cons_of_mem _ hz)) with e | e
   ·subst e; exact (irr z (hb'.1 z hz)).elim
   ·exact e
theorem a3Y (h : a0G x) : ∀ {g : Nat}, g ≤ x.length → a0G (U9 x k lim g) ∧ ∀ f ∈ U9 x k lim g, ∃ i, i < g ∧ x[i]? = some f
 | 0, _ => ⟨.nil, fun f hf => by simp [U9] at hf⟩
 | g + 1, hg => by
  obtain ⟨i1, i2⟩ := a3Y h (g := g) (by omega)
  by_cases hc : ((g : Int) - k + x.length) % x.length < lim
  ·rw [← b0v (by omega) hc]
   refine ⟨List.pairwise_append.2 ⟨i1, List.pairwise_singleton _ _, fun u hu v hv => ?_⟩, fun f hf => ?_⟩
   ·simp only [List.mem_singleton] at hv; subst hv
    obtain ⟨i, hi, e⟩ := i2 u hu
    obtain ⟨hi2, rfl⟩ := List.getElem?_eq_some_iff.1 e
    exact List.pairwise_iff_getElem.1 h i g hi2 (by omega) hi
   ·rcases List.mem_append.1 hf with hf | hf
    ·obtain ⟨i, hi, e⟩ := i2 f hf; exact ⟨i, by omega, e⟩
    ·simp only [List.mem_singleton] at hf; subst hf
     exact ⟨g, by omega, List.getElem?_eq_getElem (by omega)⟩
  ·rw [← a9N hc]
   exact ⟨i1, fun f hf => by obtain ⟨i, hi, e⟩ := i2 f hf; exact ⟨i, by omega, e⟩⟩
theorem b6i {n : Nat} {i : Nat} (hn : 0 < n) (h0 : 0 ≤ k ∧ k < n) (hi : i < n) : ((k + ((i : Int) - k + n) % n) % n).toNat = i := by
 have e : (k + ((i : Int) - k + n) % n) % n = i := by
  rw [Int.add_emod, Int.emod_emod_of_dvd _ (Int.dvd_refl _), ← Int.add_emod, show k + ((i : Int) - k + n) = i + n from by omega, Int.add_emod_right]
  exact Int.emod_eq_of_lt (by omega) (by omega)
 rw [e]; simp
theorem b5A {n : Nat} {j : Nat} (hn : 0 < n) (h0 : 0 ≤ k ∧ k < n) (hj : j < n) : ((((k + j) % n).toNat : Int) - k + n) % n = j := by
 have h1 := Int.emod_nonneg (k + (j : Int)) (show (n : Int) ≠ 0 by omega)
 rw [show (((k + (j : Int)) % n).toNat : Int) = (k + j) % n from by omega]
 rw [show (k + (j : Int)) % n - k + n = (k + j) % n + (n - k) from by omega, Int.emod_add_emod, show k + (j : Int) + (n - k) = j + n from by omega, Int.add_emod_right]
 exact Int.emod_eq_of_lt (by omega) (by omega)
theorem b6F (h : a0G x) (h0 : 0 ≤ k ∧ k < x.length) (hl : 0 ≤ lim ∧ lim ≤ x.length) : a1a x k lim.toNat = U9 x k lim x.length := by
 have hn : 0 < x.length := by omega
 refine a9q (a5V .nil) (a3Y h (Nat.le_refl _)).1 fun y => ?_
 unfold U9 a1a
 rw [a1k]
 simp only [List.mem_map, List.mem_filter, List.mem_range, List.not_mem_nil, false_or, b0b, decide_eq_true_eq]
 constructor
 ·rintro ⟨j, hj, rfl⟩
  have h1 := b0j (g := j) h0.1 hn
  have h2 := b5A (n := x.length) (j := j) hn h0 (by omega)
  exact ⟨((k + j) % x.length).toNat, ⟨h1.2, by rw [h2]; omega⟩, rfl⟩
 ·rintro ⟨i, ⟨hi, hc⟩, rfl⟩
  have h1 := Int.emod_nonneg ((i : Int) - k + x.length) (show (x.length : Int) ≠ 0 by omega)
  have h2 := b6i (n := x.length) (i := i) hn h0 hi
  refine ⟨(((i : Int) - k + x.length) % x.length).toNat, by omega, ?_⟩
  rw [show ((((i : Int) - k + x.length) % x.length).toNat : Int) = ((i : Int) - k + x.length) % x.length from by omega, h2]
theorem a4T {s : List Int} (h : E0 s d4 = true) : a0G d4 := by
 have h := (Bool.and_eq_true_iff.1 h).1
 simp only [a0n, List.drop_zero, Bool.and_eq_true, List.all_eq_true] at h
 exact a5F (fun a b c h1 h2 => by simp only [ltF, decide_eq_true_eq] at h1 h2 ⊢; exact b1D h1 h2) h.2
theorem b1v {s : List Int} (h : N6 s l a = true) : 0 ≤ O2 l a ∧ O2 l a ≤ 9 := by
 have h1 := U2 h
 have h2 := a5G h1.1 (atM l a.1) (by rw [K8 h1.2.1.2]; exact List.getElem_mem _)
 simp only [M9, W5, Bool.and_eq_true] at h2
 unfold O2
 have : inR (atM l a.1).2.2.1 0 9 = true := by grind
 exact Q5 this
theorem a7z : (F7 l d4 a).length ≤ d4.length := List.length_filter_le _ _
theorem a3A (h : a0G d4) : a0G (F7 l d4 a) := List.Pairwise.filter _ h
theorem a2l (h : O2 l a = 0 ∨ ((F7 l d4 a).length : Int) ≤ O2 l a) : F7 l d4 a = f5 l d4 a c := by rw [f5, if_pos h]
theorem b4Y (h : ¬ O2 l a = 0) (h2 : ¬ ((F7 l d4 a).length : Int) ≤ O2 l a) (hg : g = (F7 l d4 a).length) : U9 (F7 l d4 a) (max 0 c % ((F7 l d4 a).length : Int)) (O2 l a) g = f5 l d4 a c := by
 rw [f5, if_neg (by omega), hg]
theorem b4u (ha : a0G d4) (h0 : 0 ≤ O2 l a) (h : ¬ O2 l a = 0) (h2 : ¬ ((F7 l d4 a).length : Int) ≤ O2 l a) (hg : (g : Int) = O2 l a) : a1a (F7 l d4 a) (max c 0 % ((F7 l d4 a).length : Int)) g = f5 l d4 a c := by
 rw [f5, if_neg (by omega), show max c 0 = max 0 c from by omega, show g = (O2 l a).toNat from by omega]
 have h3 := Int.emod_nonneg (max 0 c) (show ((F7 l d4 a).length : Int) ≠ 0 by omega)
 have h4 := Int.emod_lt_of_pos (max 0 c) (show 0 < ((F7 l d4 a).length : Int) by omega)
 exact b6F (a3A ha) ⟨h3, h4⟩ (by omega)
theorem a2n {f : Fct} (h : f ∈ f5 l d4 a c) : f ∈ d4 := by
 unfold f5 at h
 split at h
 ·exact (List.mem_filter.1 h).1
 ·exact (List.mem_filter.1 (b3U (Nat.le_refl _) h)).1
theorem a5n : (f5 l d4 a c).length ≤ d4.length := by
 unfold f5
 split
 ·exact a7z
 ·exact Nat.le_trans b0w a7z
end
def V7 (m : Mth) (a : AT2) (b : List Int × List Int) : List Int := m.2.1.map fun i => B1 b (at0 a.2 i)
def Y7 (l : List Mth) (m : Int) : Int := if (inR m 0 ((l.length : Int) - 1) && inR (atM l m).2.2.2.1 0 99) = true then (atM l m).2.2.2.1 else 0
def U0 (l : List Mth) (log : List (Int × List Int)) : Int := log.foldl (fun n a => n + Y7 l a.1) 0
section
variable {l : List Mth} {m i : Int} {g : Nat} {a : AT2} {b : List Int × List Int} {mm : Mth} {log : List (Int × List Int)}
theorem b0o {x : List Int} (hg : g < x.length) (h : 0 ≤ x[g] ∧ x[g].toNat < a.2.length) : (x.take g).map (fun i => B1 b (at0 a.2 i)) ++ [B1 b (a.2[x[g].toNat]'h.2)] = (x.take (g + 1)).map fun i => B1 b (at0 a.2 i) := by
 rw [List.take_succ_eq_append_getElem hg, List.map_append]
 congr 1
 simp [at0, List.getD, h.2]
theorem a4a (h : inR m 0 ((l.length : Int) - 1) = false) : 0 = Y7 l m := by rw [Y7, h]; rfl
theorem a4d (h : m.toNat < l.length) (h2 : inR l[m.toNat].2.2.2.1 0 99 = false) : 0 = Y7 l m := by rw [Y7, K8 h, h2, Bool.and_false]; rfl
theorem a3O (h1 : inR m 0 ((l.length : Int) - 1) = true) (h : m.toNat < l.length) (h2 : inR l[m.toNat].2.2.2.1 0 99 = true) : l[m.toNat].2.2.2.1 = Y7 l m := by rw [Y7, K8 h, h1, h2]; rfl
theorem b0q : 0 ≤ Y7 l m ∧ Y7 l m ≤ 99 := by
 unfold Y7
 split
 ·rename_i h; have := Q5 (Bool.and_eq_true_iff.1 h).2; omega
 ·omega
theorem a8A : ∀ {log : List (Int × List Int)} {n : Int}, n ≤ log.foldl (fun n a => n + Y7 l a.1) n ∧ log.foldl (fun n a => n + Y7 l a.1) n ≤ n + 99 * log.length
 | [], n => by simp
 | x :: log, n => by
  have ih := a8A (log := log) (n := n + Y7 l x.1)
  have := b0q (l := l) (m := x.1)
  rw [List.foldl_cons, List.length_cons]
  omega
theorem a9J : 0 ≤ U0 l log ∧ U0 l log ≤ 99 * log.length := by
 have := a8A (l := l) (log := log) (n := 0)
 unfold U0; omega
theorem a1t (h : g < log.length) : U0 l (log.take g) + Y7 l log[g].1 = U0 l (log.take (g + 1)) := by
 unfold U0; rw [a0I h]
theorem a0N (h : g < log.length) (h2 : 0 = Y7 l log[g].1) : U0 l (log.take g) = U0 l (log.take (g + 1)) := by
 rw [← a1t h, ← h2, Int.add_zero]
end
end Go.Proofs.YtlfhopooaejpfaaGreat
