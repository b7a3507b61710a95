import Derived.Test.YthapcdhdfaibkaaGreatDoorEp
import Derived.Test.YthapcdhdfaibkaaGreatDoorT37
section
namespace Go.Proofs.YthapcdhdfaibkaaGreatDoor
set_option linter.all false
abbrev Stp := Int × Int
def atA (l : List AT2) (i : Int) : AT2 := l.getD i.toNat (0, [])
def stB (d9 : List AT2) (T : List Stp) : List Int := T.foldl (fun b x => b ++ (atA d9 x.1).2) []
def stV (d9 : List AT2) (T : List Stp) : List Int := T.foldl (fun b x => a2M b (atA d9 x.1)) []
def stD (n : Nat) (T : List Stp) : List Bool := T.foldl (fun d x => d.set x.1.toNat true) (List.replicate n false)
def stU (T : List Stp) (i : Int) : Bool := T.any fun y => decide (y.1 = i)
def Y2 (l : List MT5) (d9 : List AT2) (T : List Stp) (x : Stp) : Bool := inR x.1 0 ((d9.length : Int) - 1) && (!stU T x.1 && (inR x.2 0 ((l.length : Int) - 1) && O4 (l.getD x.2.toNat (0, [], 0, 0, 0)) (atA d9 x.1) (stB d9 T)))
def U8 (l : List MT5) (d9 : List AT2) (d7 : List Stp) : Nat → Bool
 | 0 => true
 | g + 1 => U8 l d9 d7 g && Y2 l d9 (d7.take g) (d7.getD g (0, 0))
def P3 (s : List Int) (l : List MT5) (q : List Int × List AT2) (d7 : List Stp) : Bool := (J3 s l && I3 s q) && (decide ((d7.length : Int) = q.2.length) && U8 l q.2 d7 d7.length)
section
variable {s : List Int} {l : List MT5} {d9 : List AT2} {q : List Int × List AT2} {d7 T : List Stp} {g n : Nat} {x : Stp}
theorem a1K {i : Int} (h : i.toNat < d9.length) : atA d9 i = d9[i.toNat] := by simp [atA, List.getD, h]
theorem a1u {α β : Type} {f : β → α → β} {b : β} {l : List α} (h : g < l.length) : (l.take (g + 1)).foldl f b = f ((l.take g).foldl f b) l[g] := by
 rw [List.take_succ_eq_append_getElem h, List.foldl_append]; rfl
theorem b2O (h : g < d7.length) : stB d9 (d7.take g) ++ (atA d9 d7[g].1).2 = stB d9 (d7.take (g + 1)) := by unfold stB; rw [a1u h]
theorem b2Q (h : g < d7.length) : a2M (stV d9 (d7.take g)) (atA d9 d7[g].1) = stV d9 (d7.take (g + 1)) := by unfold stV; rw [a1u h]
theorem b2q (h : g < d7.length) : (d7.take g).map (fun x => x.1) ++ [d7[g].1] = (d7.take (g + 1)).map fun x => x.1 := by rw [List.take_succ_eq_append_getElem h, List.map_append]; rfl
theorem b2m : ∀ {T : List Stp} {d : List Bool}, (T.foldl (fun d x => d.set x.1.toNat true) d).length = d.length
 | [], _ => rfl
 | x :: T, d => by rw [List.foldl_cons, b2m (T := T)]; exact List.length_set
theorem b8X : (stD n T).length = n := by unfold stD; rw [b2m, List.length_replicate]
theorem a5E : ∀ {g : Nat}, U8 l d9 d7 g = true → g ≤ d7.length → ∀ x ∈ d7.take g, 0 ≤ x.1 ∧ x.1.toNat < d9.length ∧ 0 ≤ x.2 ∧ x.2.toNat < l.length
 | 0, _, _, x, hx => by simp at hx
 | g + 1, h, hg, x, hx => by
  rw [U8, Bool.and_eq_true] at h
  rw [List.take_succ_eq_append_getElem (by omega)] at hx
  rcases List.mem_append.1 hx with hx | hx
  ·exact a5E h.1 (by omega) x hx
  ·simp only [List.mem_singleton] at hx; subst hx
   have h2 := h.2
   rw [J5 (by omega : g < d7.length)] at h2
   simp only [Y2, Bool.and_eq_true] at h2
   have a1 := V2 h2.1
   have a2 := V2 h2.2.2.1
   omega
theorem b2K : ∀ {k : Nat}, U8 l d9 d7 g = false → U8 l d9 d7 (g + k) = false
 | 0, h => h
 | k + 1, h => by rw [← Nat.add_assoc, U8, b2K h, Bool.false_and]
theorem b3I {i : Int} : I8 (T.map fun x => x.1) i = stU T i := b3F
theorem b5u : ∀ {T : List Stp} {b b' : List Int}, (∀ v, inR v 10 17 = true → I8 b v = I8 b' v) → ∀ v, inR v 10 17 = true → I8 (T.foldl (fun b x => b ++ (atA d9 x.1).2) b) v = I8 (T.foldl (fun b x => a2M b (atA d9 x.1)) b') v
 | [], _, _, h => h
 | x :: T, b, b', h => by
  refine b5u (T := T) fun v hv => ?_
  rw [b3O _ hv, ← h v hv]
  unfold I8; rw [List.any_append]
theorem b7P {m : MT5} {a : AT2} : O4 m a (stV d9 T) = O4 m a (stB d9 T) := b5p fun v hv => (b5u (fun _ _ => rfl) v hv).symm
theorem a9r (hg : g < d7.length) (h : Y2 l q.2 (d7.take g) d7[g] = false) : false = P3 s l q d7 := by
 have h1 : U8 l q.2 d7 (g + 1) = false := by rw [U8, J5 hg, h, Bool.and_false]
 have h2 := b2K (k := d7.length - (g + 1)) h1
 rw [show g + 1 + (d7.length - (g + 1)) = d7.length from by omega] at h2
 rw [P3, h2, Bool.and_false, Bool.and_false]
theorem b6P (hg : g < d7.length) (hp : U8 l d9 d7 g = true) (h : Y2 l d9 (d7.take g) d7[g] = true) : U8 l d9 d7 (g + 1) = true := by
 rw [U8, J5 hg, h, hp]; rfl
theorem b9I (h : inR x.1 0 ((d9.length : Int) - 1) = false) : Y2 l d9 T x = false := by rw [Y2, h, Bool.false_and]
theorem b9r (h : stU T x.1 = true) : Y2 l d9 T x = false := by rw [Y2, h]; simp
theorem b9G (h : inR x.2 0 ((l.length : Int) - 1) = false) : Y2 l d9 T x = false := by rw [Y2, h]; simp
theorem b9R (h : O4 (l.getD x.2.toNat (0, [], 0, 0, 0)) (atA d9 x.1) (stB d9 T) = false) : Y2 l d9 T x = false := by rw [Y2, h]; simp
theorem b9M (h1 : inR x.1 0 ((d9.length : Int) - 1) = true) (h2 : stU T x.1 = false) (h3 : inR x.2 0 ((l.length : Int) - 1) = true) (h4 : O4 (l.getD x.2.toNat (0, [], 0, 0, 0)) (atA d9 x.1) (stB d9 T) = true) : Y2 l d9 T x = true := by rw [Y2, h1, h2, h3, h4]; rfl
theorem b8i (h : (J3 s l && I3 s q) = false) : false = P3 s l q d7 := by rw [P3, h, Bool.false_and]
theorem b8u (h : ¬ (d7.length : Int) = q.2.length) : false = P3 s l q d7 := by rw [P3, decide_eq_false h, Bool.false_and, Bool.and_false]
theorem b8v (h : (J3 s l && I3 s q) = true) (h2 : (d7.length : Int) = q.2.length) (hg : ¬ g < d7.length) (hl : g ≤ d7.length) (hp : U8 l q.2 d7 g = true) : true = P3 s l q d7 := by
 rw [show g = d7.length from by omega] at hp
 rw [P3, h, decide_eq_true h2, hp]; rfl
theorem b2v : ∀ {T : List Stp} {b : List Int}, (∀ a ∈ d9, a.2.length ≤ 3) → (T.foldl (fun b x => b ++ (atA d9 x.1).2) b).length ≤ b.length + 3 * T.length
 | [], b, _ => by simp
 | x :: T, b, h => by
  have ih := b2v (T := T) (b := b ++ (atA d9 x.1).2) h
  have h1 : (atA d9 x.1).2.length ≤ 3 := by
   unfold atA
   rcases Nat.lt_or_ge x.1.toNat d9.length with hk | hk
   ·rw [J5 hk]; exact h _ (List.getElem_mem hk)
   ·simp [List.getD, List.getElem?_eq_none hk]
  rw [List.length_append] at ih
  rw [List.foldl_cons, List.length_cons]
  omega
theorem b8a (h : ∀ a ∈ d9, a.2.length ≤ 3) : (stB d9 T).length ≤ 3 * T.length := by
 have := b2v (T := T) (b := []) h
 simpa [stB] using this
theorem b7e {b : List Int} {a : AT2} : (a2M b a).length ≤ b.length + a.2.length := by
 have h1 := a4o (b := b) (t := a.2.filter fun t => inR t 10 17)
 have h2 := List.length_filter_le (fun t => inR t 10 17) a.2
 unfold a2M; omega
theorem b1U : ∀ {T : List Stp} {b : List Int}, (∀ a ∈ d9, a.2.length ≤ 3) → (T.foldl (fun b x => a2M b (atA d9 x.1)) b).length ≤ b.length + 3 * T.length
 | [], b, _ => by simp
 | x :: T, b, h => by
  have ih := b1U (T := T) (b := a2M b (atA d9 x.1)) h
  have h2 := b7e (b := b) (a := atA d9 x.1)
  have h1 : (atA d9 x.1).2.length ≤ 3 := by
   unfold atA
   rcases Nat.lt_or_ge x.1.toNat d9.length with hk | hk
   ·rw [J5 hk]; exact h _ (List.getElem_mem hk)
   ·simp [List.getD, List.getElem?_eq_none hk]
  rw [List.foldl_cons, List.length_cons]
  omega
theorem b8N (h : ∀ a ∈ d9, a.2.length ≤ 3) : (stV d9 T).length ≤ 3 * T.length := by
 have := b1U (T := T) (b := []) h
 simpa [stV] using this
end
end Go.Proofs.YthapcdhdfaibkaaGreatDoor
end
section
namespace Go.Proofs.YthapcdhdfaibkaaGreatDoor
open Go.RowKit
set_option linter.all false
section
variable {P : Program} {n : Nat} {fr : Fr}
theorem c1s {x y : Operand} {ts : Array TypeId} {a b : Int} (hx : ev fr x = some (.int .i64 a)) (hy : ev fr y = some (.int .i64 b)) : Yp P n fr (.call ⟨.builtin .max, #[x, y], ts⟩) (.int .i64 (max a b)) := fun ac h w' d t p af g => by
 have e : (if a < b then b else a) = max a b := by split <;> omega
 simp [execOp, resolve, invoke, builtin, Builtin.max_, Builtin.max2, h.ev hx, h.ev hy, ← e]
end
def b2k (n : Nat) (k lim : Int) (i : Nat) : Bool := decide (((i : Int) - k + n) % n < lim)
def a2x (x : List Fct) (k lim : Int) (g : Nat) : List Fct := ((List.range g).filter (b2k x.length k lim)).map fun i => x.getD i (0, [])
def a3u (x : List Fct) (k : Int) (g : Nat) : List Fct := ((List.range g).map fun j : Nat => x.getD ((k + j) % x.length).toNat (0, [])).foldl G8 []
def a1P (l : List Mth) (a : IL) : Int := (atM l a.1).2.2.1
def m6 (l : List Mth) (d6 : List Fct) (a : IL) : List Fct := d6.filter (W5 (atM l a.1) a.2)
def r5 (l : List Mth) (d6 : List Fct) (a : IL) (c : Int) : List Fct :=
 if a1P l a = 0 ∨ ((m6 l d6 a).length : Int) ≤ a1P l a then m6 l d6 a
 else a2x (m6 l d6 a) (max 0 c % ((m6 l d6 a).length : Int)) (a1P l a) (m6 l d6 a).length
section
variable {x : List Fct} {k lim c : Int} {g : Nat} {l : List Mth} {d6 : List Fct} {a : IL}
theorem b9o (hg : g < x.length) (h : ((g : Int) - k + x.length) % x.length < lim) : a2x x k lim g ++ [x[g]] = a2x x k lim (g + 1) := by
 unfold a2x
 rw [List.range_succ, List.filter_append, List.map_append, List.filter_cons_of_pos (by unfold b2k; exact decide_eq_true h)]
 simp [List.getD, hg]
theorem b9y (h : ¬ ((g : Int) - k + x.length) % x.length < lim) : a2x x k lim g = a2x x k lim (g + 1) := by
 unfold a2x
 rw [List.range_succ, List.filter_append, List.map_append, List.filter_cons_of_neg (by unfold b2k; rw [decide_eq_false h]; decide)]; simp
theorem b7n : (a2x x k lim g).length ≤ g := by
 unfold a2x
 rw [List.length_map]
 have := List.length_filter_le (b2k x.length k lim) (List.range g)
 simpa using this
theorem b6N {f : Fct} (hg : g ≤ x.length) (h : f ∈ a2x x k lim g) : f ∈ x := by
 unfold a2x at h
 obtain ⟨i, hi, rfl⟩ := List.mem_map.1 h
 have h1 := List.mem_range.1 (List.mem_filter.1 hi).1
 rw [J5 (by omega : i < x.length)]; exact List.getElem_mem _
theorem b5j {j : Nat} (hj : j < x.length) (e : ((k + g) % x.length).toNat = j) : G8 (a3u x k g) x[j] = a3u x k (g + 1) := by
 unfold a3u
 rw [List.range_succ, List.map_append, List.foldl_append]
 simp only [List.map_cons, List.map_nil, List.foldl_cons, List.foldl_nil, e, J5 hj]
theorem a4t : ∀ {m v : List Fct}, (m.foldl G8 v).length ≤ v.length + m.length
 | [], v => by simp
 | f :: m, v => by
  have ih := a4t (m := m) (v := G8 v f)
  have h1 : (G8 v f).length ≤ v.length + 1 := by
   cases hh : N9 v f
   ·rw [a6p hh]; simp only [List.length_append, List.length_cons, List.length_take, List.length_drop]; omega
   ·rw [a4x hh]; omega
  rw [List.foldl_cons, List.length_cons]; omega
theorem b7b : (a3u x k g).length ≤ g := by
 have := a4t (m := (List.range g).map fun j : Nat => x.getD ((k + j) % x.length).toNat (0, [])) (v := [])
 simpa [a3u] using this
theorem b2W (h0 : 0 ≤ k) (hn : 0 < x.length) : 0 ≤ (k + (g : Int)) % (x.length : Int) ∧ ((k + (g : Int)) % (x.length : Int)).toNat < x.length := by
 have h1 := Int.emod_nonneg (k + (g : Int)) (show (x.length : Int) ≠ 0 by omega)
 have h2 := Int.emod_lt_of_pos (k + (g : Int)) (show 0 < (x.length : Int) by omega)
 omega
theorem b7h {f : Fct} (h0 : 0 ≤ k) (hn : 0 < x.length) (h : f ∈ a3u x k g) : f ∈ x := by
 unfold a3u at h
 rcases (a0J f).1 h with h | h
 ·simp at h
 ·obtain ⟨j, hj, rfl⟩ := List.mem_map.1 h
  have := b2W (g := j) h0 hn
  rw [J5 this.2]; exact List.getElem_mem _
theorem b2A : ∀ {a b : List Fct}, a2b a → a2b b → (∀ y, y ∈ a ↔ y ∈ b) → a = b
 | [], [], _, _, _ => rfl
 | [], y :: b, _, _, h => by have := (h y).2 (List.mem_cons_self ..); simp at this
 | x :: a, [], _, _, h => by have := (h x).1 (List.mem_cons_self ..); simp at this
 | x :: a, y :: b, ha, hb, h => by
  have ha' := List.pairwise_cons.1 ha
  have hb' := List.pairwise_cons.1 hb
  have irr : ∀ z : Fct, ltF z z = true → False := fun z hz => by simp [ltF, a3M.2 rfl] at hz
  have tr : ∀ u v : Fct, ltF u v = true → ltF v u = true → False := fun u v h1 h2 => by
   simp only [ltF, decide_eq_true_eq] at h1 h2
   have := a8S (a := u) (b := v); omega
  have e : x = y := by
   rcases List.mem_cons.1 ((h x).1 (List.mem_cons_self ..)) with e | e
   ·exact e
   ·rcases List.mem_cons.1 ((h y).2 (List.mem_cons_self ..)) with e2 | e2
    ·exact e2.symm
    ·exact (tr x y (ha'.1 y e2) (hb'.1 x e)).elim
  subst e
  congr 1
  refine b2A ha'.2 hb'.2 fun z => ⟨fun hz => ?_, fun hz => ?_⟩
  ·rcases List.mem_cons.1 ((h z).1 (List.mem_cons_of_mem _ hz)) with e | e
   ·subst e; exact (irr z (ha'.1 z hz)).elim
   ·exact e
  ·rcases List.mem_cons.1 ((h z).2 (List.mem_cons_of_mem _ hz)) with e | e
   ·subst e; exact (irr z (hb'.1 z hz)).elim
   ·exact e
theorem a9c (h : a2b x) : ∀ {g : Nat}, g ≤ x.length → a2b (a2x x k lim g) ∧ ∀ f ∈ a2x x k lim g, ∃ i, i < g ∧ x[i]? = some f
 | 0, _ => ⟨.nil, fun f hf => by simp [a2x] at hf⟩
 | g + 1, hg => by
  obtain ⟨i1, i2⟩ := a9c h (g := g) (by omega)
  by_cases hc : ((g : Int) - k + x.length) % x.length < lim
  ·rw [← b9o (by omega) hc]
   refine ⟨List.pairwise_append.2 ⟨i1, List.pairwise_singleton _ _, fun u hu v hv => ?_⟩, fun f hf => ?_⟩
   ·simp only [List.mem_singleton] at hv; subst hv
    obtain ⟨i, hi, e⟩ := i2 u hu
    obtain ⟨hi2, rfl⟩ := List.getElem?_eq_some_iff.1 e
    exact List.pairwise_iff_getElem.1 h i g hi2 (by omega) hi
   ·rcases List.mem_append.1 hf with hf | hf
    ·obtain ⟨i, hi, e⟩ := i2 f hf; exact ⟨i, by omega, e⟩
    ·simp only [List.mem_singleton] at hf; subst hf
     exact ⟨g, by omega, List.getElem?_eq_getElem (by omega)⟩
  ·rw [← b9y hc]
   exact ⟨i1, fun f hf => by obtain ⟨i, hi, e⟩ := i2 f hf; exact ⟨i, by omega, e⟩⟩
theorem b9w {n : Nat} {i : Nat} (hn : 0 < n) (h0 : 0 ≤ k ∧ k < n) (hi : i < n) : ((k + ((i : Int) - k + n) % n) % n).toNat = i := by
 have e : (k + ((i : Int) - k + n) % n) % n = i := by
  rw [Int.add_emod, Int.emod_emod_of_dvd _ (Int.dvd_refl _), ← Int.add_emod, show k + ((i : Int) - k + n) = i + n from by omega, Int.add_emod_right]
  exact Int.emod_eq_of_lt (by omega) (by omega)
 rw [e]; simp
theorem b8S {n : Nat} {j : Nat} (hn : 0 < n) (h0 : 0 ≤ k ∧ k < n) (hj : j < n) : ((((k + j) % n).toNat : Int) - k + n) % n = j := by
 have h1 := Int.emod_nonneg (k + (j : Int)) (show (n : Int) ≠ 0 by omega)
 rw [show (((k + (j : Int)) % n).toNat : Int) = (k + j) % n from by omega]
 rw [show (k + (j : Int)) % n - k + n = (k + j) % n + (n - k) from by omega, Int.emod_add_emod, show k + (j : Int) + (n - k) = j + n from by omega, Int.add_emod_right]
 exact Int.emod_eq_of_lt (by omega) (by omega)
theorem b9O (h : a2b x) (h0 : 0 ≤ k ∧ k < x.length) (hl : 0 ≤ lim ∧ lim ≤ x.length) : a3u x k lim.toNat = a2x x k lim x.length := by
 have hn : 0 < x.length := by omega
 refine b2A (a8U .nil) (a9c h (Nat.le_refl _)).1 fun y => ?_
 unfold a2x a3u
 rw [a0J]
 simp only [List.mem_map, List.mem_filter, List.mem_range, List.not_mem_nil, false_or, b2k, decide_eq_true_eq]
 constructor
 ·rintro ⟨j, hj, rfl⟩
  have h1 := b2W (g := j) h0.1 hn
  have h2 := b8S (n := x.length) (j := j) hn h0 (by omega)
  exact ⟨((k + j) % x.length).toNat, ⟨h1.2, by rw [h2]; omega⟩, rfl⟩
 ·rintro ⟨i, ⟨hi, hc⟩, rfl⟩
  have h1 := Int.emod_nonneg ((i : Int) - k + x.length) (show (x.length : Int) ≠ 0 by omega)
  have h2 := b9w (n := x.length) (i := i) hn h0 hi
  refine ⟨(((i : Int) - k + x.length) % x.length).toNat, by omega, ?_⟩
  rw [show ((((i : Int) - k + x.length) % x.length).toNat : Int) = ((i : Int) - k + x.length) % x.length from by omega, h2]
theorem a9E {s : List Int} (h : F1 s d6 = true) : a2b d6 := by
 have h := (Bool.and_eq_true_iff.1 h).1
 simp only [a1F, List.drop_zero, Bool.and_eq_true, List.all_eq_true] at h
 exact a8q (fun a b c h1 h2 => by simp only [ltF, decide_eq_true_eq] at h1 h2 ⊢; exact b3L h1 h2) h.2
theorem b8H {s : List Int} (h : S8 s l a = true) : 0 ≤ a1P l a ∧ a1P l a ≤ 9 := by
 have h1 := T5 h
 have h2 := a8s h1.1 (atM l a.1) (by rw [S1 h1.2.1.2]; exact List.getElem_mem _)
 simp only [V3, a0T, Bool.and_eq_true] at h2
 unfold a1P
 have : inR (atM l a.1).2.2.1 0 9 = true := by grind
 exact V2 this
theorem a5B : (m6 l d6 a).length ≤ d6.length := List.length_filter_le _ _
theorem a7V (h : a2b d6) : a2b (m6 l d6 a) := List.Pairwise.filter _ h
theorem a4e (h : a1P l a = 0 ∨ ((m6 l d6 a).length : Int) ≤ a1P l a) : m6 l d6 a = r5 l d6 a c := by rw [r5, if_pos h]
theorem b6X (ha : a2b d6) (h0 : 0 ≤ a1P l a) (h : ¬ a1P l a = 0) (h2 : ¬ ((m6 l d6 a).length : Int) ≤ a1P l a) (hg : (g : Int) = a1P l a) : a3u (m6 l d6 a) (max c 0 % ((m6 l d6 a).length : Int)) g = r5 l d6 a c := by
 rw [r5, if_neg (by omega), show max c 0 = max 0 c from by omega, show g = (a1P l a).toNat from by omega]
 have h3 := Int.emod_nonneg (max 0 c) (show ((m6 l d6 a).length : Int) ≠ 0 by omega)
 have h4 := Int.emod_lt_of_pos (max 0 c) (show 0 < ((m6 l d6 a).length : Int) by omega)
 exact b9O (a7V ha) ⟨h3, h4⟩ (by omega)
theorem b0g {f : Fct} (h : f ∈ r5 l d6 a c) : f ∈ d6 := by
 unfold r5 at h
 split at h
 ·exact (List.mem_filter.1 h).1
 ·exact (List.mem_filter.1 (b6N (Nat.le_refl _) h)).1
theorem b3G : (r5 l d6 a c).length ≤ d6.length := by
 unfold r5
 split
 ·exact a5B
 ·exact Nat.le_trans b7n a5B
end
def R0 (m : Mth) (a : AT2) (b : List Int × List Int) : List Int := m.2.1.map fun i => F6 b (at0 a.2 i)
def a1k (l : List Mth) (m : Int) : Int := if (inR m 0 ((l.length : Int) - 1) && inR (atM l m).2.2.2.1 0 99) = true then (atM l m).2.2.2.1 else 0
def a0q (l : List Mth) (log : List IL) : Int := log.foldl (fun n a => n + a1k l a.1) 0
section
variable {l : List Mth} {m i : Int} {g : Nat} {a : AT2} {b : List Int × List Int} {mm : Mth} {log : List IL}
theorem b3f {x : List Int} (hg : g < x.length) (h : 0 ≤ x[g] ∧ x[g].toNat < a.2.length) : (x.take g).map (fun i => F6 b (at0 a.2 i)) ++ [F6 b (a.2[x[g].toNat]'h.2)] = (x.take (g + 1)).map fun i => F6 b (at0 a.2 i) := by
 rw [List.take_succ_eq_append_getElem hg, List.map_append]
 congr 1
 simp [at0, List.getD, h.2]
theorem a6g (h : inR m 0 ((l.length : Int) - 1) = false) : 0 = a1k l m := by rw [a1k, h]; rfl
theorem a6l (h : m.toNat < l.length) (h2 : inR l[m.toNat].2.2.2.1 0 99 = false) : 0 = a1k l m := by rw [a1k, S1 h, h2, Bool.and_false]; rfl
theorem a6w (h1 : inR m 0 ((l.length : Int) - 1) = true) (h : m.toNat < l.length) (h2 : inR l[m.toNat].2.2.2.1 0 99 = true) : l[m.toNat].2.2.2.1 = a1k l m := by rw [a1k, S1 h, h1, h2]; rfl
theorem b3j : 0 ≤ a1k l m ∧ a1k l m ≤ 99 := by
 unfold a1k
 split
 ·rename_i h; have := V2 (Bool.and_eq_true_iff.1 h).2; omega
 ·omega
theorem b0N : ∀ {log : List IL} {n : Int}, n ≤ log.foldl (fun n a => n + a1k l a.1) n ∧ log.foldl (fun n a => n + a1k l a.1) n ≤ n + 99 * log.length
 | [], n => by simp
 | x :: log, n => by
  have ih := b0N (log := log) (n := n + a1k l x.1)
  have := b3j (l := l) (m := x.1)
  rw [List.foldl_cons, List.length_cons]
  omega
theorem b3a : 0 ≤ a0q l log ∧ a0q l log ≤ 99 * log.length := by
 have := b0N (l := l) (log := log) (n := 0)
 unfold a0q; omega
theorem a3m (h : g < log.length) : a0q l (log.take g) + a1k l log[g].1 = a0q l (log.take (g + 1)) := by
 unfold a0q; rw [a1u h]
theorem a2i (h : g < log.length) (h2 : 0 = a1k l log[g].1) : a0q l (log.take g) = a0q l (log.take (g + 1)) := by
 rw [← a3m h, ← h2, Int.add_zero]
end
end Go.Proofs.YthapcdhdfaibkaaGreatDoor
end
