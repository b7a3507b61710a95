import Derived.Test.YtdopeopehgdccaaGreatEp
import Derived.Test.YtdopeopehgdccaaGreatDy
namespace Go.Proofs.YtdopeopehgdccaaGreat
set_option linter.unusedVariables false
set_option linter.unusedSimpArgs false
abbrev Stp := Int × Int
def atA (l : List AT2) (i : Int) : AT2 := l.getD i.toNat (0, [])
def stB (f5 : List AT2) (T : List Stp) : List Int := T.foldl (fun b x => b ++ (atA f5 x.1).2) []
def stV (f5 : List AT2) (T : List Stp) : List Int := T.foldl (fun b x => a1Y b (atA f5 x.1)) []
def stD (n : Nat) (T : List Stp) : List Bool := T.foldl (fun d x => d.set x.1.toNat true) (List.replicate n false)
def stU (T : List Stp) (i : Int) : Bool := T.any fun y => decide (y.1 = i)
def a0o (l : List MT5) (f5 : List AT2) (T : List Stp) (x : Stp) : Bool := inR x.1 0 ((f5.length : Int) - 1) && (!stU T x.1 && (inR x.2 0 ((l.length : Int) - 1) && N5 (l.getD x.2.toNat (0, [], 0, 0, 0)) (atA f5 x.1) (stB f5 T)))
def V1 (l : List MT5) (f5 : List AT2) (d9 : List Stp) : Nat → Bool
 | 0 => true
 | g + 1 => V1 l f5 d9 g && a0o l f5 (d9.take g) (d9.getD g (0, 0))
def O1 (s : List Int) (l : List MT5) (q : List Int × List AT2) (d9 : List Stp) : Bool := (G9 s l && I4 s q) && (decide ((d9.length : Int) = q.2.length) && V1 l q.2 d9 d9.length)
section
variable {s : List Int} {l : List MT5} {f5 : List AT2} {q : List Int × List AT2} {d9 T : List Stp} {g n : Nat} {x : Stp}
theorem a3M {i : Int} (h : i.toNat < f5.length) : atA f5 i = f5[i.toNat] := by simp [atA, List.getD, h]
theorem a1Q {α β : Type} {f : β → α → β} {b : β} {l : List α} (h : g < l.length) : (l.take (g + 1)).foldl f b = f ((l.take g).foldl f b) l[g] := by
 rw [List.take_succ_eq_append_getElem h, List.foldl_append]; rfl
theorem b6t (h : g < d9.length) : stB f5 (d9.take g) ++ (atA f5 d9[g].1).2 = stB f5 (d9.take (g + 1)) := by unfold stB; rw [a1Q h]
theorem b2w (h : g < d9.length) : a1Y (stV f5 (d9.take g)) (atA f5 d9[g].1) = stV f5 (d9.take (g + 1)) := by unfold stV; rw [a1Q h]
theorem b2r (h : g < d9.length) : (d9.take g).map (fun x => x.1) ++ [d9[g].1] = (d9.take (g + 1)).map fun x => x.1 := by rw [List.take_succ_eq_append_getElem h, List.map_append]; rfl
theorem b2N : ∀ {T : List Stp} {d : List Bool}, (T.foldl (fun d x => d.set x.1.toNat true) d).length = d.length
 | [], _ => rfl
 | x :: T, d => by rw [List.foldl_cons, b2N (T := T)]; exact List.length_set
theorem b7m : (stD n T).length = n := by unfold stD; rw [b2N, List.length_replicate]
theorem a9x : ∀ {g : Nat}, V1 l f5 d9 g = true → g ≤ d9.length → ∀ x ∈ d9.take g, 0 ≤ x.1 ∧ x.1.toNat < f5.length ∧ 0 ≤ x.2 ∧ x.2.toNat < l.length
 | 0, _, _, x, hx => by simp at hx
 | g + 1, h, hg, x, hx => by
  rw [V1, Bool.and_eq_true] at h
  rw [List.take_succ_eq_append_getElem (by omega)] at hx
  rcases List.mem_append.1 hx with hx | hx
  ·exact a9x h.1 (by omega) x hx
  ·simp only [List.mem_singleton] at hx; subst hx
   have h2 := h.2
   rw [J3 (by omega : g < d9.length)] at h2
   simp only [a0o, Bool.and_eq_true] at h2
   have a1 := W2 h2.1
   have a2 := W2 h2.2.2.1
   omega
theorem b2e : ∀ {k : Nat}, V1 l f5 d9 g = false → V1 l f5 d9 (g + k) = false
 | 0, h => h
 | k + 1, h => by rw [← Nat.add_assoc, V1, b2e h, Bool.false_and]
theorem b3Q {i : Int} : H9 (T.map fun x => x.1) i = stU T i := b4n
theorem b5C : ∀ {T : List Stp} {b b' : List Int}, (∀ v, inR v 10 17 = true → H9 b v = H9 b' v) → ∀ v, inR v 10 17 = true → H9 (T.foldl (fun b x => b ++ (atA f5 x.1).2) b) v = H9 (T.foldl (fun b x => a1Y b (atA f5 x.1)) b') v
 | [], _, _, h => h
 | x :: T, b, b', h => by
  refine b5C (T := T) fun v hv => ?_
  rw [b4g _ hv, ← h v hv]
  unfold H9; rw [List.any_append]
theorem b7d {m : MT5} {a : AT2} : N5 m a (stV f5 T) = N5 m a (stB f5 T) := b5s fun v hv => (b5C (fun _ _ => rfl) v hv).symm
theorem a9X (hg : g < d9.length) (h : a0o l q.2 (d9.take g) d9[g] = false) : false = O1 s l q d9 := by
 have h1 : V1 l q.2 d9 (g + 1) = false := by rw [V1, J3 hg, h, Bool.and_false]
 have h2 := b2e (k := d9.length - (g + 1)) h1
 rw [show g + 1 + (d9.length - (g + 1)) = d9.length from by omega] at h2
 rw [O1, h2, Bool.and_false, Bool.and_false]
theorem b6h (hg : g < d9.length) (hp : V1 l f5 d9 g = true) (h : a0o l f5 (d9.take g) d9[g] = true) : V1 l f5 d9 (g + 1) = true := by
 rw [V1, J3 hg, h, hp]; rfl
theorem b8u (h : inR x.1 0 ((f5.length : Int) - 1) = false) : a0o l f5 T x = false := by rw [a0o, h, Bool.false_and]
theorem b8r (h : stU T x.1 = true) : a0o l f5 T x = false := by rw [a0o, h]; simp
theorem b8x (h : inR x.2 0 ((l.length : Int) - 1) = false) : a0o l f5 T x = false := by rw [a0o, h]; simp
theorem b8X (h : N5 (l.getD x.2.toNat (0, [], 0, 0, 0)) (atA f5 x.1) (stB f5 T) = false) : a0o l f5 T x = false := by rw [a0o, h]; simp
theorem b8U (h1 : inR x.1 0 ((f5.length : Int) - 1) = true) (h2 : stU T x.1 = false) (h3 : inR x.2 0 ((l.length : Int) - 1) = true) (h4 : N5 (l.getD x.2.toNat (0, [], 0, 0, 0)) (atA f5 x.1) (stB f5 T) = true) : a0o l f5 T x = true := by rw [a0o, h1, h2, h3, h4]; rfl
theorem b7u (h : (G9 s l && I4 s q) = false) : false = O1 s l q d9 := by rw [O1, h, Bool.false_and]
theorem b7H (h : ¬ (d9.length : Int) = q.2.length) : false = O1 s l q d9 := by rw [O1, decide_eq_false h, Bool.false_and, Bool.and_false]
theorem b7A (h : (G9 s l && I4 s q) = true) (h2 : (d9.length : Int) = q.2.length) (hg : ¬ g < d9.length) (hl : g ≤ d9.length) (hp : V1 l q.2 d9 g = true) : true = O1 s l q d9 := by
 rw [show g = d9.length from by omega] at hp
 rw [O1, h, decide_eq_true h2, hp]; rfl
theorem b2W : ∀ {T : List Stp} {b : List Int}, (∀ a ∈ f5, a.2.length ≤ 3) → (T.foldl (fun b x => b ++ (atA f5 x.1).2) b).length ≤ b.length + 3 * T.length
 | [], b, _ => by simp
 | x :: T, b, h => by
  have ih := b2W (T := T) (b := b ++ (atA f5 x.1).2) h
  have h1 : (atA f5 x.1).2.length ≤ 3 := by
   unfold atA
   rcases Nat.lt_or_ge x.1.toNat f5.length with hk | hk
   ·rw [J3 hk]; exact h _ (List.getElem_mem hk)
   ·simp [List.getD, List.getElem?_eq_none hk]
  rw [List.length_append] at ih
  rw [List.foldl_cons, List.length_cons]
  omega
theorem b7y (h : ∀ a ∈ f5, a.2.length ≤ 3) : (stB f5 T).length ≤ 3 * T.length := by
 have := b2W (T := T) (b := []) h
 simpa [stB] using this
theorem b6r {b : List Int} {a : AT2} : (a1Y b a).length ≤ b.length + a.2.length := by
 have h1 := a4H (b := b) (t := a.2.filter fun t => inR t 10 17)
 have h2 := List.length_filter_le (fun t => inR t 10 17) a.2
 unfold a1Y; omega
theorem b2l : ∀ {T : List Stp} {b : List Int}, (∀ a ∈ f5, a.2.length ≤ 3) → (T.foldl (fun b x => a1Y b (atA f5 x.1)) b).length ≤ b.length + 3 * T.length
 | [], b, _ => by simp
 | x :: T, b, h => by
  have ih := b2l (T := T) (b := a1Y b (atA f5 x.1)) h
  have h2 := b6r (b := b) (a := atA f5 x.1)
  have h1 : (atA f5 x.1).2.length ≤ 3 := by
   unfold atA
   rcases Nat.lt_or_ge x.1.toNat f5.length with hk | hk
   ·rw [J3 hk]; exact h _ (List.getElem_mem hk)
   ·simp [List.getD, List.getElem?_eq_none hk]
  rw [List.foldl_cons, List.length_cons]
  omega
theorem b7Q (h : ∀ a ∈ f5, a.2.length ≤ 3) : (stV f5 T).length ≤ 3 * T.length := by
 have := b2l (T := T) (b := []) h
 simpa [stV] using this
end
end Go.Proofs.YtdopeopehgdccaaGreat
