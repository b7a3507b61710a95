import Derived.Test.YtlfhopooaejpfaaGreatEp
import Derived.Test.YtlfhopooaejpfaaGreatDz
namespace Go.Proofs.YtlfhopooaejpfaaGreat
set_option linter.unusedVariables false
set_option linter.unusedSimpArgs false
abbrev Stp := Int × Int
def atA (l : List AT2) (i : Int) : AT2 := l.getD i.toNat (0, [])
def stB (d8 : List AT2) (T : List Stp) : List Int := T.foldl (fun b x => b ++ (atA d8 x.1).2) []
def stV (d8 : List AT2) (T : List Stp) : List Int := T.foldl (fun b x => a0l b (atA d8 x.1)) []
def stD (n : Nat) (T : List Stp) : List Bool := T.foldl (fun d x => d.set x.1.toNat true) (List.replicate n false)
def stU (T : List Stp) (i : Int) : Bool := T.any fun y => decide (y.1 = i)
def S3 (l : List MT5) (d8 : List AT2) (T : List Stp) (x : Stp) : Bool := inR x.1 0 ((d8.length : Int) - 1) && (!stU T x.1 && (inR x.2 0 ((l.length : Int) - 1) && P6 (l.getD x.2.toNat (0, [], 0, 0, 0)) (atA d8 x.1) (stB d8 T)))
def Q8 (l : List MT5) (d8 : List AT2) (c6 : List Stp) : Nat → Bool
 | 0 => true
 | g + 1 => Q8 l d8 c6 g && S3 l d8 (c6.take g) (c6.getD g (0, 0))
def H6 (s : List Int) (l : List MT5) (q : List Int × List AT2) (c6 : List Stp) : Bool := (G5 s l && z8 s q) && (decide ((c6.length : Int) = q.2.length) && Q8 l q.2 c6 c6.length)
section
variable {s : List Int} {l : List MT5} {d8 : List AT2} {q : List Int × List AT2} {c6 T : List Stp} {g n : Nat} {x : Stp}
theorem V6 {i : Int} (h : i.toNat < d8.length) : atA d8 i = d8[i.toNat] := by simp [atA, List.getD, h]
theorem a0I {α β : Type} {f : β → α → β} {b : β} {l : List α} (h : g < l.length) : (l.take (g + 1)).foldl f b = f ((l.take g).foldl f b) l[g] := by
 rw [List.take_succ_eq_append_getElem h, List.foldl_append]; rfl
theorem a3X (h : g < c6.length) : stB d8 (c6.take g) ++ (atA d8 c6[g].1).2 = stB d8 (c6.take (g + 1)) := by unfold stB; rw [a0I h]
theorem a9P (h : g < c6.length) : a0l (stV d8 (c6.take g)) (atA d8 c6[g].1) = stV d8 (c6.take (g + 1)) := by unfold stV; rw [a0I h]
theorem b0B (h : g < c6.length) : (stD n (c6.take g)).set c6[g].1.toNat true = stD n (c6.take (g + 1)) := by unfold stD; rw [a0I h]
theorem a9L (h : g < c6.length) : (c6.take g).map (fun x => x.1) ++ [c6[g].1] = (c6.take (g + 1)).map fun x => x.1 := by rw [List.take_succ_eq_append_getElem h, List.map_append]; rfl
theorem a9r : ∀ {T : List Stp} {d : List Bool}, (T.foldl (fun d x => d.set x.1.toNat true) d).length = d.length
 | [], _ => rfl
 | x :: T, d => by rw [List.foldl_cons, a9r (T := T)]; exact List.length_set
theorem a5l : (stD n T).length = n := by unfold stD; rw [a9r, List.length_replicate]
theorem b0g {k : Nat} : ∀ {T : List Stp} {d : List Bool}, (∀ x ∈ T, 0 ≤ x.1) → k < d.length → (T.foldl (fun d x => d.set x.1.toNat true) d).getD k false = (d.getD k false || stU T (k : Int))
 | [], d, _, _ => by simp [stU]
 | x :: T, d, h, hk => by
  rw [List.foldl_cons, b0g (fun y hy => h y (List.mem_cons_of_mem _ hy)) (by rw [List.length_set]; exact hk)]
  have h0 := h x (List.mem_cons_self ..)
  unfold stU
  rw [List.any_cons, ← Bool.or_assoc]
  congr 1
  by_cases e : x.1.toNat = k
  ·have e2 : x.1 = (k : Int) := by omega
   simp [List.getD, e, e2, hk]
  ·have e2 : ¬ x.1 = (k : Int) := by omega
   simp [List.getD, List.getElem?_set_ne e, e2]
theorem b0V {i : Int} (h : ∀ x ∈ T, 0 ≤ x.1) (h0 : 0 ≤ i) (hk : i.toNat < n) : (stD n T)[i.toNat]'(by rw [a5l]; exact hk) = stU T i := by
 have := b0g (T := T) (d := List.replicate n false) (k := i.toNat) h (by rw [List.length_replicate]; exact hk)
 rw [show ((i.toNat : Nat) : Int) = i from by omega] at this
 have e : (List.replicate n false).getD i.toNat false = false := by simp [List.getD, List.getElem?_replicate, hk]
 rw [e, Bool.false_or] at this
 rw [← this]
 show _ = (stD n T).getD i.toNat false
 exact (J0 (by rw [a5l]; exact hk)).symm
theorem a3l : ∀ {g : Nat}, Q8 l d8 c6 g = true → g ≤ c6.length → ∀ x ∈ c6.take g, 0 ≤ x.1 ∧ x.1.toNat < d8.length ∧ 0 ≤ x.2 ∧ x.2.toNat < l.length
 | 0, _, _, x, hx => by simp at hx
 | g + 1, h, hg, x, hx => by
  rw [Q8, Bool.and_eq_true] at h
  rw [List.take_succ_eq_append_getElem (by omega)] at hx
  rcases List.mem_append.1 hx with hx | hx
  ·exact a3l h.1 (by omega) x hx
  ·simp only [List.mem_singleton] at hx; subst hx
   have h2 := h.2
   rw [J0 (by omega : g < c6.length)] at h2
   simp only [S3, Bool.and_eq_true] at h2
   have a1 := Q5 h2.1
   have a2 := Q5 h2.2.2.1
   omega
theorem b0r : ∀ {k : Nat}, Q8 l d8 c6 g = false → Q8 l d8 c6 (g + k) = false
 | 0, h => h
 | k + 1, h => by rw [← Nat.add_assoc, Q8, b0r h, Bool.false_and]
theorem b1d {i : Int} : G7 (T.map fun x => x.1) i = stU T i := b1r
theorem b3l : ∀ {T : List Stp} {b b' : List Int}, (∀ v, inR v 10 17 = true → G7 b v = G7 b' v) → ∀ v, inR v 10 17 = true → G7 (T.foldl (fun b x => b ++ (atA d8 x.1).2) b) v = G7 (T.foldl (fun b x => a0l b (atA d8 x.1)) b') v
 | [], _, _, h => h
 | x :: T, b, b', h => by
  refine b3l (T := T) fun v hv => ?_
  rw [b1j _ hv, ← h v hv]
  unfold G7; rw [List.any_append]
theorem b4L {m : MT5} {a : AT2} : P6 m a (stV d8 T) = P6 m a (stB d8 T) := b3b fun v hv => (b3l (fun _ _ => rfl) v hv).symm
theorem a1W (hg : g < c6.length) (h : S3 l q.2 (c6.take g) c6[g] = false) : false = H6 s l q c6 := by
 have h1 : Q8 l q.2 c6 (g + 1) = false := by rw [Q8, J0 hg, h, Bool.and_false]
 have h2 := b0r (k := c6.length - (g + 1)) h1
 rw [show g + 1 + (c6.length - (g + 1)) = c6.length from by omega] at h2
 rw [H6, h2, Bool.and_false, Bool.and_false]
theorem b0m (hg : g < c6.length) (hp : Q8 l d8 c6 g = true) (h : S3 l d8 (c6.take g) c6[g] = true) : Q8 l d8 c6 (g + 1) = true := by
 rw [Q8, J0 hg, h, hp]; rfl
theorem b3g (h : inR x.1 0 ((d8.length : Int) - 1) = false) : S3 l d8 T x = false := by rw [S3, h, Bool.false_and]
theorem b2T (h : stU T x.1 = true) : S3 l d8 T x = false := by rw [S3, h]; simp
theorem b3a (h : inR x.2 0 ((l.length : Int) - 1) = false) : S3 l d8 T x = false := by rw [S3, h]; simp
theorem b2H (h : P6 (l.getD x.2.toNat (0, [], 0, 0, 0)) (atA d8 x.1) (stB d8 T) = false) : S3 l d8 T x = false := by rw [S3, h]; simp
theorem b2I (h1 : inR x.1 0 ((d8.length : Int) - 1) = true) (h2 : stU T x.1 = false) (h3 : inR x.2 0 ((l.length : Int) - 1) = true) (h4 : P6 (l.getD x.2.toNat (0, [], 0, 0, 0)) (atA d8 x.1) (stB d8 T) = true) : S3 l d8 T x = true := by rw [S3, h1, h2, h3, h4]; rfl
theorem b0S (h : (G5 s l && z8 s q) = false) : false = H6 s l q c6 := by rw [H6, h, Bool.false_and]
theorem b1A (h : ¬ (c6.length : Int) = q.2.length) : false = H6 s l q c6 := by rw [H6, decide_eq_false h, Bool.false_and, Bool.and_false]
theorem b0W (h : (G5 s l && z8 s q) = true) (h2 : (c6.length : Int) = q.2.length) (hg : ¬ g < c6.length) (hl : g ≤ c6.length) (hp : Q8 l q.2 c6 g = true) : true = H6 s l q c6 := by
 rw [show g = c6.length from by omega] at hp
 rw [H6, h, decide_eq_true h2, hp]; rfl
theorem b0h : ∀ {T : List Stp} {b : List Int}, (∀ a ∈ d8, a.2.length ≤ 3) → (T.foldl (fun b x => b ++ (atA d8 x.1).2) b).length ≤ b.length + 3 * T.length
 | [], b, _ => by simp
 | x :: T, b, h => by
  have ih := b0h (T := T) (b := b ++ (atA d8 x.1).2) h
  have h1 : (atA d8 x.1).2.length ≤ 3 := by
   unfold atA
   rcases Nat.lt_or_ge x.1.toNat d8.length with hk | hk
   ·rw [J0 hk]; exact h _ (List.getElem_mem hk)
   ·simp [List.getD, List.getElem?_eq_none hk]
  rw [List.length_append] at ih
  rw [List.foldl_cons, List.length_cons]
  omega
theorem b1k (h : ∀ a ∈ d8, a.2.length ≤ 3) : (stB d8 T).length ≤ 3 * T.length := by
 have := b0h (T := T) (b := []) h
 simpa [stB] using this
theorem a9G {b : List Int} {a : AT2} : (a0l b a).length ≤ b.length + a.2.length := by
 have h1 := a2v (b := b) (t := a.2.filter fun t => inR t 10 17)
 have h2 := List.length_filter_le (fun t => inR t 10 17) a.2
 unfold a0l; omega
theorem a9A : ∀ {T : List Stp} {b : List Int}, (∀ a ∈ d8, a.2.length ≤ 3) → (T.foldl (fun b x => a0l b (atA d8 x.1)) b).length ≤ b.length + 3 * T.length
 | [], b, _ => by simp
 | x :: T, b, h => by
  have ih := a9A (T := T) (b := a0l b (atA d8 x.1)) h
  have h2 := a9G (b := b) (a := atA d8 x.1)
  have h1 : (atA d8 x.1).2.length ≤ 3 := by
   unfold atA
   rcases Nat.lt_or_ge x.1.toNat d8.length with hk | hk
   ·rw [J0 hk]; exact h _ (List.getElem_mem hk)
   ·simp [List.getD, List.getElem?_eq_none hk]
  rw [List.foldl_cons, List.length_cons]
  omega
theorem b1J (h : ∀ a ∈ d8, a.2.length ≤ 3) : (stV d8 T).length ≤ 3 * T.length := by
 have := a9A (T := T) (b := []) h
 simpa [stV] using this
end
end Go.Proofs.YtlfhopooaejpfaaGreat
