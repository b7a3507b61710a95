import Derived.Test.YtdopeopehgdccaaGreatEp
import Derived.Test.YtdopeopehgdccaaGreatDy
namespace Go.Proofs.YtdopeopehgdccaaGreat
set_option linter.unusedVariables false
set_option linter.unusedSimpArgs false
abbrev Stp := Int × Int
def atA (l : List AT2) (i : Int) : AT2 := l.getD i.toNat (0, [])
def stB (d7 : List AT2) (T : List Stp) : List Int := T.foldl (fun b x => b ++ (atA d7 x.1).2) []
def stV (d7 : List AT2) (T : List Stp) : List Int := T.foldl (fun b x => a0e b (atA d7 x.1)) []
def stD (n : Nat) (T : List Stp) : List Bool := T.foldl (fun d x => d.set x.1.toNat true) (List.replicate n false)
def stU (T : List Stp) (i : Int) : Bool := T.any fun y => decide (y.1 = i)
def S4 (l : List MT5) (d7 : List AT2) (T : List Stp) (x : Stp) : Bool := inR x.1 0 ((d7.length : Int) - 1) && (!stU T x.1 && (inR x.2 0 ((l.length : Int) - 1) && F7 (l.getD x.2.toNat (0, [], 0, 0, 0)) (atA d7 x.1) (stB d7 T)))
def N7 (l : List MT5) (d7 : List AT2) (d6 : List Stp) : Nat → Bool
  | 0 => true
  | g + 1 => N7 l d7 d6 g && S4 l d7 (d6.take g) (d6.getD g (0, 0))
def G7 (s : List Int) (l : List MT5) (q : List Int × List AT2) (d6 : List Stp) : Bool := (B3 s l && y8 s q) && (decide ((d6.length : Int) = q.2.length) && N7 l q.2 d6 d6.length)
section
variable {s : List Int} {l : List MT5} {d7 : List AT2} {q : List Int × List AT2} {d6 T : List Stp} {g n : Nat} {x : Stp}
theorem a1U {i : Int} (h : i.toNat < d7.length) : atA d7 i = d7[i.toNat] := by simp [atA, List.getD, h]
theorem a1p {α β : Type} {f : β → α → β} {b : β} {l : List α} (h : g < l.length) : (l.take (g + 1)).foldl f b = f ((l.take g).foldl f b) l[g] := by
  rw [List.take_succ_eq_append_getElem h, List.foldl_append]; rfl
theorem b3k (h : g < d6.length) : stB d7 (d6.take g) ++ (atA d7 d6[g].1).2 = stB d7 (d6.take (g + 1)) := by unfold stB; rw [a1p h]
theorem b0F (h : g < d6.length) : a0e (stV d7 (d6.take g)) (atA d7 d6[g].1) = stV d7 (d6.take (g + 1)) := by unfold stV; rw [a1p h]
theorem a9z (h : g < d6.length) : (d6.take g).map (fun x => x.1) ++ [d6[g].1] = (d6.take (g + 1)).map fun x => x.1 := by rw [List.take_succ_eq_append_getElem h, List.map_append]; rfl
theorem a9L : ∀ {T : List Stp} {d : List Bool}, (T.foldl (fun d x => d.set x.1.toNat true) d).length = d.length
  | [], _ => rfl
  | x :: T, d => by rw [List.foldl_cons, a9L (T := T)]; exact List.length_set
theorem b4k : (stD n T).length = n := by unfold stD; rw [a9L, List.length_replicate]
theorem a6O : ∀ {g : Nat}, N7 l d7 d6 g = true → g ≤ d6.length → ∀ x ∈ d6.take g, 0 ≤ x.1 ∧ x.1.toNat < d7.length ∧ 0 ≤ x.2 ∧ x.2.toNat < l.length
  | 0, _, _, x, hx => by simp at hx
  | g + 1, h, hg, x, hx => by
    rw [N7, Bool.and_eq_true] at h
    rw [List.take_succ_eq_append_getElem (by omega)] at hx
    rcases List.mem_append.1 hx with hx | hx
    · exact a6O h.1 (by omega) x hx
    · simp only [List.mem_singleton] at hx; subst hx
      have h2 := h.2
      rw [F6 (by omega : g < d6.length)] at h2
      simp only [S4, Bool.and_eq_true] at h2
      have a1 := S5 h2.1
      have a2 := S5 h2.2.2.1
      omega
theorem b0i : ∀ {k : Nat}, N7 l d7 d6 g = false → N7 l d7 d6 (g + k) = false
  | 0, h => h
  | k + 1, h => by rw [← Nat.add_assoc, N7, b0i h, Bool.false_and]
theorem b1x {i : Int} : B9 (T.map fun x => x.1) i = stU T i := b1p
theorem b2g : ∀ {T : List Stp} {b b' : List Int}, (∀ v, inR v 10 17 = true → B9 b v = B9 b' v) → ∀ v, inR v 10 17 = true → B9 (T.foldl (fun b x => b ++ (atA d7 x.1).2) b) v = B9 (T.foldl (fun b x => a0e b (atA d7 x.1)) b') v
  | [], _, _, h => h
  | x :: T, b, b', h => by
    refine b2g (T := T) fun v hv => ?_
    rw [b1f _ hv, ← h v hv]
    unfold B9; rw [List.any_append]
theorem b3Q {m : MT5} {a : AT2} : F7 m a (stV d7 T) = F7 m a (stB d7 T) := b2I fun v hv => (b2g (fun _ _ => rfl) v hv).symm
theorem a7g (hg : g < d6.length) (h : S4 l q.2 (d6.take g) d6[g] = false) : false = G7 s l q d6 := by
  have h1 : N7 l q.2 d6 (g + 1) = false := by rw [N7, F6 hg, h, Bool.and_false]
  have h2 := b0i (k := d6.length - (g + 1)) h1
  rw [show g + 1 + (d6.length - (g + 1)) = d6.length from by omega] at h2
  rw [G7, h2, Bool.and_false, Bool.and_false]
theorem b3r (hg : g < d6.length) (hp : N7 l d7 d6 g = true) (h : S4 l d7 (d6.take g) d6[g] = true) : N7 l d7 d6 (g + 1) = true := by
  rw [N7, F6 hg, h, hp]; rfl
theorem b5D (h : inR x.1 0 ((d7.length : Int) - 1) = false) : S4 l d7 T x = false := by rw [S4, h, Bool.false_and]
theorem b5p (h : stU T x.1 = true) : S4 l d7 T x = false := by rw [S4, h]; simp
theorem b5h (h : inR x.2 0 ((l.length : Int) - 1) = false) : S4 l d7 T x = false := by rw [S4, h]; simp
theorem b5o (h : F7 (l.getD x.2.toNat (0, [], 0, 0, 0)) (atA d7 x.1) (stB d7 T) = false) : S4 l d7 T x = false := by rw [S4, h]; simp
theorem b5d (h1 : inR x.1 0 ((d7.length : Int) - 1) = true) (h2 : stU T x.1 = false) (h3 : inR x.2 0 ((l.length : Int) - 1) = true) (h4 : F7 (l.getD x.2.toNat (0, [], 0, 0, 0)) (atA d7 x.1) (stB d7 T) = true) : S4 l d7 T x = true := by rw [S4, h1, h2, h3, h4]; rfl
theorem b4B (h : (B3 s l && y8 s q) = false) : false = G7 s l q d6 := by rw [G7, h, Bool.false_and]
theorem b4u (h : ¬ (d6.length : Int) = q.2.length) : false = G7 s l q d6 := by rw [G7, decide_eq_false h, Bool.false_and, Bool.and_false]
theorem b4T (h : (B3 s l && y8 s q) = true) (h2 : (d6.length : Int) = q.2.length) (hg : ¬ g < d6.length) (hl : g ≤ d6.length) (hp : N7 l q.2 d6 g = true) : true = G7 s l q d6 := by
  rw [show g = d6.length from by omega] at hp
  rw [G7, h, decide_eq_true h2, hp]; rfl
theorem b0n : ∀ {T : List Stp} {b : List Int}, (∀ a ∈ d7, a.2.length ≤ 3) → (T.foldl (fun b x => b ++ (atA d7 x.1).2) b).length ≤ b.length + 3 * T.length
  | [], b, _ => by simp
  | x :: T, b, h => by
    have ih := b0n (T := T) (b := b ++ (atA d7 x.1).2) h
    have h1 : (atA d7 x.1).2.length ≤ 3 := by
      unfold atA
      rcases Nat.lt_or_ge x.1.toNat d7.length with hk | hk
      · rw [F6 hk]; exact h _ (List.getElem_mem hk)
      · simp [List.getD, List.getElem?_eq_none hk]
    rw [List.length_append] at ih
    rw [List.foldl_cons, List.length_cons]
    omega
theorem b4D (h : ∀ a ∈ d7, a.2.length ≤ 3) : (stB d7 T).length ≤ 3 * T.length := by
  have := b0n (T := T) (b := []) h
  simpa [stB] using this
theorem b3g {b : List Int} {a : AT2} : (a0e b a).length ≤ b.length + a.2.length := by
  have h1 := a2P (b := b) (t := a.2.filter fun t => inR t 10 17)
  have h2 := List.length_filter_le (fun t => inR t 10 17) a.2
  unfold a0e; omega
theorem a9O : ∀ {T : List Stp} {b : List Int}, (∀ a ∈ d7, a.2.length ≤ 3) → (T.foldl (fun b x => a0e b (atA d7 x.1)) b).length ≤ b.length + 3 * T.length
  | [], b, _ => by simp
  | x :: T, b, h => by
    have ih := a9O (T := T) (b := a0e b (atA d7 x.1)) h
    have h2 := b3g (b := b) (a := atA d7 x.1)
    have h1 : (atA d7 x.1).2.length ≤ 3 := by
      unfold atA
      rcases Nat.lt_or_ge x.1.toNat d7.length with hk | hk
      · rw [F6 hk]; exact h _ (List.getElem_mem hk)
      · simp [List.getD, List.getElem?_eq_none hk]
    rw [List.foldl_cons, List.length_cons]
    omega
theorem b4I (h : ∀ a ∈ d7, a.2.length ≤ 3) : (stV d7 T).length ≤ 3 * T.length := by
  have := a9O (T := T) (b := []) h
  simpa [stV] using this
end
end Go.Proofs.YtdopeopehgdccaaGreat
