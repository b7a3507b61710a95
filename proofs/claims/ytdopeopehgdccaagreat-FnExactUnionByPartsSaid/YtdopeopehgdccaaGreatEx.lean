import Derived.Test.YtdopeopehgdccaaGreatEp
import Derived.Test.YtdopeopehgdccaaGreatDy
namespace Go.Proofs.YtdopeopehgdccaaGreat
set_option linter.unusedVariables false
set_option linter.unusedSimpArgs false
abbrev Stp := Int × Int
def atA (l : List AT2) (i : Int) : AT2 := l.getD i.toNat (0, [])
def stB (d8 : List AT2) (T : List Stp) : List Int := T.foldl (fun b x => b ++ (atA d8 x.1).2) []
def stV (d8 : List AT2) (T : List Stp) : List Int := T.foldl (fun b x => a1F b (atA d8 x.1)) []
def stD (n : Nat) (T : List Stp) : List Bool := T.foldl (fun d x => d.set x.1.toNat true) (List.replicate n false)
def stU (T : List Stp) (i : Int) : Bool := T.any fun y => decide (y.1 = i)
def a0f (l : List MT5) (d8 : List AT2) (T : List Stp) (x : Stp) : Bool := inR x.1 0 ((d8.length : Int) - 1) && (!stU T x.1 && (inR x.2 0 ((l.length : Int) - 1) && K6 (l.getD x.2.toNat (0, [], 0, 0, 0)) (atA d8 x.1) (stB d8 T)))
def V1 (l : List MT5) (d8 : List AT2) (d6 : List Stp) : Nat → Bool
 | 0 => true
 | g + 1 => V1 l d8 d6 g && a0f l d8 (d6.take g) (d6.getD g (0, 0))
def M5 (s : List Int) (l : List MT5) (q : List Int × List AT2) (d6 : List Stp) : Bool := (E2 s l && D2 s q) && (decide ((d6.length : Int) = q.2.length) && V1 l q.2 d6 d6.length)
section
variable {s : List Int} {l : List MT5} {d8 : List AT2} {q : List Int × List AT2} {d6 T : List Stp} {g n : Nat} {x : Stp}
theorem a3O {i : Int} (h : i.toNat < d8.length) : atA d8 i = d8[i.toNat] := by simp [atA, List.getD, h]
theorem a1v {α β : Type} {f : β → α → β} {b : β} {l : List α} (h : g < l.length) : (l.take (g + 1)).foldl f b = f ((l.take g).foldl f b) l[g] := by
 rw [List.take_succ_eq_append_getElem h, List.foldl_append]; rfl
theorem b7z (h : g < d6.length) : stB d8 (d6.take g) ++ (atA d8 d6[g].1).2 = stB d8 (d6.take (g + 1)) := by unfold stB; rw [a1v h]
theorem b3N (h : g < d6.length) : a1F (stV d8 (d6.take g)) (atA d8 d6[g].1) = stV d8 (d6.take (g + 1)) := by unfold stV; rw [a1v h]
theorem b3G (h : g < d6.length) : (d6.take g).map (fun x => x.1) ++ [d6[g].1] = (d6.take (g + 1)).map fun x => x.1 := by rw [List.take_succ_eq_append_getElem h, List.map_append]; rfl
theorem b3M : ∀ {T : List Stp} {d : List Bool}, (T.foldl (fun d x => d.set x.1.toNat true) d).length = d.length
 | [], _ => rfl
 | x :: T, d => by rw [List.foldl_cons, b3M (T := T)]; exact List.length_set
theorem b9q : (stD n T).length = n := by unfold stD; rw [b3M, List.length_replicate]
theorem b0t : ∀ {g : Nat}, V1 l d8 d6 g = true → g ≤ d6.length → ∀ x ∈ d6.take g, 0 ≤ x.1 ∧ x.1.toNat < d8.length ∧ 0 ≤ x.2 ∧ x.2.toNat < l.length
 | 0, _, _, x, hx => by simp at hx
 | g + 1, h, hg, x, hx => by
  rw [V1, Bool.and_eq_true] at h
  rw [List.take_succ_eq_append_getElem (by omega)] at hx
  rcases List.mem_append.1 hx with hx | hx
  ·exact b0t h.1 (by omega) x hx
  ·simp only [List.mem_singleton] at hx; subst hx
   have h2 := h.2
   rw [K5 (by omega : g < d6.length)] at h2
   simp only [a0f, Bool.and_eq_true] at h2
   have a1 := a0d h2.1
   have a2 := a0d h2.2.2.1
   omega
theorem b2Y : ∀ {k : Nat}, V1 l d8 d6 g = false → V1 l d8 d6 (g + k) = false
 | 0, h => h
 | k + 1, h => by rw [← Nat.add_assoc, V1, b2Y h, Bool.false_and]
theorem b4V {i : Int} : G0 (T.map fun x => x.1) i = stU T i := b5k
theorem b7b : ∀ {T : List Stp} {b b' : List Int}, (∀ v, inR v 10 17 = true → G0 b v = G0 b' v) → ∀ v, inR v 10 17 = true → G0 (T.foldl (fun b x => b ++ (atA d8 x.1).2) b) v = G0 (T.foldl (fun b x => a1F b (atA d8 x.1)) b') v
 | [], _, _, h => h
 | x :: T, b, b', h => by
  refine b7b (T := T) fun v hv => ?_
  rw [b5c _ hv, ← h v hv]
  unfold G0; rw [List.any_append]
theorem b8y {m : MT5} {a : AT2} : K6 m a (stV d8 T) = K6 m a (stB d8 T) := b6i fun v hv => (b7b (fun _ _ => rfl) v hv).symm
theorem b0B (hg : g < d6.length) (h : a0f l q.2 (d6.take g) d6[g] = false) : false = M5 s l q d6 := by
 have h1 : V1 l q.2 d6 (g + 1) = false := by rw [V1, K5 hg, h, Bool.and_false]
 have h2 := b2Y (k := d6.length - (g + 1)) h1
 rw [show g + 1 + (d6.length - (g + 1)) = d6.length from by omega] at h2
 rw [M5, h2, Bool.and_false, Bool.and_false]
theorem b7Q (hg : g < d6.length) (hp : V1 l d8 d6 g = true) (h : a0f l d8 (d6.take g) d6[g] = true) : V1 l d8 d6 (g + 1) = true := by
 rw [V1, K5 hg, h, hp]; rfl
theorem c0r (h : inR x.1 0 ((d8.length : Int) - 1) = false) : a0f l d8 T x = false := by rw [a0f, h, Bool.false_and]
theorem b9K (h : stU T x.1 = true) : a0f l d8 T x = false := by rw [a0f, h]; simp
theorem c0i (h : inR x.2 0 ((l.length : Int) - 1) = false) : a0f l d8 T x = false := by rw [a0f, h]; simp
theorem c0o (h : K6 (l.getD x.2.toNat (0, [], 0, 0, 0)) (atA d8 x.1) (stB d8 T) = false) : a0f l d8 T x = false := by rw [a0f, h]; simp
theorem b9I (h1 : inR x.1 0 ((d8.length : Int) - 1) = true) (h2 : stU T x.1 = false) (h3 : inR x.2 0 ((l.length : Int) - 1) = true) (h4 : K6 (l.getD x.2.toNat (0, [], 0, 0, 0)) (atA d8 x.1) (stB d8 T) = true) : a0f l d8 T x = true := by rw [a0f, h1, h2, h3, h4]; rfl
theorem b8Z (h : (E2 s l && D2 s q) = false) : false = M5 s l q d6 := by rw [M5, h, Bool.false_and]
theorem b9v (h : ¬ (d6.length : Int) = q.2.length) : false = M5 s l q d6 := by rw [M5, decide_eq_false h, Bool.false_and, Bool.and_false]
theorem b8Q (h : (E2 s l && D2 s q) = true) (h2 : (d6.length : Int) = q.2.length) (hg : ¬ g < d6.length) (hl : g ≤ d6.length) (hp : V1 l q.2 d6 g = true) : true = M5 s l q d6 := by
 rw [show g = d6.length from by omega] at hp
 rw [M5, h, decide_eq_true h2, hp]; rfl
theorem b3j : ∀ {T : List Stp} {b : List Int}, (∀ a ∈ d8, a.2.length ≤ 3) → (T.foldl (fun b x => b ++ (atA d8 x.1).2) b).length ≤ b.length + 3 * T.length
 | [], b, _ => by simp
 | x :: T, b, h => by
  have ih := b3j (T := T) (b := b ++ (atA d8 x.1).2) h
  have h1 : (atA d8 x.1).2.length ≤ 3 := by
   unfold atA
   rcases Nat.lt_or_ge x.1.toNat d8.length with hk | hk
   ·rw [K5 hk]; exact h _ (List.getElem_mem hk)
   ·simp [List.getD, List.getElem?_eq_none hk]
  rw [List.length_append] at ih
  rw [List.foldl_cons, List.length_cons]
  omega
theorem b9r (h : ∀ a ∈ d8, a.2.length ≤ 3) : (stB d8 T).length ≤ 3 * T.length := by
 have := b3j (T := T) (b := []) h
 simpa [stB] using this
theorem b7u {b : List Int} {a : AT2} : (a1F b a).length ≤ b.length + a.2.length := by
 have h1 := a4G (b := b) (t := a.2.filter fun t => inR t 10 17)
 have h2 := List.length_filter_le (fun t => inR t 10 17) a.2
 unfold a1F; omega
theorem b3t : ∀ {T : List Stp} {b : List Int}, (∀ a ∈ d8, a.2.length ≤ 3) → (T.foldl (fun b x => a1F b (atA d8 x.1)) b).length ≤ b.length + 3 * T.length
 | [], b, _ => by simp
 | x :: T, b, h => by
  have ih := b3t (T := T) (b := a1F b (atA d8 x.1)) h
  have h2 := b7u (b := b) (a := atA d8 x.1)
  have h1 : (atA d8 x.1).2.length ≤ 3 := by
   unfold atA
   rcases Nat.lt_or_ge x.1.toNat d8.length with hk | hk
   ·rw [K5 hk]; exact h _ (List.getElem_mem hk)
   ·simp [List.getD, List.getElem?_eq_none hk]
  rw [List.foldl_cons, List.length_cons]
  omega
theorem b9y (h : ∀ a ∈ d8, a.2.length ≤ 3) : (stV d8 T).length ≤ 3 * T.length := by
 have := b3t (T := T) (b := []) h
 simpa [stV] using this
end
end Go.Proofs.YtdopeopehgdccaaGreat
