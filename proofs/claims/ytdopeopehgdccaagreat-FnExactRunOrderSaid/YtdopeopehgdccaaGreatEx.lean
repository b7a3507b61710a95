import Derived.Test.YtdopeopehgdccaaGreatEp
import Derived.Test.YtdopeopehgdccaaGreatDy
namespace Go.Proofs.YtdopeopehgdccaaGreat
set_option linter.unusedVariables false
set_option linter.unusedSimpArgs false
abbrev Stp := Int × Int
def atA (l : List AT2) (i : Int) : AT2 := l.getD i.toNat (0, [])
def stB (i9 : List AT2) (T : List Stp) : List Int := T.foldl (fun b x => b ++ (atA i9 x.1).2) []
def stV (i9 : List AT2) (T : List Stp) : List Int := T.foldl (fun b x => a0K b (atA i9 x.1)) []
def stD (n : Nat) (T : List Stp) : List Bool := T.foldl (fun d x => d.set x.1.toNat true) (List.replicate n false)
def stU (T : List Stp) (i : Int) : Bool := T.any fun y => decide (y.1 = i)
def R4 (l : List MT5) (i9 : List AT2) (T : List Stp) (x : Stp) : Bool := inR x.1 0 ((i9.length : Int) - 1) && (!stU T x.1 && (inR x.2 0 ((l.length : Int) - 1) && S9 (l.getD x.2.toNat (0, [], 0, 0, 0)) (atA i9 x.1) (stB i9 T)))
def P4 (l : List MT5) (i9 : List AT2) (d7 : List Stp) : Nat → Bool
  | 0 => true
  | g + 1 => P4 l i9 d7 g && R4 l i9 (d7.take g) (d7.getD g (0, 0))
def G1 (s : List Int) (l : List MT5) (q : List Int × List AT2) (d7 : List Stp) : Bool := (D6 s l && E2 s q) && (decide ((d7.length : Int) = q.2.length) && P4 l q.2 d7 d7.length)
section
variable {s : List Int} {l : List MT5} {i9 : List AT2} {q : List Int × List AT2} {d7 T : List Stp} {g n : Nat} {x : Stp}
theorem V8 {i : Int} (h : i.toNat < i9.length) : atA i9 i = i9[i.toNat] := by simp [atA, List.getD, h]
theorem Y8 {α β : Type} {f : β → α → β} {b : β} {l : List α} (h : g < l.length) : (l.take (g + 1)).foldl f b = f ((l.take g).foldl f b) l[g] := by
  rw [List.take_succ_eq_append_getElem h, List.foldl_append]; rfl
theorem a4j (h : g < d7.length) : stB i9 (d7.take g) ++ (atA i9 d7[g].1).2 = stB i9 (d7.take (g + 1)) := by unfold stB; rw [Y8 h]
theorem a7N (h : g < d7.length) : a0K (stV i9 (d7.take g)) (atA i9 d7[g].1) = stV i9 (d7.take (g + 1)) := by unfold stV; rw [Y8 h]
theorem a7Q (h : g < d7.length) : (stD n (d7.take g)).set d7[g].1.toNat true = stD n (d7.take (g + 1)) := by unfold stD; rw [Y8 h]
theorem a7M (h : g < d7.length) : (d7.take g).map (fun x => x.1) ++ [d7[g].1] = (d7.take (g + 1)).map fun x => x.1 := by rw [List.take_succ_eq_append_getElem h, List.map_append]; rfl
theorem a7w : ∀ {T : List Stp} {d : List Bool}, (T.foldl (fun d x => d.set x.1.toNat true) d).length = d.length
  | [], _ => rfl
  | x :: T, d => by rw [List.foldl_cons, a7w (T := T)]; exact List.length_set
theorem a3o : (stD n T).length = n := by unfold stD; rw [a7w, List.length_replicate]
theorem a7g {k : Nat} : ∀ {T : List Stp} {d : List Bool}, (∀ x ∈ T, 0 ≤ x.1) → k < d.length → (T.foldl (fun d x => d.set x.1.toNat true) d).getD k false = (d.getD k false || stU T (k : Int))
  | [], d, _, _ => by simp [stU]
  | x :: T, d, h, hk => by
    rw [List.foldl_cons, a7g (fun y hy => h y (List.mem_cons_of_mem _ hy)) (by rw [List.length_set]; exact hk)]
    have h0 := h x (List.mem_cons_self ..)
    unfold stU
    rw [List.any_cons, ← Bool.or_assoc]
    congr 1
    by_cases e : x.1.toNat = k
    · have e2 : x.1 = (k : Int) := by omega
      simp [List.getD, e, e2, hk]
    · have e2 : ¬ x.1 = (k : Int) := by omega
      simp [List.getD, List.getElem?_set_ne e, e2]
theorem a8s {i : Int} (h : ∀ x ∈ T, 0 ≤ x.1) (h0 : 0 ≤ i) (hk : i.toNat < n) : (stD n T)[i.toNat]'(by rw [a3o]; exact hk) = stU T i := by
  have := a7g (T := T) (d := List.replicate n false) (k := i.toNat) h (by rw [List.length_replicate]; exact hk)
  rw [show ((i.toNat : Nat) : Int) = i from by omega] at this
  have e : (List.replicate n false).getD i.toNat false = false := by simp [List.getD, List.getElem?_replicate, hk]
  rw [e, Bool.false_or] at this
  rw [← this]
  show _ = (stD n T).getD i.toNat false
  exact (F5 (by rw [a3o]; exact hk)).symm
theorem a2Y : ∀ {g : Nat}, P4 l i9 d7 g = true → g ≤ d7.length → ∀ x ∈ d7.take g, 0 ≤ x.1 ∧ x.1.toNat < i9.length ∧ 0 ≤ x.2 ∧ x.2.toNat < l.length
  | 0, _, _, x, hx => by simp at hx
  | g + 1, h, hg, x, hx => by
    rw [P4, Bool.and_eq_true] at h
    rw [List.take_succ_eq_append_getElem (by omega)] at hx
    rcases List.mem_append.1 hx with hx | hx
    · exact a2Y h.1 (by omega) x hx
    · simp only [List.mem_singleton] at hx; subst hx
      have h2 := h.2
      rw [F5 (by omega : g < d7.length)] at h2
      simp only [R4, Bool.and_eq_true] at h2
      have a1 := O1 h2.1
      have a2 := O1 h2.2.2.1
      omega
theorem a7o : ∀ {k : Nat}, P4 l i9 d7 g = false → P4 l i9 d7 (g + k) = false
  | 0, h => h
  | k + 1, h => by rw [← Nat.add_assoc, P4, a7o h, Bool.false_and]
theorem a8t {i : Int} : F8 (T.map fun x => x.1) i = stU T i := b0X
theorem a9p : ∀ {T : List Stp} {b b' : List Int}, (∀ v, inR v 10 17 = true → F8 b v = F8 b' v) → ∀ v, inR v 10 17 = true → F8 (T.foldl (fun b x => b ++ (atA i9 x.1).2) b) v = F8 (T.foldl (fun b x => a0K b (atA i9 x.1)) b') v
  | [], _, _, h => h
  | x :: T, b, b', h => by
    refine a9p (T := T) fun v hv => ?_
    rw [b0L _ hv, ← h v hv]
    unfold F8; rw [List.any_append]
theorem b0E {m : MT5} {a : AT2} : S9 m a (stV i9 T) = S9 m a (stB i9 T) := b1r fun v hv => (a9p (fun _ _ => rfl) v hv).symm
theorem a0Y (hg : g < d7.length) (h : R4 l q.2 (d7.take g) d7[g] = false) : false = G1 s l q d7 := by
  have h1 : P4 l q.2 d7 (g + 1) = false := by rw [P4, F5 hg, h, Bool.and_false]
  have h2 := a7o (k := d7.length - (g + 1)) h1
  rw [show g + 1 + (d7.length - (g + 1)) = d7.length from by omega] at h2
  rw [G1, h2, Bool.and_false, Bool.and_false]
theorem a7Y (hg : g < d7.length) (hp : P4 l i9 d7 g = true) (h : R4 l i9 (d7.take g) d7[g] = true) : P4 l i9 d7 (g + 1) = true := by
  rw [P4, F5 hg, h, hp]; rfl
theorem a9F (h : inR x.1 0 ((i9.length : Int) - 1) = false) : R4 l i9 T x = false := by rw [R4, h, Bool.false_and]
theorem a9c (h : stU T x.1 = true) : R4 l i9 T x = false := by rw [R4, h]; simp
theorem a9r (h : inR x.2 0 ((l.length : Int) - 1) = false) : R4 l i9 T x = false := by rw [R4, h]; simp
theorem a9G (h : S9 (l.getD x.2.toNat (0, [], 0, 0, 0)) (atA i9 x.1) (stB i9 T) = false) : R4 l i9 T x = false := by rw [R4, h]; simp
theorem a9j (h1 : inR x.1 0 ((i9.length : Int) - 1) = true) (h2 : stU T x.1 = false) (h3 : inR x.2 0 ((l.length : Int) - 1) = true) (h4 : S9 (l.getD x.2.toNat (0, [], 0, 0, 0)) (atA i9 x.1) (stB i9 T) = true) : R4 l i9 T x = true := by rw [R4, h1, h2, h3, h4]; rfl
theorem a8l (h : (D6 s l && E2 s q) = false) : false = G1 s l q d7 := by rw [G1, h, Bool.false_and]
theorem a8A (h : ¬ (d7.length : Int) = q.2.length) : false = G1 s l q d7 := by rw [G1, decide_eq_false h, Bool.false_and, Bool.and_false]
theorem a8z (h : (D6 s l && E2 s q) = true) (h2 : (d7.length : Int) = q.2.length) (hg : ¬ g < d7.length) (hl : g ≤ d7.length) (hp : P4 l q.2 d7 g = true) : true = G1 s l q d7 := by
  rw [show g = d7.length from by omega] at hp
  rw [G1, h, decide_eq_true h2, hp]; rfl
theorem a7r : ∀ {T : List Stp} {b : List Int}, (∀ a ∈ i9, a.2.length ≤ 3) → (T.foldl (fun b x => b ++ (atA i9 x.1).2) b).length ≤ b.length + 3 * T.length
  | [], b, _ => by simp
  | x :: T, b, h => by
    have ih := a7r (T := T) (b := b ++ (atA i9 x.1).2) h
    have h1 : (atA i9 x.1).2.length ≤ 3 := by
      unfold atA
      rcases Nat.lt_or_ge x.1.toNat i9.length with hk | hk
      · rw [F5 hk]; exact h _ (List.getElem_mem hk)
      · simp [List.getD, List.getElem?_eq_none hk]
    rw [List.length_append] at ih
    rw [List.foldl_cons, List.length_cons]
    omega
theorem a8y (h : ∀ a ∈ i9, a.2.length ≤ 3) : (stB i9 T).length ≤ 3 * T.length := by
  have := a7r (T := T) (b := []) h
  simpa [stB] using this
theorem b0o {b : List Int} {a : AT2} : (a0K b a).length ≤ b.length + a.2.length := by
  have h1 := a2N (b := b) (t := a.2.filter fun t => inR t 10 17)
  have h2 := List.length_filter_le (fun t => inR t 10 17) a.2
  unfold a0K; omega
theorem a7X : ∀ {T : List Stp} {b : List Int}, (∀ a ∈ i9, a.2.length ≤ 3) → (T.foldl (fun b x => a0K b (atA i9 x.1)) b).length ≤ b.length + 3 * T.length
  | [], b, _ => by simp
  | x :: T, b, h => by
    have ih := a7X (T := T) (b := a0K b (atA i9 x.1)) h
    have h2 := b0o (b := b) (a := atA i9 x.1)
    have h1 : (atA i9 x.1).2.length ≤ 3 := by
      unfold atA
      rcases Nat.lt_or_ge x.1.toNat i9.length with hk | hk
      · rw [F5 hk]; exact h _ (List.getElem_mem hk)
      · simp [List.getD, List.getElem?_eq_none hk]
    rw [List.foldl_cons, List.length_cons]
    omega
theorem a8n (h : ∀ a ∈ i9, a.2.length ≤ 3) : (stV i9 T).length ≤ 3 * T.length := by
  have := a7X (T := T) (b := []) h
  simpa [stV] using this
end
end Go.Proofs.YtdopeopehgdccaaGreat
