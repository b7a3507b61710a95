/- Plain definitions: methods, lists of values, open accesses. No program in sight. -/
import Derived.Test.YtnagfcajnbkdoaaDh
namespace Go.Proofs.Ytnagfcajnbkdoaa
set_option linter.unusedVariables false
def chainB {α : Type} (r : α → α → Bool) : List α → Bool
  | a :: b :: l => r a b && chainB r (b :: l)
  | _ => true
theorem drop_pred {α : Type} {l : List α} {g : Nat} (h : g < l.length) (h0 : 0 < g) : l.drop (g - 1) = l[g - 1] :: l[g] :: l.drop (g + 1) := by
  rw [List.drop_eq_getElem_cons (by omega), show g - 1 + 1 = g by omega, List.drop_eq_getElem_cons h]
def ltB (a b : Int) : Bool := decide (a < b)
theorem chain_step {α : Type} {r : α → α → Bool} {l : List α} {g : Nat} (h : g < l.length) (h0 : 0 < g) : chainB r (l.drop (g - 1)) = (r l[g - 1] l[g] && chainB r (l.drop g)) := by
  rw [drop_pred h h0, chainB, ← List.drop_eq_getElem_cons h]
theorem chain_zero {α : Type} {r : α → α → Bool} {l : List α} {g : Nat} (h : g = 0) : chainB r (l.drop (g - 1)) = chainB r (l.drop g) := by subst h; rfl
theorem chain_end {α : Type} {r : α → α → Bool} {l : List α} {g : Nat} (h : l.length ≤ g) : chainB r (l.drop (g - 1)) = true := by
  have : (l.drop (g - 1)).length ≤ 1 := by simp; omega
  match l.drop (g - 1), this with
  | [], _ => rfl
  | [x], _ => rfl
  | x :: y :: z, h => simp at h
def fitsB (m : Int × List Int × Int × Int × Int) (ar : Int) : Bool :=
  chainB ltB m.2.1 && (okPos m.2.1 ar && (inR m.2.2.1 0 9 && (inR m.2.2.2.1 0 99 && inR m.2.2.2.2 1 99)))
def okMeth (s : List Int) (m : Int × List Int × Int × Int × Int) : Bool := okRel s m.1 && fitsB m (at0 s m.1)
def okMeths (s : List Int) (l : List (Int × List Int × Int × Int × Int)) : Bool := okSchema s && (decide ((l.length : Int) ≤ 5) && !l.any fun m => !okMeth s m)
def okReach (v : List Int) : Bool := chainB ltB v && okVals v
def hasA (l : List (Int × List Int)) (a : Int × List Int) : Bool := l.any fun z => decide (z = a)
def listsF (values : List Int) : Nat → List (List Int)
  | 0 => [[]]
  | n + 1 => (listsF values n).flatMap fun l => values.map fun v => l ++ [v]
theorem lists_mem {values : List Int} : ∀ {t : Nat}, ∀ l ∈ listsF values t, l.length = t
  | 0, l, h => by simp [listsF] at h; simp [h]
  | t + 1, l, h => by
    simp only [listsF, List.mem_flatMap, List.mem_map] at h
    obtain ⟨x, hx, v, hv, rfl⟩ := h
    simp [lists_mem x hx]
theorem lists_len {values : List Int} : ∀ {t : Nat}, (listsF values t).length = values.length ^ t
  | 0 => rfl
  | t + 1 => by
    simp only [listsF, List.length_flatMap, List.length_map]
    rw [Nat.pow_succ, ← lists_len (t := t)]
    generalize listsF values t = l
    induction l with
    | nil => simp
    | cons x l ih => simp [ih, Nat.succ_mul, Nat.add_comm]
theorem lists_le {values : List Int} {t : Nat} (h : values.length ≤ 10) (ht : t ≤ 3) : (listsF values t).length ≤ 1000 := by
  rw [lists_len]
  exact Nat.le_trans (Nat.pow_le_pow_left h t) (Nat.le_trans (Nat.pow_le_pow_right (by decide) ht) (by decide))
theorem take_flat_le {values : List Int} {l : List (List Int)} {k : Nat} (h : values.length ≤ 10) : ((l.take k).flatMap fun l => values.map fun v => l ++ [v]).length ≤ k * 10 := by
  simp only [List.length_flatMap, List.length_map]
  induction l generalizing k with
  | nil => simp
  | cons x l ih =>
    cases k with
    | zero => simp
    | succ k => have := ih (k := k); simp only [List.take_succ_cons, List.map_cons, List.sum_cons]; omega
def opn1 (values : List Int) (log : List (Int × List Int)) (i : Int) (k : Nat) : List (Int × List Int) :=
  ((listsF values k).filter fun v => !hasA log (i, v)).map fun v => (i, v)
def opnF (values : List Int) (log : List (Int × List Int)) : List (Int × List Int × Int × Int × Int) → Int → List (Int × List Int)
  | [], _ => []
  | m :: l, i => (if m.2.2.1 ≠ 0 then [] else opn1 values log i m.2.1.length) ++ opnF values log l (i + 1)
theorem opn_app {values : List Int} {log : List (Int × List Int)} : ∀ {l l' : List (Int × List Int × Int × Int × Int)} {i : Int}, opnF values log (l ++ l') i = opnF values log l i ++ opnF values log l' (i + l.length)
  | [], l', i => by simp [opnF]
  | m :: l, l', i => by
    rw [List.cons_append, opnF, opnF, opn_app (l := l), List.append_assoc, List.length_cons, show i + 1 + (l.length : Int) = i + ((l.length + 1 : Nat) : Int) by omega]
theorem opn_len {values : List Int} {log : List (Int × List Int)} {i : Int} (h : values.length ≤ 10) : ∀ {l : List (Int × List Int × Int × Int × Int)}, (∀ m ∈ l, m.2.1.length ≤ 3) → (opnF values log l i).length ≤ l.length * 1000
  | [], _ => by simp [opnF]
  | m :: l, hm => by
    have h1 := opn_len (values := values) (log := log) (i := i + 1) h (l := l) (fun x hx => hm x (by simp [hx]))
    have h2 := lists_le (values := values) h (hm m (by simp))
    have h3 := List.length_filter_le (fun v => !hasA log (i, v)) (listsF values m.2.1.length)
    simp only [opnF, List.length_append, List.length_cons]
    split
    · rw [List.length_nil]; omega
    · simp only [opn1, List.length_map]; omega
def opnR (s : List Int) (l : List (Int × List Int × Int × Int × Int)) (values : List Int) (log : List (Int × List Int)) : List (Int × List Int) :=
  if okMeths s l && okReach values then opnF values log l 0 else []
/-- an ascending list between two numbers is short -/
theorem chain_len : ∀ {l : List Int} {a b : Int}, chainB ltB l = true → (∀ x ∈ l, a ≤ x ∧ x ≤ b) → a ≤ b + 1 → (l.length : Int) ≤ b - a + 1
  | [], _, _, _, _, _ => by simp; omega
  | [x], a, b, _, h, _ => by have := h x (by simp); simp; omega
  | x :: y :: l, a, b, hc, h, hab => by
    simp only [chainB, ltB, Bool.and_eq_true, decide_eq_true_eq] at hc
    have hx := h x (by simp)
    have hge : ∀ z ∈ y :: l, x + 1 ≤ z := by
      have : ∀ {l : List Int} {y : Int}, chainB ltB (y :: l) = true → ∀ z ∈ y :: l, y ≤ z := by
        intro l
        induction l with
        | nil => intro y _ z hz; simp at hz; omega
        | cons u l ih =>
          intro y hc z hz
          simp only [chainB, ltB, Bool.and_eq_true, decide_eq_true_eq] at hc
          rcases List.mem_cons.1 hz with rfl | hz
          · omega
          · have := ih hc.2 z hz; omega
      intro z hz
      have := this hc.2 z hz; omega
    have := chain_len (l := y :: l) (a := x + 1) (b := b) hc.2 (fun z hz => ⟨hge z hz, (h z (by simp only [List.mem_cons] at hz ⊢; exact .inr hz)).2⟩) (by omega)
    simp only [List.length_cons] at this ⊢; omega
theorem okReach_len {v : List Int} (h : okReach v = true) : v.length ≤ 10 := by
  simp only [okReach, okVals, Bool.and_eq_true, Bool.not_eq_true', List.any_eq_false] at h
  have := chain_len (a := 0) (b := 9) h.1 (fun x hx => by have := h.2 x hx; simpa [inR] using this) (by omega)
  omega
theorem okMeth_len {s : List Int} {m : Int × List Int × Int × Int × Int} (h : okMeth s m = true) : m.2.1.length ≤ 3 := by
  simp only [okMeth, fitsB, okPos, Bool.and_eq_true, Bool.not_eq_true', List.any_eq_false] at h
  have h1 := okRel_lt h.1
  have := chain_len (a := 0) (b := at0 s m.1 - 1) h.2.1 (fun x hx => by have := h.2.2.1 x hx; simpa [inR] using this) (by simp only [at0]; omega)
  simp only [at0] at this; omega
theorem okMeths_len {s : List Int} {l : List (Int × List Int × Int × Int × Int)} (h : okMeths s l = true) : (∀ m ∈ l, m.2.1.length ≤ 3) ∧ l.length ≤ 5 := by
  simp only [okMeths, Bool.and_eq_true, Bool.not_eq_true', List.any_eq_false, decide_eq_true_eq] at h
  refine ⟨fun m hm => okMeth_len (s := s) ?_, by omega⟩
  have := h.2.2 m hm
  simpa using this
theorem totS_max {α : Type} {c : α → Nat} {n : Nat} : ∀ {l : List α}, (∀ x ∈ l, c x ≤ n) → totS c l ≤ l.length * n
  | [], _ => by simp [totS]
  | x :: l, h => by
    have h1 := totS_max (c := c) (n := n) (l := l) fun y hy => h y (by simp [hy])
    have h2 := h x (by simp)
    simp only [totS, List.map_cons, List.sum_cons, List.length_cons, Nat.succ_mul] at h1 ⊢; omega
theorem opn_mem {values : List Int} {log : List (Int × List Int)} : ∀ {l : List (Int × List Int × Int × Int × Int)} {i : Int}, (∀ m ∈ l, m.2.1.length ≤ 3) → ∀ a ∈ opnF values log l i, a.2.length ≤ 3
  | [], _, _, a, h => by simp [opnF] at h
  | m :: l, i, hm, a, h => by
    simp only [opnF, List.mem_append] at h
    rcases h with h | h
    · split at h
      · cases h
      · simp only [opn1, List.mem_map, List.mem_filter] at h
        obtain ⟨v, ⟨hv, _⟩, rfl⟩ := h
        have e1 := lists_mem v hv
        have e2 := hm m (by simp)
        show v.length ≤ 3; omega
    · exact opn_mem (l := l) (fun x hx => hm x (by simp [hx])) a h
theorem opnR_tot {s : List Int} {l : List (Int × List Int × Int × Int × Int)} {v : List Int} {log : List (Int × List Int)} : totS cE_Access (opnR s l v log) ≤ 20000 := by
  unfold opnR
  split
  · rename_i h
    simp only [Bool.and_eq_true] at h
    obtain ⟨h1, h2⟩ := okMeths_len h.1
    have h3 := okReach_len h.2
    have h4 := opn_len (values := v) (log := log) (i := 0) h3 h1
    have h5 := totS_max (c := cE_Access) (n := 4) (l := opnF v log l 0) fun a ha => by
      have := opn_mem h1 a ha
      simp only [cE_Access, totS_I]; omega
    omega
  · simp [totS]
end Go.Proofs.Ytnagfcajnbkdoaa
