/- Plain definitions: putting into an ascending list; sets of numbers. No program in sight. -/
import Derived.Test.YtnagfcajnbkdoaaDi
import Derived.Lib.SlicesCompact
namespace Go.Proofs.Ytnagfcajnbkdoaa
set_option linter.unusedVariables false
/-- f ahead of the first element of which p is true; nothing if there is none -/
def insQ {α : Type} (p : α → Bool) (f : α) : List α → List α
  | [] => []
  | x :: l => if p x then f :: x :: l else x :: insQ p f l
def addP {α : Type} (has : Bool) (p : α → Bool) (f : α) (l : List α) : List α := if has then l else if l.any p then insQ p f l else l ++ [f]
section
variable {α : Type} {p q : α → Bool} {f : α}
theorem insQ_no : ∀ {l : List α}, l.any p = false → insQ p f l = l
  | [], _ => rfl
  | x :: l, h => by
    simp only [List.any_cons, Bool.or_eq_false_iff] at h
    simp [insQ, h.1, insQ_no h.2]
theorem insQ_snoc : ∀ {l : List α} {y : α}, insQ p f (l ++ [y]) = if l.any p then insQ p f l ++ [y] else if p y then l ++ [f, y] else l ++ [y]
  | [], y => by simp [insQ]
  | x :: l, y => by
    have h := insQ_snoc (l := l) (y := y)
    simp only [List.cons_append, insQ, List.any_cons, h]
    cases p x <;> cases l.any p <;> cases p y <;> simp
theorem insQ_len : ∀ {l : List α}, (insQ p f l).length ≤ l.length + 1
  | [] => by simp [insQ]
  | x :: l => by
    have := insQ_len (l := l)
    simp only [insQ]; split <;> simp <;> omega
theorem addP_len {h : Bool} {l : List α} : (addP h p f l).length ≤ l.length + 1 := by
  have := insQ_len (p := p) (f := f) (l := l)
  unfold addP; split; omega; split; omega; simp
theorem addP_mem {h : Bool} {l : List α} {y : α} (hy : y ∈ addP h p f l) : y ∈ l ∨ y = f := by
  have ins : ∀ {l : List α}, y ∈ insQ p f l → y ∈ l ∨ y = f := by
    intro l
    induction l with
    | nil => simp [insQ]
    | cons x l ih =>
      intro h
      simp only [insQ] at h
      split at h
      · simp only [List.mem_cons] at h ⊢; rcases h with h | h | h <;> simp [h]
      · simp only [List.mem_cons] at h ⊢
        rcases h with h | h
        · simp [h]
        · rcases ih h with h | h <;> simp [h]
  unfold addP at hy
  split at hy
  · exact .inl hy
  · split at hy
    · exact ins hy
    · simpa using hy
theorem addP_ins {l : List α} (hpq : ∀ y ∈ l, p y = q y) : addP false p f l = l.take (if idxP q l < 0 then l.length else (idxP q l).toNat) ++ f :: l.drop (if idxP q l < 0 then l.length else (idxP q l).toNat) := by
  have ha : l.any p = l.any q := by
    induction l with
    | nil => rfl
    | cons x l ih => simp [List.any_cons, hpq x (by simp), ih fun y hy => hpq y (by simp [hy])]
  unfold addP idxP
  rw [ha]
  by_cases h : l.any q = true
  · simp only [h, if_true, Bool.false_eq_true, if_false]
    rw [if_neg (by omega), Int.toNat_natCast]
    clear ha
    induction l with
    | nil => simp at h
    | cons x l ih =>
      simp only [insQ, List.findIdx_cons, hpq x (by simp)]
      cases hq : q x with
      | true => simp
      | false =>
        simp only [List.any_cons, hq, Bool.false_or] at h
        simp [ih (fun y hy => hpq y (by simp [hy])) h]
  · simp [h]
end
/-- the numbers of a list, each once, ascending -/
def hasI (l : List Int) (x : Int) : Bool := l.any fun y => decide (y = x)
def putI (l : List Int) (x : Int) : List Int := addP (hasI l x) (fun y => decide (x < y)) x l
def setI (l : List Int) : List Int := l.foldl putI []
theorem asc_ext : ∀ {a b : List Int}, a.Pairwise (· < ·) → b.Pairwise (· < ·) → (∀ x, x ∈ a ↔ x ∈ b) → a = b
  | [], [], _, _, _ => rfl
  | [], y :: b, _, _, h => by have := (h y).2 (by simp); simp at this
  | x :: a, [], _, _, h => by have := (h x).1 (by simp); simp at this
  | x :: a, y :: b, ha, hb, h => by
    rw [List.pairwise_cons] at ha hb
    have e : x = y := by
      have h1 := (h x).1 (by simp)
      have h2 := (h y).2 (by simp)
      simp only [List.mem_cons] at h1 h2
      rcases h1 with h1 | h1
      · exact h1
      · rcases h2 with h2 | h2
        · exact h2.symm
        · have := hb.1 x h1; have := ha.1 y h2; omega
    subst e
    rw [asc_ext ha.2 hb.2 fun z => ?_]
    have := h z
    simp only [List.mem_cons] at this
    constructor
    · intro hz
      rcases this.1 (.inr hz) with e | e
      · have := ha.1 z hz; omega
      · exact e
    · intro hz
      rcases this.2 (.inr hz) with e | e
      · have := hb.1 z hz; omega
      · exact e
theorem putI_spec {l : List Int} {x : Int} (h : l.Pairwise (· < ·)) : (putI l x).Pairwise (· < ·) ∧ ∀ y, y ∈ putI l x ↔ y ∈ l ∨ y = x := by
  have ins : ∀ {l : List Int}, l.Pairwise (· < ·) → x ∉ l → (if (l.any fun y => decide (x < y)) then insQ (fun y => decide (x < y)) x l else l ++ [x]).Pairwise (· < ·) ∧ ∀ y, y ∈ (if (l.any fun y => decide (x < y)) then insQ (fun y => decide (x < y)) x l else l ++ [x]) ↔ y ∈ l ∨ y = x := by
    intro l
    induction l with
    | nil => intro _ _; simp
    | cons z l ih =>
      intro h hx
      rw [List.pairwise_cons] at h
      simp only [List.mem_cons, not_or] at hx
      have ih' := ih h.2 hx.2
      by_cases hz : x < z
      · simp only [List.any_cons, hz, decide_true, Bool.true_or, if_true, insQ]
        refine ⟨?_, fun y => by simp only [List.mem_cons]; constructor <;> (intro h; rcases h with h | h | h) <;> simp [h]⟩
        rw [List.pairwise_cons, List.pairwise_cons]
        refine ⟨fun y hy => ?_, h⟩
        simp only [List.mem_cons] at hy
        rcases hy with rfl | hy
        · exact hz
        · have := h.1 y hy; omega
      · simp only [List.any_cons, hz, decide_false, Bool.false_or, insQ, Bool.false_eq_true, if_false]
        have e : (if (l.any fun y => decide (x < y)) then z :: insQ (fun y => decide (x < y)) x l else z :: l ++ [x]) = z :: (if (l.any fun y => decide (x < y)) then insQ (fun y => decide (x < y)) x l else l ++ [x]) := by split <;> simp
        rw [e]
        refine ⟨?_, fun y => by rw [List.mem_cons, ih'.2 y, List.mem_cons, or_assoc]⟩
        rw [List.pairwise_cons]
        refine ⟨fun y hy => ?_, ih'.1⟩
        rcases (ih'.2 y).1 hy with hy | rfl
        · exact h.1 y hy
        · omega
  unfold putI addP hasI
  by_cases hx : x ∈ l
  · have : (l.any fun y => decide (y = x)) = true := List.any_eq_true.2 ⟨x, hx, by simp⟩
    rw [if_pos this]
    exact ⟨h, fun y => ⟨.inl, fun e => by rcases e with e | rfl; exact e; exact hx⟩⟩
  · have : ¬ (l.any fun y => decide (y = x)) = true := fun e => by
      obtain ⟨y, hy, e⟩ := List.any_eq_true.1 e
      simp at e; subst e; exact hx hy
    rw [if_neg this]
    exact ins h hx
theorem setI_fold : ∀ {l s : List Int}, s.Pairwise (· < ·) → (l.foldl putI s).Pairwise (· < ·) ∧ ∀ y, y ∈ l.foldl putI s ↔ y ∈ s ∨ y ∈ l
  | [], s, h => ⟨h, by simp⟩
  | x :: l, s, h => by
    have h1 := putI_spec (x := x) h
    have h2 := setI_fold (l := l) h1.1
    refine ⟨h2.1, fun y => ?_⟩
    rw [List.foldl_cons, h2.2 y, h1.2 y, List.mem_cons, or_assoc]
theorem setI_asc {l : List Int} : (setI l).Pairwise (· < ·) := (setI_fold .nil).1
theorem setI_mem {l : List Int} {y : Int} : y ∈ setI l ↔ y ∈ l := by rw [setI, (setI_fold .nil).2 y]; simp
theorem setI_len {l : List Int} : (setI l).length ≤ l.length := by
  have : ∀ {l s : List Int}, (l.foldl putI s).length ≤ s.length + l.length := by
    intro l
    induction l with
    | nil => intro s; simp
    | cons x l ih => intro s; have := ih (s := putI s x); have h2 := addP_len (h := hasI s x) (p := fun y => decide (x < y)) (f := x) (l := s); simp only [List.foldl_cons, List.length_cons]; unfold putI at *; omega
  have h := this (l := l) (s := [])
  simpa [setI] using h
theorem compact_sorted {d : List Int} (hd : d.Pairwise (· ≤ ·)) : (Lib.compact d).Pairwise (· < ·) ∧ ∀ y, y ∈ Lib.compact d ↔ y ∈ d := by
  have hle : ∀ i j, (hij : i ≤ j) → (hj : j < d.length) → d[i]'(by omega) ≤ d[j]'hj := by
    intro i j hij hj
    rcases Nat.lt_or_eq_of_le hij with h | h
    · exact List.pairwise_iff_getElem.1 hd i j (by omega) hj h
    · subst h; exact Int.le_refl _
  have hget : ∀ i, (h : i < d.length) → d.toArray[i]! = d[i] := by intro i h; simp [h]
  have key : ∀ m, m ≤ d.length → (Lib.compactUpTo d.toArray m).Pairwise (· < ·) ∧ ∀ y, y ∈ Lib.compactUpTo d.toArray m ↔ y ∈ d.take m := by
    intro m
    induction m with
    | zero => intro _; simp [Lib.compactUpTo]
    | succ m ih =>
      intro hm
      obtain ⟨h1, h2⟩ := ih (by omega)
      have hmem : ∀ y, y ∈ d.take (m + 1) ↔ y ∈ d.take m ∨ y = d[m] := by
        intro y; rw [List.take_succ_eq_append_getElem (show m < d.length by omega), List.mem_append, List.mem_singleton]
      rw [Lib.compactUpTo_succ, hget m (by omega)]
      by_cases hk : Lib.keeps d.toArray m = true
      · rw [if_pos hk]
        refine ⟨List.pairwise_append.2 ⟨h1, by simp, fun a ha b hb => ?_⟩, fun y => by rw [List.mem_append, h2 y, hmem y]; simp⟩
        simp only [List.mem_singleton] at hb
        subst hb
        rw [h2 a, List.mem_take_iff_getElem] at ha
        obtain ⟨i, hi, rfl⟩ := ha
        have hi' : i < m := by omega
        have e1 := hle i (m - 1) (by omega) (by omega)
        have e2 := hle (m - 1) m (by omega) (by omega)
        have e3 : d[m - 1]'(by omega) ≠ d[m] := by
          intro e
          have := Lib.keeps_neg (d := d.toArray) (m := m) (by omega) (by rw [hget m (by omega), hget (m - 1) (by omega), e])
          rw [this] at hk; cases hk
        omega
      · rw [if_neg hk, List.append_nil]
        refine ⟨h1, fun y => ?_⟩
        rw [h2 y, hmem y]
        refine ⟨.inl, fun h => h.elim id ?_⟩
        rintro rfl
        have h0 : 0 < m := by
          rcases Nat.eq_zero_or_pos m with e | e
          · subst e; exact absurd (Lib.keeps_lt_one d.toArray 0 (by omega)) hk
          · exact e
        have e3 : d[m - 1]'(by omega) = d[m] := by
          refine Classical.byContradiction fun e => hk (Lib.keeps_pos ?_)
          rw [hget m (by omega), hget (m - 1) (by omega)]
          exact fun e' => e e'.symm
        rw [List.mem_take_iff_getElem]
        exact ⟨m - 1, by omega, e3⟩
  have := key d.length (Nat.le_refl _)
  simpa [Lib.compact] using this
/-- sorted, and of equal ones one kept: the set -/
theorem compact_sort {l : List Int} : Lib.compact (l.mergeSort fun x y => decide (x ≤ y)) = setI l := by
  have hs : (l.mergeSort fun x y => decide (x ≤ y)).Pairwise (· ≤ ·) := by
    have := List.pairwise_mergeSort (le := fun x y : Int => decide (x ≤ y)) (by intro a b c; simp only [decide_eq_true_eq]; omega) (by intro a b; simp only [Bool.or_eq_true, decide_eq_true_eq]; omega) l
    exact this.imp fun h => by simpa using h
  have h := compact_sorted hs
  refine asc_ext h.1 setI_asc fun x => ?_
  rw [h.2 x, setI_mem]
  exact (List.mergeSort_perm l _).mem_iff
end Go.Proofs.Ytnagfcajnbkdoaa
