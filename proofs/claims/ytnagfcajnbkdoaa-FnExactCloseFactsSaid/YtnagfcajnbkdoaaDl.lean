/- Plain definitions: adding facts, valid facts, what rules demand. No program in sight. -/
import Derived.Test.YtnagfcajnbkdoaaDj
namespace Go.Proofs.Ytnagfcajnbkdoaa
set_option linter.unusedVariables false
def ltF (a b : Int × List Int) : Bool := decide (cmpF a b < 0)
def addF (l : List (Int × List Int)) (f : Int × List Int) : List (Int × List Int) := addP (hasF l f) (ltF f) f l
theorem cmpI_neg {a b : Int} : cmpI a b = - cmpI b a := by unfold cmpI; grind
theorem cmpL_neg : ∀ {l m : List Int}, cmpL l m = - cmpL m l
  | [], [] => by simp [cmpL]
  | [], _ :: _ => by simp [cmpL]
  | _ :: _, [] => by simp [cmpL]
  | a :: l, b :: m => by
    have h1 := cmpI_neg (a := a) (b := b)
    have h2 := cmpL_neg (l := l) (m := m)
    unfold cmpL; grind
theorem cmpF_neg {a b : Int × List Int} : cmpF a b = - cmpF b a := by
  have h1 := cmpI_neg (a := a.1) (b := b.1)
  have h2 := cmpL_neg (l := a.2) (m := b.2)
  unfold cmpF; grind
theorem addF_has {l : List (Int × List Int)} {f : Int × List Int} (h : hasF l f = true) : addF l f = l := by simp [addF, addP, h]
theorem addF_ins {l : List (Int × List Int)} {f : Int × List Int} (h : hasF l f = false) : addF l f = l.take (if idxP (fun z => decide (0 < cmpF z f)) l < 0 then l.length else (idxP (fun z => decide (0 < cmpF z f)) l).toNat) ++ f :: l.drop (if idxP (fun z => decide (0 < cmpF z f)) l < 0 then l.length else (idxP (fun z => decide (0 < cmpF z f)) l).toNat) := by
  rw [addF, h]
  refine addP_ins fun y _ => ?_
  have := cmpF_neg (a := f) (b := y)
  rw [ltF, decide_eq_decide]; omega
theorem idx_range {α : Type} {p : α → Bool} {s : List α} : idxP p s ≤ s.length ∧ -1 ≤ idxP p s := by
  unfold idxP
  split
  · have := List.findIdx_le_length (p := p) (xs := s); omega
  · omega
/-- what AddFact has put together of the first elements -/
def addS {α : Type} (h : Bool) (p : α → Bool) (f : α) (l : List α) : List α := if h then l else insQ p f l
theorem addS_len {α : Type} {h : Bool} {p : α → Bool} {f : α} {l : List α} : (addS h p f l).length ≤ l.length + 1 := by
  have := insQ_len (p := p) (f := f) (l := l)
  unfold addS; split <;> omega
theorem addS_nil {α : Type} {h : Bool} {p : α → Bool} {f : α} : addS h p f [] = [] := by unfold addS; cases h <;> rfl
theorem addS_snoc {α : Type} {h : Bool} {p : α → Bool} {f : α} {l : List α} {y : α} : addS h p f (l ++ [y]) = if (h || l.any p) = true then addS h p f l ++ [y] else if p y = true then addS h p f l ++ [f, y] else addS h p f l ++ [y] := by
  unfold addS
  cases h
  · simp only [Bool.false_eq_true, if_false, Bool.false_or, insQ_snoc]
    cases ha : l.any p
    · simp [insQ_no ha]
    · simp
  · simp
theorem addP_addS {α : Type} {h : Bool} {p : α → Bool} {f : α} {l : List α} : addP h p f l = if (h || l.any p) = true then addS h p f l else addS h p f l ++ [f] := by
  unfold addS addP
  cases h
  · cases ha : l.any p
    · simp [insQ_no ha]
    · simp
  · simp
theorem any_take {α : Type} {p : α → Bool} {l : List α} {g : Nat} (h : g < l.length) : (l.take (g + 1)).any p = ((l.take g).any p || p l[g]) := by
  rw [List.take_succ_eq_append_getElem h, List.any_append]; simp
theorem ltF_eq {f : Int × List Int} {a : Int} {b : List Int} : ltF f (a, b) = decide (cmpF f (a, b) < 0) := rfl
/-- the facts from g on are valid, and ascending from the one ahead of g on -/
def okFs (s : List Int) (l : List (Int × List Int)) (g : Nat) : Bool := (l.drop g).all (okFact s) && chainB ltF (l.drop (g - 1))
def okFacts (s : List Int) (l : List (Int × List Int)) : Bool := okFs s l 0 && (okSchema s && decide ((l.length : Int) ≤ 24))
/-- a rule at a fact: what it demands, if that is not there -/
def miss2 (facts : List (Int × List Int)) (f : Int × List Int) (out : List (Int × List Int)) (r : Int × Int × List Int) : List (Int × List Int) :=
  if f.1 = r.1 then (if hasF facts (r.2.1, vals r.2.2 f.2) then out else addF out (r.2.1, vals r.2.2 f.2)) else out
def miss1 (l : List (Int × Int × List Int)) (facts : List (Int × List Int)) (out : List (Int × List Int)) (f : Int × List Int) : List (Int × List Int) := l.foldl (miss2 facts f) out
def missF (l : List (Int × Int × List Int)) (facts : List (Int × List Int)) : List (Int × List Int) := facts.foldl (miss1 l facts) []
theorem miss1_len {l : List (Int × Int × List Int)} {facts : List (Int × List Int)} {f : Int × List Int} {out : List (Int × List Int)} {h : Nat} : ((l.take h).foldl (miss2 facts f) out).length ≤ out.length + (l.take h).length := by
  generalize l.take h = m
  induction m generalizing out with
  | nil => simp
  | cons r m ih =>
    have h1 := ih (out := miss2 facts f out r)
    have h2 : (miss2 facts f out r).length ≤ out.length + 1 := by
      unfold miss2
      split
      · split
        · omega
        · exact addP_len
      · omega
    simp only [List.foldl_cons, List.length_cons]; omega
theorem miss_len {l : List (Int × Int × List Int)} {facts fs : List (Int × List Int)} : (fs.foldl (miss1 l facts) []).length ≤ fs.length * l.length := by
  have : ∀ {fs out : List (Int × List Int)}, (fs.foldl (miss1 l facts) out).length ≤ out.length + fs.length * l.length := by
    intro fs
    induction fs with
    | nil => intro out; simp
    | cons f fs ih =>
      intro out
      have h1 := ih (out := miss1 l facts out f)
      have h2 := miss1_len (l := l) (facts := facts) (f := f) (out := out) (h := l.length)
      rw [List.take_length] at h2
      unfold miss1 at h1 ⊢
      simp only [List.foldl_cons, List.length_cons, Nat.succ_mul]; omega
  have h := this (fs := fs) (out := [])
  simpa using h
theorem vals_le {m v : List Int} {n : Nat} (h : m.length ≤ n) : (vals m v).length ≤ n := by rw [vals_len]; exact h
theorem miss2_el {facts : List (Int × List Int)} {f : Int × List Int} {n : Nat} : ∀ {l : List (Int × Int × List Int)} {out : List (Int × List Int)}, (∀ r ∈ l, r.2.2.length ≤ n) → (∀ x ∈ out, x.2.length ≤ n) → ∀ x ∈ l.foldl (miss2 facts f) out, x.2.length ≤ n
  | [], out, _, h, x, hx => h x hx
  | r :: l, out, hr, h, x, hx => by
    refine miss2_el (l := l) (out := miss2 facts f out r) (fun r hr' => hr r (by simp [hr'])) (fun y hy => ?_) x hx
    unfold miss2 at hy
    split at hy
    · split at hy
      · exact h y hy
      · rcases addP_mem hy with hy | rfl
        · exact h y hy
        · exact vals_le (hr r (by simp))
    · exact h y hy
theorem miss1_el {l : List (Int × Int × List Int)} {facts : List (Int × List Int)} {n : Nat} (hr : ∀ r ∈ l, r.2.2.length ≤ n) : ∀ {fs out : List (Int × List Int)}, (∀ x ∈ out, x.2.length ≤ n) → ∀ x ∈ fs.foldl (miss1 l facts) out, x.2.length ≤ n
  | [], out, h, x, hx => h x hx
  | f :: fs, out, h, x, hx => miss1_el hr (fs := fs) (out := miss1 l facts out f) (miss2_el hr h) x hx
theorem miss_el {l : List (Int × Int × List Int)} {facts : List (Int × List Int)} {n g h : Nat} (hr : ∀ r ∈ l, r.2.2.length ≤ n) (hg : g < facts.length) : ∀ x ∈ (l.take h).foldl (miss2 facts facts[g]) ((facts.take g).foldl (miss1 l facts) []), x.2.length ≤ n :=
  miss2_el (fun r h' => hr r (List.mem_of_mem_take h')) (miss1_el hr (by simp))
theorem impV_le {b : Bool} {m v : List Int} {n : Nat} (h : m.length ≤ n) : (cond b (vals m v) []).length ≤ n := by
  cases b
  · exact Nat.zero_le _
  · exact vals_le h
end Go.Proofs.Ytnagfcajnbkdoaa
