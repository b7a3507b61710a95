/- Plain: the texts of numbers, terms, atoms, queries, unions and rules. No program in sight. -/
import Derived.Test.YtmogfmnamhhbnaaDoorBd
import Derived.Lib.Join
import Derived.Lib.ItoaNum
namespace Go.Proofs.YtmogfmnamhhbnaaDoor
set_option linter.unusedVariables false
set_option linter.unusedSimpArgs false
abbrev Str := List UInt8
/-- the digit of a number below ten -/
def dig (n : Int) : Str := [UInt8.ofNat (48 + n.toNat)]
/-- a digit more -/
def itS (p : Int × Str) : Int × Str := if p.1 = 0 then p else (p.1.tdiv 10, UInt8.ofNat (48 + (p.1.tmod 10).natAbs) :: p.2)
def itN (n : Int) : Nat → Int × Str
  | 0 => (n, [])
  | g + 1 => itS (itN n g)
def textI (n : Int) : Str := if n = 0 then [48] else if n < 0 then 45 :: (itN n 20).2 else (itN n 20).2
section
variable {n : Int} {g : Nat}
theorem itN_abs : ∀ {g : Nat}, (itN n g).1.natAbs * 10 ^ g ≤ n.natAbs
  | 0 => by simp [itN]
  | g + 1 => by
    have h := itN_abs (g := g)
    simp only [itN, itS]
    split
    · rename_i h0; rw [h0]; simp
    · have h1 : ((itN n g).1.tdiv 10).natAbs = (itN n g).1.natAbs / 10 := Int.natAbs_tdiv ..
      simp only [h1]
      have h2 : (itN n g).1.natAbs / 10 * 10 ≤ (itN n g).1.natAbs := Nat.div_mul_le_self _ _
      have h3 := Nat.mul_le_mul_right (10 ^ g) h2
      rw [Nat.mul_assoc, ← Nat.pow_succ'] at h3
      exact Nat.le_trans h3 h
theorem itN_lt (hn : I64 n) (h : (itN n g).1 ≠ 0) : g < 20 := by
  rcases Nat.lt_or_ge g 20 with h1 | h1
  · exact h1
  · have h2 := itN_abs (n := n) (g := g)
    have h3 : (10 : Nat) ^ 20 ≤ 10 ^ g := Nat.pow_le_pow_right (by decide) h1
    have h4 : 1 * 10 ^ g ≤ (itN n g).1.natAbs * 10 ^ g := Nat.mul_le_mul_right _ (by omega)
    have h5 : (10 : Nat) ^ 20 = 100000000000000000000 := by decide
    unfold I64 at hn; omega
theorem itN_stop (h : (itN n g).1 = 0) : ∀ k, itN n (g + k) = itN n g
  | 0 => rfl
  | k + 1 => by
    rw [← Nat.add_assoc]
    show itS (itN n (g + k)) = _
    rw [itN_stop h k, itS, if_pos h]
theorem itN_end (hg : g ≤ 20) (h : (itN n g).1 = 0) : (itN n g).2 = (itN n 20).2 := by
  have := itN_stop h (20 - g)
  rw [show g + (20 - g) = 20 by omega] at this
  rw [this]
theorem itN_I64 (hn : I64 n) : I64 (itN n g).1 := by
  have h2 := itN_abs (n := n) (g := g)
  have h3 : 1 ≤ 10 ^ g := Nat.pow_pos (by decide)
  have h4 := Nat.mul_le_mul_left (itN n g).1.natAbs h3
  rcases Nat.eq_zero_or_pos g with h5 | h5
  · subst h5; exact hn
  · have h6 : 10 ^ 1 ≤ 10 ^ g := Nat.pow_le_pow_right (by decide) h5
    have h7 := Nat.mul_le_mul_left (itN n g).1.natAbs h6
    unfold I64 at hn ⊢; omega
theorem itN_len : ∀ {g : Nat}, (itN n g).2.length ≤ g
  | 0 => by simp [itN]
  | g + 1 => by
    have h := itN_len (g := g)
    simp only [itN, itS]
    split
    · omega
    · simpa using h
theorem itN_step1 (h : (itN n g).1 ≠ 0) : (itN n g).1.tdiv 10 = (itN n (g + 1)).1 := by simp only [itN, itS, if_neg h]
theorem itN_step2 (h : (itN n g).1 ≠ 0) {d : Int} (hd : d = (itN n g).1.tmod 10 ∨ d = -(itN n g).1.tmod 10) (h0 : 0 ≤ d) : [UInt8.ofNat (48 + d).toNat] ++ (itN n g).2 = (itN n (g + 1)).2 := by
  simp only [itN, itS, if_neg h, List.singleton_append]
  have : (48 + d).toNat = 48 + ((itN n g).1.tmod 10).natAbs := by omega
  rw [this]
theorem textI_len : (textI n).length ≤ 21 := by
  have := itN_len (n := n) (g := 20)
  unfold textI
  split
  · simp
  · split
    · simp; omega
    · omega
theorem textI_zero : textI 0 = [48] := rfl
theorem textI_neg (h0 : n ≠ 0) (h : n < 0) : [45] ++ (itN n 20).2 = textI n := by rw [textI, if_neg h0, if_pos h]; rfl
theorem textI_pos (h0 : n ≠ 0) (h : ¬ n < 0) : (itN n 20).2 = textI n := by rw [textI, if_neg h0, if_neg h]
theorem textI_dig (h : 0 ≤ n ∧ n ≤ 9) : dig n = textI n := by
  have : n = 0 ∨ n = 1 ∨ n = 2 ∨ n = 3 ∨ n = 4 ∨ n = 5 ∨ n = 6 ∨ n = 7 ∨ n = 8 ∨ n = 9 := by omega
  rcases this with rfl | rfl | rfl | rfl | rfl | rfl | rfl | rfl | rfl | rfl <;> decide +kernel
end
theorem small_dig {i : Int} (h : 0 ≤ i ∧ i ≤ 9) : (List.drop i.toNat ([48, 49, 50, 51, 52, 53, 54, 55, 56, 57, 97, 98, 99, 100, 101, 102, 103, 104, 105, 106, 107, 108, 109, 110, 111, 112, 113, 114, 115, 116, 117, 118, 119, 120, 121, 122] : Str)).take ((i + 1).toNat - i.toNat) = textI i := by
  have : i = 0 ∨ i = 1 ∨ i = 2 ∨ i = 3 ∨ i = 4 ∨ i = 5 ∨ i = 6 ∨ i = 7 ∨ i = 8 ∨ i = 9 := by omega
  rcases this with rfl | rfl | rfl | rfl | rfl | rfl | rfl | rfl | rfl | rfl <;> decide +kernel
theorem tmod_ten {x : Int} : -9 ≤ x.tmod 10 ∧ x.tmod 10 ≤ 9 := by
  have h1 := Int.tmod_lt_of_pos x (show (0 : Int) < 10 by decide)
  have h2 := Int.lt_tmod_of_pos x (show (0 : Int) < 10 by decide)
  omega
-- joining
section
variable {α : Type} {xs : List Str} {x sep : Str} {K g : Nat} {l : List α} {f : α → Str}
theorem join_snoc : ∀ {xs : List Str}, Lib.join (xs ++ [x]) sep = if xs.length = 0 then x else Lib.join xs sep ++ sep ++ x
  | [] => by simp [Lib.join_one]
  | y :: r => by simp [Lib.join_cons, Lib.joinTail]
theorem join_zero : Lib.join ((l.take 0).map f) sep = [] := by simp [Lib.join_nil]
theorem join_step0 (h : g < l.length) (h0 : ¬ 0 < g) : Lib.join ((l.take g).map f) sep ++ f l[g] = Lib.join ((l.take (g + 1)).map f) sep := by
  have : g = 0 := by omega
  subst this
  rw [List.take_succ_eq_append_getElem h, List.map_append, List.map_singleton, join_snoc]; simp [Lib.join_nil]
theorem join_step1 (h : g < l.length) (h0 : 0 < g) : (Lib.join ((l.take g).map f) sep ++ sep) ++ f l[g] = Lib.join ((l.take (g + 1)).map f) sep := by
  rw [List.take_succ_eq_append_getElem h, List.map_append, List.map_singleton, join_snoc, if_neg (by rw [List.length_map, List.length_take]; omega)]
theorem join_stepP {P : Str} (h : g < l.length) (h0 : 0 < g) : ((P ++ Lib.join ((l.take g).map f) sep) ++ sep) ++ f l[g] = P ++ Lib.join ((l.take (g + 1)).map f) sep := by
  rw [← join_step1 h h0]; simp
theorem join_stepP0 {P : Str} (h : g < l.length) (h0 : ¬ 0 < g) : (P ++ Lib.join ((l.take g).map f) sep) ++ f l[g] = P ++ Lib.join ((l.take (g + 1)).map f) sep := by
  rw [← join_step0 h h0]; simp
theorem join_len : ∀ {xs : List Str}, (∀ x ∈ xs, x.length ≤ K) → (Lib.join xs sep).length ≤ xs.length * (K + sep.length)
  | [], _ => by simp [Lib.join_nil]
  | x :: r, h => by
    have h1 : ∀ {r : List Str}, (∀ x ∈ r, x.length ≤ K) → (Lib.joinTail sep r).length ≤ r.length * (K + sep.length) := by
      intro r
      induction r with
      | nil => simp [Lib.joinTail]
      | cons y r ih =>
        intro hr
        have h2 := ih fun z hz => hr z (by simp [hz])
        have h3 := hr y (by simp)
        simp only [Lib.joinTail, List.map_cons, List.flatten_cons, List.length_append, List.length_cons, Nat.succ_mul] at h2 ⊢
        omega
    have h4 := h1 (r := r) fun z hz => h z (by simp [hz])
    have h5 := h x (by simp)
    rw [Lib.join_cons, List.length_append, List.length_cons, Nat.succ_mul]; omega
theorem join_map_len {n : Nat} (hf : ∀ x, (f x).length ≤ K) (hn : l.length ≤ n) : (Lib.join (l.map f) sep).length ≤ n * (K + sep.length) := by
  have h1 := join_len (K := K) (sep := sep) (xs := l.map f) (fun x hx => by obtain ⟨y, _, rfl⟩ := List.mem_map.1 hx; exact hf y)
  rw [List.length_map] at h1
  exact Nat.le_trans h1 (Nat.mul_le_mul_right _ hn)
theorem join_take_len {n B : Nat} (hf : ∀ x, (f x).length ≤ K) (hn : l.length ≤ n) (hB : n * (K + sep.length) ≤ B) : (Lib.join ((l.take g).map f) sep).length ≤ B :=
  Nat.le_trans (join_map_len hf (show (l.take g).length ≤ n by rw [List.length_take]; omega)) hB
end
theorem okPos_all {l : List Int} (h : okPos l 3 = true) : ∀ x ∈ l, 0 ≤ x ∧ x ≤ 9 := by
  intro x hx
  simp only [okPos, Bool.not_eq_true', List.any_eq_false, Bool.not_eq_true] at h
  have := h x hx
  have h2 : inR x 0 2 = true := by simpa using this
  simp only [inR, decide_eq_true_eq] at h2; omega
theorem okPos_step {l : List Int} {g : Nat} (h : g < l.length) (h1 : inR l[g] 0 2 = true) : okPos (l.drop g) 3 = okPos (l.drop (g + 1)) 3 := by
  rw [List.drop_eq_getElem_cons h, okPos, okPos, List.any_cons, show (3 : Int) - 1 = 2 from rfl, h1]; rfl
theorem okPos_no {l : List Int} {g : Nat} (h : g < l.length) (h1 : inR l[g] 0 2 = false) : okPos (l.drop g) 3 = false := by
  rw [List.drop_eq_getElem_cons h, okPos, List.any_cons, show (3 : Int) - 1 = 2 from rfl, h1]; rfl
theorem okPos_end {l : List Int} {g : Nat} (h : ¬ g < l.length) : okPos (l.drop g) 3 = true := by
  rw [List.drop_eq_nil_of_le (by omega)]; rfl
-- terms, atoms, queries
def textT (t : Int) : Str := if inR t 10 17 then [120] ++ textI (t - 10) else textI t
def textA (a : Int × List Int) : Str := if inR a.1 0 2 && (inR (a.2.length : Int) 1 3 && !a.2.any fun t => !okTerm t) then [114] ++ textI a.1 ++ [40] ++ Lib.join (a.2.map textT) [44] ++ [41] else []
def noText (s : Str) : Bool := decide (s = [])
/-- one of them has no text -/
def nT {α : Type} (f : α → Str) (l : List α) : Bool := (l.map f).any noText
def headT (h : List Int) : Str := if 0 < h.length then Lib.join (h.map textT) [44] else [121, 101, 115]
def textQ (q : List Int × List (Int × List Int)) : Str :=
  if inR (q.2.length : Int) 1 4 && (!nT textA q.2 && okHead q) then headT q.1 ++ [32, 105, 102, 32] ++ Lib.join (q.2.map textA) [32, 97, 110, 100, 32] else []
def textU (u : List (List Int × List (Int × List Int))) : Str := if nT textQ u then [] else Lib.join (u.map textQ) [32, 111, 114, 32]
def unl : Str := [32, 117, 110, 108, 101, 115, 115, 32]
def textN (s : Str) (l : List (Int × List Int)) : Str := l.foldl (fun s a => s ++ unl ++ textA a) s
def textG (g : (List Int × List (Int × List Int)) × List (Int × List Int)) : Str := if noText (textQ g.1) || nT textA g.2 then [] else textN (textQ g.1) g.2
def textR (r : Int × Int × List Int) : Str :=
  if inR r.1 0 2 && (inR r.2.1 0 2 && (inR (r.2.2.length : Int) 1 3 && okPos r.2.2 3)) then [114] ++ textI r.1 ++ [32, 103, 105, 118, 101, 115, 32, 114] ++ textI r.2.1 ++ [32] ++ Lib.join (r.2.2.map textI) [44] else []
theorem textT_len {t : Int} : (textT t).length ≤ 22 := by
  unfold textT
  split
  · have := textI_len (n := t - 10); simp; omega
  · have := textI_len (n := t); omega
theorem textA_len {a : Int × List Int} : (textA a).length ≤ 100 := by
  unfold textA
  split
  · rename_i h
    simp only [Bool.and_eq_true, inR, decide_eq_true_eq] at h
    have h1 := textI_len (n := a.1)
    have h2 := join_map_len (f := textT) (K := 22) (l := a.2) (n := 3) (sep := [44]) (fun t => textT_len) (by omega)
    simp only [List.length_append, List.length_cons, List.length_nil] at h2 ⊢; omega
  · simp
theorem headT_len {h : List Int} (hl : h.length ≤ 3) : (headT h).length ≤ 69 := by
  unfold headT
  split
  · have h2 := join_map_len (f := textT) (K := 22) (l := h) (n := 3) (sep := [44]) (fun t => textT_len) hl
    simpa using h2
  · simp
theorem textQ_len {q : List Int × List (Int × List Int)} : (textQ q).length ≤ 500 := by
  unfold textQ
  split
  · rename_i h
    simp only [Bool.and_eq_true, inR, okHead, decide_eq_true_eq] at h
    have h1 := headT_len (h := q.1) (by omega)
    have h2 := join_map_len (f := textA) (K := 100) (l := q.2) (n := 4) (sep := [32, 97, 110, 100, 32]) (fun t => textA_len) (by omega)
    simp only [List.length_append, List.length_cons, List.length_nil] at h2 ⊢; omega
  · simp
theorem textN_len : ∀ {l : List (Int × List Int)} {s : Str}, (textN s l).length ≤ s.length + l.length * 108
  | [], _ => by simp [textN]
  | a :: l, s => by
    have h1 := textN_len (l := l) (s := s ++ unl ++ textA a)
    have h2 := textA_len (a := a)
    simp only [List.length_append, unl, List.length_cons, List.length_nil] at h1
    simp only [textN, List.foldl_cons, List.length_cons] at h1 ⊢
    simp only [unl] at h1 ⊢; omega
theorem textN_snoc {l : List (Int × List Int)} {s : Str} {g : Nat} (h : g < l.length) : textN s (l.take g) ++ unl ++ textA l[g] = textN s (l.take (g + 1)) := by
  rw [List.take_succ_eq_append_getElem h, textN, textN, List.foldl_append]; rfl
section
variable {α : Type} {f : α → Str} {l : List α} {i : Nat}
theorem nT_step (h : i < l.length) (h1 : ¬ f l[i] = []) : nT f (l.drop i) = nT f (l.drop (i + 1)) := by
  rw [List.drop_eq_getElem_cons h, nT, List.map_cons, List.any_cons, noText, decide_eq_false h1, Bool.false_or]; rfl
theorem nT_no (h : i < l.length) (h1 : f l[i] = []) : nT f (l.drop i) = true := by
  rw [List.drop_eq_getElem_cons h, nT, List.map_cons, List.any_cons, noText, decide_eq_true h1, Bool.true_or]
theorem nT_end (h : ¬ i < l.length) : nT f (l.drop i) = false := by
  rw [List.drop_eq_nil_of_le (by omega)]; rfl
theorem nT_any : ((l.map f).any fun z => decide (([] : Str) = z)) = nT f l := by
  rw [nT]; congr 1; funext z; simp [noText, eq_comm]
end
section
variable {l : List Int} {i : Nat}
theorem tm_step (h : i < l.length) (h1 : okTerm l[i] = true) : ((l.drop i).any fun t => !okTerm t) = ((l.drop (i + 1)).any fun t => !okTerm t) := by
  rw [List.drop_eq_getElem_cons h, List.any_cons, h1]; rfl
theorem tm_no (h : i < l.length) (h1 : okTerm l[i] = false) : ((l.drop i).any fun t => !okTerm t) = true := by
  rw [List.drop_eq_getElem_cons h, List.any_cons, h1]; rfl
theorem tm_end (h : ¬ i < l.length) : ((l.drop i).any fun t => !okTerm t) = false := by
  rw [List.drop_eq_nil_of_le (by omega)]; rfl
theorem tm_all (h : (!l.any fun t => !okTerm t) = true) : ∀ t ∈ l, okTerm t = true := by
  intro t ht
  simp only [Bool.not_eq_true', List.any_eq_false] at h
  simpa using h t ht
theorem okTerm_val {t : Int} (h : okTerm t = true) (h1 : inR t 10 17 = false) : 0 ≤ t ∧ t ≤ 9 := by
  rw [okTerm, h1, Bool.or_false, inR, decide_eq_true_eq] at h; exact h
end
section
variable {h : List Int} {a : List (Int × List Int)} {i : Nat}
abbrev badH (a : List (Int × List Int)) : Int → Bool := fun t => !hasI (termsF (fun t => inR t 10 17) a) t
theorem okHead_big (hb : (3 : Int) < h.length) : okHead (h, a) = false := by rw [okHead, decide_eq_false (by show ¬ (h.length : Int) ≤ 3; omega)]; rfl
theorem okHead_any (hb : h.any (badH a) = true) : okHead (h, a) = false := by rw [okHead]; show (_ && !h.any (badH a)) = false; rw [hb]; simp
theorem okHead_yes (h3 : ¬ (3 : Int) < h.length) (hb : h.any (badH a) = false) : okHead (h, a) = true := by rw [okHead, decide_eq_true (by show (h.length : Int) ≤ 3; omega)]; show (true && !h.any (badH a)) = true; rw [hb]; rfl
theorem badH_step (hi : i < h.length) (h1 : hasI (termsF (fun t => inR t 10 17) a) h[i] = true) : (h.drop i).any (badH a) = (h.drop (i + 1)).any (badH a) := by
  rw [List.drop_eq_getElem_cons hi, List.any_cons]; simp only [badH, h1]; rfl
theorem badH_no (hi : i < h.length) (h1 : hasI (termsF (fun t => inR t 10 17) a) h[i] = false) : (h.drop i).any (badH a) = true := by
  rw [List.drop_eq_getElem_cons hi, List.any_cons]; simp only [badH, h1]; rfl
theorem badH_end (hi : ¬ i < h.length) : (h.drop i).any (badH a) = false := by
  rw [List.drop_eq_nil_of_le (by omega)]; rfl
theorem okHead_h (ho : okHead (h, a) = true) : h.length ≤ 3 ∧ ∀ t ∈ h, okTerm t = true := by
  rw [okHead, Bool.and_eq_true, decide_eq_true_eq] at ho
  refine ⟨by have := ho.1; simp only at this; omega, fun t ht => ?_⟩
  have h2 := ho.2
  simp only [Bool.not_eq_true', List.any_eq_false] at h2
  have h3 : hasI (termsF (fun t => inR t 10 17) a) t = true := by simpa using h2 t ht
  rw [hasI_mem, termsF, setI_mem, List.mem_filter] at h3
  rw [okTerm, h3.2, Bool.or_true]
end
section
variable {q : List Int × List (Int × List Int)}
theorem textQ_no1 (h : inR (q.2.length : Int) 1 4 = false) : textQ q = [] := by simp [textQ, h]
theorem textQ_no2 (h : okHead q = false) : textQ q = [] := by simp [textQ, h]
theorem textQ_no3 (h : nT textA q.2 = true) : textQ q = [] := by simp [textQ, h]
theorem textQ_yes (h1 : inR (q.2.length : Int) 1 4 = true) (h2 : okHead q = true) (h3 : nT textA q.2 = false) : textQ q = headT q.1 ++ [32, 105, 102, 32] ++ Lib.join (q.2.map textA) [32, 97, 110, 100, 32] := by simp [textQ, h1, h2, h3]
theorem headT_yes {h : List Int} (h0 : 0 < h.length) : Lib.join (h.map textT) [44] = headT h := by rw [headT, if_pos h0]
theorem headT_no {h : List Int} (h0 : ¬ 0 < h.length) : [121, 101, 115] = headT h := by rw [headT, if_neg h0]
end
section
variable {u : List (List Int × List (Int × List Int))} {g : (List Int × List (Int × List Int)) × List (Int × List Int)} {s : Str} {l : List (Int × List Int)} {r : Nat}
theorem textU_no (h : nT textQ u = true) : textU u = [] := by rw [textU, if_pos h]
theorem textU_yes (h : nT textQ u = false) : textU u = Lib.join (u.map textQ) [32, 111, 114, 32] := by rw [textU, h]; rfl
theorem textN_pre : ∀ {l : List (Int × List Int)} {s : Str}, ∃ t, textN s l = s ++ t
  | [], s => ⟨[], by simp [textN]⟩
  | a :: l, s => by
    obtain ⟨t, h⟩ := textN_pre (l := l) (s := s ++ unl ++ textA a)
    exact ⟨unl ++ textA a ++ t, by rw [textN, List.foldl_cons]; show textN (s ++ unl ++ textA a) l = _; rw [h]; simp⟩
theorem textN_nil (h : textN s l = []) : s = [] := by
  obtain ⟨t, e⟩ := textN_pre (l := l) (s := s)
  rw [e] at h; exact (List.append_eq_nil_iff.1 h).1
theorem textN_ne0 (h1 : r = 0 ∨ ¬ s = []) (h : ¬ textN s (l.take r) = []) : ¬ s = [] := by
  rcases h1 with rfl | h1
  · exact h
  · exact h1
theorem textG_no (h : nT textA g.2 = true) : textG g = [] := by simp [textG, h]
theorem textG_nil (h : textQ g.1 = []) : textG g = [] := by simp [textG, noText, h]
theorem textG_yes (h : ¬ textQ g.1 = []) (h2 : nT textA g.2 = false) : textG g = textN (textQ g.1) g.2 := by simp [textG, noText, h, h2]
theorem textG_end (h : ¬ r < g.2.length) (h1 : r = 0 ∨ ¬ textQ g.1 = []) (h2 : nT textA g.2 = nT textA (g.2.drop r)) : textG g = textN (textQ g.1) (g.2.take r) := by
  rw [nT_end h] at h2
  by_cases hq : textQ g.1 = []
  · rcases h1 with rfl | h1
    · rw [textG_nil hq, hq]; rfl
    · exact absurd hq h1
  · rw [textG_yes hq h2, List.take_of_length_le (by omega)]
end
-- every number
theorem itN_digits {n : Int} : ∀ {k g : Nat}, (itN n g).1.natAbs < 10 ^ k → (itN n (g + k)).2 = (if (itN n g).1 = 0 then [] else Lib.decDigits (itN n g).1.natAbs) ++ (itN n g).2
  | 0, g, h => by
    have h0 : (itN n g).1 = 0 := by simp at h; omega
    rw [if_pos h0]; rfl
  | k + 1, g, h => by
    by_cases h0 : (itN n g).1 = 0
    · rw [itN_stop h0, if_pos h0]; rfl
    · have e1 : (itN n (g + 1)).1 = (itN n g).1.tdiv 10 := (itN_step1 h0).symm
      have e2 : (itN n (g + 1)).2 = UInt8.ofNat (48 + ((itN n g).1.tmod 10).natAbs) :: (itN n g).2 := by simp only [itN, itS, if_neg h0]
      have e3 : (itN n (g + 1)).1.natAbs = (itN n g).1.natAbs / 10 := by rw [e1]; exact Int.natAbs_tdiv ..
      have e4 : ((itN n g).1.tmod 10).natAbs = (itN n g).1.natAbs % 10 := Int.natAbs_tmod ..
      have h1 : (itN n (g + 1)).1.natAbs < 10 ^ k := by
        rw [e3, Nat.div_lt_iff_lt_mul (by decide), ← Nat.pow_succ]; exact h
      have ih := itN_digits (k := k) (g := g + 1) h1
      rw [show g + (k + 1) = g + 1 + k by omega, ih, e2, e3, e4, if_neg h0]
      have hz : ((itN n (g + 1)).1 = 0) ↔ (itN n g).1.natAbs / 10 = 0 := by rw [← e3]; omega
      by_cases h2 : (itN n g).1.natAbs < 10
      · rw [if_pos (hz.2 (by omega)), show Lib.decDigits (itN n g).1.natAbs = [UInt8.ofNat (48 + (itN n g).1.natAbs)] from by rw [Lib.decDigits, dif_pos h2], Nat.mod_eq_of_lt h2]; rfl
      · rw [if_neg (fun e => by have := hz.1 e; omega), show Lib.decDigits (itN n g).1.natAbs = Lib.decDigits ((itN n g).1.natAbs / 10) ++ [UInt8.ofNat (48 + (itN n g).1.natAbs % 10)] from by rw [Lib.decDigits, dif_neg h2]]; simp
theorem textI_itoa {n : Int} (hn : I64 n) : Lib.itoa n = textI n := by
  have h1 := itN_digits (n := n) (k := 20) (g := 0) (by show n.natAbs < 10 ^ 20; have h5 : (10 : Nat) ^ 20 = 100000000000000000000 := by decide
                                                        unfold I64 at hn; omega)
  rw [Nat.zero_add, show itN n 0 = (n, []) from rfl, List.append_nil] at h1
  unfold textI Lib.itoa
  by_cases h0 : n = 0
  · subst h0; rw [if_pos rfl, if_neg (by omega), show Lib.decDigits (Int.toNat 0) = [UInt8.ofNat (48 + 0)] from by rw [Lib.decDigits, dif_pos (by decide)]; rfl]; rfl
  · rw [if_neg h0, h1, if_neg h0]
    by_cases h2 : n < 0
    · rw [if_pos h2, if_pos h2]
    · rw [if_neg h2, if_neg h2, show n.toNat = n.natAbs by omega]
-- lines and proofs
def textF (f : Int × List Int) : Str := if inR f.1 0 2 && (inR (f.2.length : Int) 1 3 && okVals f.2) then [114] ++ textI f.1 ++ [40] ++ Lib.join (f.2.map textI) [44] ++ [41] else []
def textC (a : Int × List Int) : Str := if inR a.1 0 4 && (!decide ((3 : Int) < a.2.length) && okVals a.2) then [109] ++ textI a.1 ++ [40] ++ Lib.join (a.2.map textI) [44] ++ [41] else []
def textL (x : Int × (Int × List Int) × Int × List Int) : Str := textF x.2.2 ++ [32, 98, 121, 32] ++ (if x.1 = -1 then textC x.2.1 else [114, 117, 108, 101, 32] ++ textI x.1)
def textP (l : List (Int × (Int × List Int) × Int × List Int)) : Str := if l.length = 0 then [110, 111, 110, 101] else Lib.join (l.map textL) [59, 32]
theorem textF_len {f : Int × List Int} : (textF f).length ≤ 100 := by
  unfold textF
  split
  · rename_i h
    simp only [Bool.and_eq_true, inR, decide_eq_true_eq] at h
    have h1 := textI_len (n := f.1)
    have h2 := join_map_len (f := textI) (K := 21) (l := f.2) (n := 3) (sep := [44]) (fun t => textI_len) (by omega)
    simp only [List.length_append, List.length_cons, List.length_nil] at h2 ⊢; omega
  · simp
theorem textC_len {a : Int × List Int} : (textC a).length ≤ 100 := by
  unfold textC
  split
  · rename_i h
    simp only [Bool.and_eq_true, inR, decide_eq_true_eq, Bool.not_eq_true', decide_eq_false_iff_not] at h
    have h1 := textI_len (n := a.1)
    have h2 := join_map_len (f := textI) (K := 21) (l := a.2) (n := 3) (sep := [44]) (fun t => textI_len) (by omega)
    simp only [List.length_append, List.length_cons, List.length_nil] at h2 ⊢; omega
  · simp
theorem textL_len {x : Int × (Int × List Int) × Int × List Int} : (textL x).length ≤ 300 := by
  have h1 := textF_len (f := x.2.2)
  have h2 := textC_len (a := x.2.1)
  have h3 := textI_len (n := x.1)
  unfold textL
  split <;> simp only [List.length_append, List.length_cons, List.length_nil] <;> omega
theorem textL_ne {x : Int × (Int × List Int) × Int × List Int} : ¬ textL x = [] := by
  unfold textL; simp
theorem okVals_all {l : List Int} (h : okVals l = true) : ∀ x ∈ l, 0 ≤ x ∧ x ≤ 9 := by
  intro x hx
  simp only [okVals, Bool.not_eq_true', List.any_eq_false, Bool.not_eq_true] at h
  have h2 : inR x 0 9 = true := by simpa using h x hx
  simp only [inR, decide_eq_true_eq] at h2; omega
theorem okVals_step {l : List Int} {g : Nat} (h : g < l.length) (h1 : inR l[g] 0 9 = true) : okVals (l.drop g) = okVals (l.drop (g + 1)) := by
  rw [List.drop_eq_getElem_cons h, okVals, okVals, List.any_cons, h1]; rfl
theorem okVals_no {l : List Int} {g : Nat} (h : g < l.length) (h1 : inR l[g] 0 9 = false) : okVals (l.drop g) = false := by
  rw [List.drop_eq_getElem_cons h, okVals, List.any_cons, h1]; rfl
theorem okVals_end {l : List Int} {g : Nat} (h : ¬ g < l.length) : okVals (l.drop g) = true := by
  rw [List.drop_eq_nil_of_le (by omega)]; rfl
section
variable {l : List (Int × (Int × List Int) × Int × List Int)} {g : Nat}
theorem textP_none (h : (l.length : Int) = 0) : [110, 111, 110, 101] = textP l := by rw [textP, if_pos (by omega)]
theorem textP_some (h : ¬ (l.length : Int) = 0) : textP l = Lib.join (l.map textL) [59, 32] := by rw [textP, if_neg (by omega)]
theorem textP_nil (h : Lib.join (l.map textL) [59, 32] = []) : [110, 111, 110, 101] = textP l := by
  cases l with
  | nil => rfl
  | cons x r =>
    rw [List.map_cons, Lib.join_cons] at h
    exact absurd (List.append_eq_nil_iff.1 h).1 textL_ne
theorem textP_ok (h : ¬ Lib.join (l.map textL) [59, 32] = []) : Lib.join (l.map textL) [59, 32] = textP l := by
  rw [textP, if_neg (fun e => h (by rw [List.eq_nil_of_length_eq_zero e]; rfl))]
theorem pl_step1 (h : g < l.length) (h0 : 0 < g) {t : Str} (ht : t = (if l[g].1 = -1 then textC l[g].2.1 else [114, 117, 108, 101, 32] ++ textI l[g].1)) : ((Lib.join ((l.take g).map textL) [59, 32] ++ [59, 32]) ++ textF l[g].2.2 ++ [32, 98, 121, 32]) ++ t = Lib.join ((l.take (g + 1)).map textL) [59, 32] := by
  rw [← join_step1 h h0, ht]; simp [textL]
theorem pl_step0 (h : g < l.length) (h0 : ¬ 0 < g) {t : Str} (ht : t = (if l[g].1 = -1 then textC l[g].2.1 else [114, 117, 108, 101, 32] ++ textI l[g].1)) : (Lib.join ((l.take g).map textL) [59, 32] ++ textF l[g].2.2 ++ [32, 98, 121, 32]) ++ t = Lib.join ((l.take (g + 1)).map textL) [59, 32] := by
  rw [← join_step0 h h0, ht]; simp [textL]
end
end Go.Proofs.YtmogfmnamhhbnaaDoor
