import Derived.Test.YtdopeopehgdccaaGreatBd
section
namespace Go.Proofs.YtdopeopehgdccaaGreat
set_option linter.unusedVariables false
set_option linter.unusedSimpArgs false
theorem Ro.i64B {w : World} {L : List Nat} {e : TypeId} {a : Option Addr} {m c : Nat} {xs : List (List Int × List Int)} (h : Ro w L (Enc.sl e (Enc.pair (Enc.sl tI Enc.int) (Enc.sl tI Enc.int))) [.slice a m c] xs) : ∀ x ∈ xs, (∀ y ∈ x.1, I64 y) ∧ ∀ y ∈ x.2, I64 y := by
  intro x hx
  obtain ⟨i, hi, rfl⟩ := List.getElem_of_mem hx
  obtain ⟨_, _, ci, _, h1, _⟩ := h.elem i hi
  obtain ⟨c1, c2, rfl, h2, h3⟩ := h1.pair
  obtain ⟨a', c', rfl⟩ := h3.sl
  obtain ⟨a2, c2', rfl⟩ := h2.sl
  exact ⟨h2.i64, h3.i64⟩
def b6v (s : List Int) (d8 : List (Int × List Int)) (out : List (List Int)) (q : List Int × List (Int × List Int)) : List (List Int) := (b5j s q d8).foldl K3 out
def b7t (s : List Int) (u : List (List Int × List (Int × List Int))) (d8 : List (Int × List Int)) : List (List Int) := if b4w s u then u.foldl (b6v s d8) [] else []
/- frozen queries -/
theorem b0m {d7 : List (Int × List Int)} : (f5 (fun t => inR t 10 17) d7).length ≤ 8 := by
  have h1 : (f5 (fun t => inR t 10 17) d7).Pairwise (· < ·) := (a2i List.Pairwise.nil).1
  have h2 : ((f5 (fun t => inR t 10 17) d7).map fun x => (x - 10).toNat).Nodup := by
    unfold List.Nodup
    rw [List.pairwise_map]
    refine List.Pairwise.imp_of_mem (fun {a b} ha hb hab e => ?_) h1
    have ra := a7H a ha
    have rb := a7H b hb
    omega
  have h3 := a1Y (n := 8) h2 fun x hx => by
    obtain ⟨y, hy, rfl⟩ := List.mem_map.1 hx
    have := a7H y hy
    omega
  simpa using h3
theorem b3G {u : List Int} {n : Nat} (h : ∀ i, i < n → I0 u (fzN u i) ≤ 9) : ∀ x ∈ C2 u n, I64 x := by
  intro x hx
  simp only [C2, List.mem_map, List.mem_range] at hx
  obtain ⟨i, hi, rfl⟩ := hx
  have := h i hi
  unfold I64; constructor <;> omega
end Go.Proofs.YtdopeopehgdccaaGreat
end
section
namespace Go.Proofs.YtdopeopehgdccaaGreat
set_option linter.unusedVariables false
set_option linter.unusedSimpArgs false
def a1M (v : List Int) (p : Int × Int) : Bool := decide (at0 v p.1 = p.2)
/-- the fact is of the method's relation and has the values at its inputs -/
def N8 (m : Int × List Int × Int × Int × Int) (v : List Int) (f : Int × List Int) : Bool := decide (f.1 = m.1) && (m.2.1.zip v).all (a1M f.2)
theorem Y6 {a b : List Int} {p : Int × Int → Bool} {g : Nat} (h : g < a.length) (h2 : g < b.length) : ((a.zip b).drop g).all p = (p (a[g], b[g]) && ((a.zip b).drop (g + 1)).all p) := by
  rw [List.drop_eq_getElem_cons (by simp; omega)]
  simp
theorem a1L {a b : List Int} {p : Int × Int → Bool} {g : Nat} (h : a.length ≤ g) : ((a.zip b).drop g).all p = true := by
  rw [List.drop_eq_nil_of_le (by simp; omega)]; rfl
theorem b2M {α : Type} {s : List α} {p : α → Bool} : s.filter (fun x => !!p x) = s.filter p := by
  congr 1; funext x; cases p x <;> rfl
theorem b0T {s : List Int} {m : Int × List Int × Int × Int × Int} {f : Int × List Int} (h1 : J9 s m = true) (h2 : H2 s f = true) (e : f.1 = m.1) : ∀ i ∈ m.2.1, 0 ≤ i ∧ i < f.2.length := by
  simp only [J9, W1, H2, R7, Bool.and_eq_true, decide_eq_true_eq, Bool.not_eq_true', List.any_eq_false] at h1 h2
  intro i hi
  have h3 := h1.2.2.1 i hi
  have h4 := h2.2.1
  rw [e] at h4
  simp only [inR, Bool.not_eq_true, Bool.and_eq_false_imp, Bool.and_eq_true, decide_eq_true_eq, decide_eq_false_iff_not] at h3
  omega
end Go.Proofs.YtdopeopehgdccaaGreat
end
section
namespace Go.Proofs.YtdopeopehgdccaaGreat
set_option linter.unusedVariables false
set_option linter.unusedSimpArgs false
abbrev Mth := Int × List Int × Int × Int × Int
abbrev Fct := Int × List Int
abbrev Lin := Int × (Int × List Int) × Int × List Int
abbrev Rul := Int × Int × List Int
def atM (l : List Mth) (i : Int) : Mth := l.getD i.toNat (0, [], 0, 0, 0)
theorem M5 {l : List Mth} {i : Int} (h : i.toNat < l.length) : atM l i = l[i.toNat] := by simp [atM, List.getD, h]
def atR (l : List Rul) (i : Int) : Rul := l.getD i.toNat (0, 0, [])
theorem S5 {n a b : Int} (h : inR n a b = true) : a ≤ n ∧ n ≤ b := of_decide_eq_true h
def K8 (s : List Int) (l : List Mth) (a : Int × List Int) : Bool := B3 s l && (inR a.1 0 ((l.length : Int) - 1) && (decide (a.2.length = (atM l a.1).2.1.length) && M6 a.2))
theorem V2 {s : List Int} {l : List Mth} {a : Int × List Int} (h : K8 s l a = true) : B3 s l = true ∧ (0 ≤ a.1 ∧ a.1.toNat < l.length) ∧ a.2.length = (atM l a.1).2.1.length ∧ M6 a.2 = true := by
  simp only [K8, Bool.and_eq_true, decide_eq_true_eq] at h
  have h1 := S5 h.2.1
  exact ⟨h.1, ⟨by omega, by omega⟩, h.2.2.1, h.2.2.2⟩
theorem a5O {s : List Int} {l : List Mth} (h : B3 s l = true) : ∀ m ∈ l, J9 s m = true := by
  simp only [B3, Bool.and_eq_true, Bool.not_eq_true', List.any_eq_false, decide_eq_true_eq] at h
  intro m hm
  have := h.2.2 m hm
  simpa using this
theorem b2G {s : List Int} {l : List Mth} {a : Int × List Int} (h : K8 s l a = true) : J9 s (atM l a.1) = true := by
  obtain ⟨h1, h2, _⟩ := V2 h
  rw [M5 h2.2]
  exact a5O h1 _ (List.getElem_mem _)
theorem b2i {s : List Int} {l : List Mth} {a : Int × List Int} {d8 : List Fct} (h : K8 s l a = true) (hf : B7 s d8 = true) : ∀ f ∈ d8, f.1 = (atM l a.1).1 → ∀ i ∈ (atM l a.1).2.1, 0 ≤ i ∧ i < f.2.length :=
  fun f hm e => b0T (b2G h) ((J1 hf).2 f hm) e
def b6F (r : Rul) (f x : Fct) : Bool := decide (x.1 = r.1) && decide (I9 (r.2.1, vals r.2.2 x.2) f = 0)
def b5v (d8 : List Fct) (f : Fct) (r : Rul) : Bool := d8.any (b6F r f)
def b7f (X8 : List Rul) (d8 : List Fct) (f : Fct) : Int := E8 (b5v d8 f) X8
def b5i (N4 : List Int) (before : List Lin) (v : Int) : Bool := B9 N4 v || before.any (fun y => B9 y.2.2.2 v)
def b6I (s : List Int) (r : Rul) (x y : Fct) : Bool := b3p s r y && decide (I9 (b6y s r y, b6x s r y) x = 0)
def b5B (s : List Int) (l : List Mth) (d8 : List Fct) (kn : Int → Bool) (x : Lin) : Bool :=
  K8 s l x.2.1 && (decide ((atM l x.2.1.1).2.2.1 = 0) && ((!x.2.1.2.any (fun v => !kn v)) && G6 (d8.filter (N8 (atM l x.2.1.1) x.2.1.2)) x.2.2))
def b5A (s : List Int) (X8 : List Rul) (gv : Bool) (x : Lin) : Bool := inR x.1 0 ((X8.length : Int) - 1) && (H2 s x.2.2 && gv)
def b4X (s : List Int) (l : List Mth) (X8 : List Rul) (d8 : List Fct) (N4 : List Int) (before : List Lin) (x : Lin) : Bool :=
  if x.1 = -1 then b5B s l d8 (b5i N4 before) x else b5A s X8 (before.any fun y => b6I s (atR X8 x.1) x.2.2 y.2.2) x
def b2T : Lin := (0, (0, []), 0, [])
/-- all lines from g on hold behind those ahead of them -/
def b5C (s : List Int) (l : List Mth) (X8 : List Rul) (d8 : List Fct) (N4 : List Int) (lines : List Lin) (g : Nat) : Bool :=
  ((List.range lines.length).drop g).all fun i => b4X s l X8 d8 N4 (lines.take i) (lines.getD i b2T)
def b6d (lines : List Lin) (f : Fct) : Bool := decide (I9 (lines.getD (lines.length - 1) b2T).2.2 f = 0)
def b6V (s : List Int) (l : List Mth) (X8 : List Rul) (d8 : List Fct) (N4 : List Int) (f : Fct) (lines : List Lin) : Bool :=
  (B3 s l && a5s s X8) && (B7 s d8 && (decide (0 < lines.length) && (b6d lines f && b5C s l X8 d8 N4 lines 0)))
-- the other one's way
def b6b (lines : List Lin) (g : Nat) : List Fct := ((lines.take g).map fun x => x.2.2).foldl x6 []
def b5X (N4 : List Int) (lines : List Lin) (g : Nat) : List Int := (lines.take g).foldl (fun v x => x.2.2.2.foldl F2 v) (G9 (N4.filter fun t => inR t 0 9))
def b5U (s : List Int) (l : List Mth) (X8 : List Rul) (d8 : List Fct) (F : List Fct) (V : List Int) (x : Lin) : Bool :=
  if x.1 = -1 then b5B s l d8 (B9 V) x else b5A s X8 (b5v F x.2.2 (atR X8 x.1)) x
def b7j (s : List Int) (l : List Mth) (X8 : List Rul) (d8 : List Fct) (N4 : List Int) (lines : List Lin) (g : Nat) : Bool :=
  ((List.range lines.length).drop g).all fun i => b5U s l X8 d8 (b6b lines i) (b5X N4 lines i) (lines.getD i b2T)
theorem a2S {x : List Fct} : ∀ {v : List Fct} (y : Fct), y ∈ x.foldl x6 v ↔ y ∈ v ∨ y ∈ x := by
  induction x with
  | nil => intro v y; simp
  | cons a x ih =>
    intro v y
    rw [List.foldl_cons, ih, List.mem_cons]
    have : y ∈ x6 v a ↔ y ∈ v ∨ y = a := by
      refine ⟨fun h => a3N h, ?_⟩
      rintro (h | rfl)
      · exact b0l h
      · cases hh : G6 v y
        · exact b2y hh
        · exact b0l (b0I.1 hh)
    rw [this, or_assoc]
-- sizes
abbrev b7n : Lin → Nat := fun x => x.2.1.2.length + x.2.2.2.length
end Go.Proofs.YtdopeopehgdccaaGreat
end
