import Derived.Test.YtdopeopehgdccaaGreatBd
section
namespace Go.Proofs.YtdopeopehgdccaaGreat
set_option linter.unusedVariables false
set_option linter.unusedSimpArgs false
theorem b4t {w : World} {L : List Nat} {e : TypeId} {a : Option Addr} {m c : Nat} {xs : List (List Int × List Int)} (h : Ro w L (Enc.sl e (Enc.pair (Enc.sl tI Enc.int) (Enc.sl tI Enc.int))) [.slice a m c] xs) : ∀ x ∈ xs, (∀ y ∈ x.1, I64 y) ∧ ∀ y ∈ x.2, I64 y := by
 intro x hx
 obtain ⟨i, hi, rfl⟩ := List.getElem_of_mem hx
 obtain ⟨_, _, ci, _, h1, _⟩ := h.elem i hi
 obtain ⟨c1, c2, rfl, h2, h3⟩ := h1.pair
 obtain ⟨a', c', rfl⟩ := h3.sl
 obtain ⟨a2, c2', rfl⟩ := h2.sl
 exact ⟨h2.i64, h3.i64⟩
def c0j (s : List Int) (d8 : List (Int × List Int)) (out : List (List Int)) (q : List Int × List (Int × List Int)) : List (List Int) := (b8o s q d8).foldl S5 out
def c1D (s : List Int) (u : List (List Int × List (Int × List Int))) (d8 : List (Int × List Int)) : List (List Int) := if b7l s u then u.foldl (c0j s d8) [] else []
end Go.Proofs.YtdopeopehgdccaaGreat
end
section
namespace Go.Proofs.YtdopeopehgdccaaGreat
set_option linter.unusedVariables false
set_option linter.unusedSimpArgs false
def b8n (h head : List Int) (b : List Int × List Int) : Bool := decide (h.map (F3 b) = head)
def c1r (l : List (List Int × List Int)) (h head : List Int) : List Int × List Int := (l.find? (b8n h head)).getD ([], [])
def xF (p q : List (Int × List Int)) : List (Int × List Int) := p ++ (B5 (fun t => inR t 0 9) q).map fun c => ((3 : Int), [c])
def c0k (p q : List Int × List (Int × List Int)) : Bool :=
 decide (p.1.length = q.1.length) && (fzB [B5 (fun t => inR t 0 9) p.2, B5 (fun t => inR t 0 9) q.2].flatten p.2 &&
  (I0 q.2 (fzF [B5 (fun t => inR t 0 9) p.2, B5 (fun t => inR t 0 9) q.2].flatten p.2)).any (b8n q.1 (p.1.map (F3 (fzV [B5 (fun t => inR t 0 9) p.2, B5 (fun t => inR t 0 9) q.2].flatten p.2, fzX [B5 (fun t => inR t 0 9) p.2, B5 (fun t => inR t 0 9) q.2].flatten p.2)))))
def c1y (s : List Int) (p q : List Int × List (Int × List Int)) : Bool := I4 s p && (I4 s q && c0k p q)
def c1N (l : List (List Int)) : Nat := (l.map List.length).sum
end Go.Proofs.YtdopeopehgdccaaGreat
end
section
namespace Go.Proofs.YtdopeopehgdccaaGreat
set_option linter.unusedVariables false
set_option linter.unusedSimpArgs false
def a3S (v : List Int) (p : Int × Int) : Bool := decide (at0 v p.1 = p.2)
def T0 (m : Int × List Int × Int × Int × Int) (v : List Int) (f : Int × List Int) : Bool := decide (f.1 = m.1) && (m.2.1.zip v).all (a3S f.2)
theorem a1R {a b : List Int} {p : Int × Int → Bool} {g : Nat} (h : g < a.length) (h2 : g < b.length) : ((a.zip b).drop g).all p = (p (a[g], b[g]) && ((a.zip b).drop (g + 1)).all p) := by
 rw [List.drop_eq_getElem_cons (by simp; omega)]
 simp
theorem a3R {a b : List Int} {p : Int × Int → Bool} {g : Nat} (h : a.length ≤ g) : ((a.zip b).drop g).all p = true := by
 rw [List.drop_eq_nil_of_le (by simp; omega)]; rfl
theorem b5D {α : Type} {s : List α} {p : α → Bool} : s.filter (fun x => !!p x) = s.filter p := by
 congr 1; funext x; cases p x <;> rfl
theorem b3B {s : List Int} {m : Int × List Int × Int × Int × Int} {f : Int × List Int} (h1 : S3 s m = true) (h2 : J2 s f = true) (e : f.1 = m.1) : ∀ i ∈ m.2.1, 0 ≤ i ∧ i < f.2.length := by
 simp only [S3, a1j, J2, a0l, Bool.and_eq_true, decide_eq_true_eq, Bool.not_eq_true', List.any_eq_false] at h1 h2
 intro i hi
 have h3 := h1.2.2.1 i hi
 have h4 := h2.2.1
 rw [e] at h4
 simp only [inR, Bool.not_eq_true, Bool.and_eq_false_imp, Bool.and_eq_true, decide_eq_true_eq, decide_eq_false_iff_not] at h3
 omega
end Go.Proofs.YtdopeopehgdccaaGreat
end
section
namespace Go.Proofs.YtdopeopehgdccaaGreat
set_option linter.unusedVariables false
set_option linter.unusedSimpArgs false
abbrev Mth := Int × List Int × Int × Int × Int
abbrev Fct := Int × List Int
abbrev Lin := Int × (Int × List Int) × Int × List Int
abbrev Rul := Int × Int × List Int
def atM (l : List Mth) (i : Int) : Mth := l.getD i.toNat (0, [], 0, 0, 0)
theorem P3 {l : List Mth} {i : Int} (h : i.toNat < l.length) : atM l i = l[i.toNat] := by simp [atM, List.getD, h]
def atR (l : List Rul) (i : Int) : Rul := l.getD i.toNat (0, 0, [])
theorem W2 {n a b : Int} (h : inR n a b = true) : a ≤ n ∧ n ≤ b := of_decide_eq_true h
def Q0 (s : List Int) (l : List Mth) (a : Int × List Int) : Bool := G9 s l && (inR a.1 0 ((l.length : Int) - 1) && (decide (a.2.length = (atM l a.1).2.1.length) && U5 a.2))
theorem R0 {s : List Int} {l : List Mth} {a : Int × List Int} (h : Q0 s l a = true) : G9 s l = true ∧ (0 ≤ a.1 ∧ a.1.toNat < l.length) ∧ a.2.length = (atM l a.1).2.1.length ∧ U5 a.2 = true := by
 simp only [Q0, Bool.and_eq_true, decide_eq_true_eq] at h
 have h1 := W2 h.2.1
 exact ⟨h.1, ⟨by omega, by omega⟩, h.2.2.1, h.2.2.2⟩
theorem a8n {s : List Int} {l : List Mth} (h : G9 s l = true) : ∀ m ∈ l, S3 s m = true := by
 simp only [G9, Bool.and_eq_true, Bool.not_eq_true', List.any_eq_false, decide_eq_true_eq] at h
 intro m hm
 have := h.2.2 m hm
 simpa using this
theorem b5K {s : List Int} {l : List Mth} {a : Int × List Int} (h : Q0 s l a = true) : S3 s (atM l a.1) = true := by
 obtain ⟨h1, h2, _⟩ := R0 h
 rw [P3 h2.2]
 exact a8n h1 _ (List.getElem_mem _)
theorem a7c {s : List Int} {l : List Mth} {a : Int × List Int} {d8 : List Fct} (h : Q0 s l a = true) (hf : F2 s d8 = true) : ∀ f ∈ d8, f.1 = (atM l a.1).1 → ∀ i ∈ (atM l a.1).2.1, 0 ≤ i ∧ i < f.2.length :=
 fun f hm e => b3B (b5K h) ((I3 hf).2 f hm) e
def c0q (r : Rul) (f x : Fct) : Bool := decide (x.1 = r.1) && decide (R4 (r.2.1, a2W r.2.2 x.2) f = 0)
def b8K (d8 : List Fct) (f : Fct) (r : Rul) : Bool := d8.any (c0q r f)
def b6U (G6 : List Rul) (d8 : List Fct) (f : Fct) : Int := H0 (b8K d8 f) G6
def b8C (M3 : List Int) (before : List Lin) (v : Int) : Bool := H9 M3 v || before.any (fun y => H9 y.2.2.2 v)
def c0x (s : List Int) (r : Rul) (x y : Fct) : Bool := b6B s r y && decide (R4 (c0m s r y, c0v s r y) x = 0)
def b8m (s : List Int) (l : List Mth) (d8 : List Fct) (kn : Int → Bool) (x : Lin) : Bool :=
 Q0 s l x.2.1 && (decide ((atM l x.2.1.1).2.2.1 = 0) && ((!x.2.1.2.any (fun v => !kn v)) && K6 (d8.filter (T0 (atM l x.2.1.1) x.2.1.2)) x.2.2))
def b8M (s : List Int) (G6 : List Rul) (gv : Bool) (x : Lin) : Bool := inR x.1 0 ((G6.length : Int) - 1) && (J2 s x.2.2 && gv)
def b8L (s : List Int) (l : List Mth) (G6 : List Rul) (d8 : List Fct) (M3 : List Int) (before : List Lin) (x : Lin) : Bool :=
 if x.1 = -1 then b8m s l d8 (b8C M3 before) x else b8M s G6 (before.any fun y => c0x s (atR G6 x.1) x.2.2 y.2.2) x
def b6G : Lin := (0, (0, []), 0, [])
def b8H (s : List Int) (l : List Mth) (G6 : List Rul) (d8 : List Fct) (M3 : List Int) (lines : List Lin) (g : Nat) : Bool :=
 ((List.range lines.length).drop g).all fun i => b8L s l G6 d8 M3 (lines.take i) (lines.getD i b6G)
def b9D (lines : List Lin) (f : Fct) : Bool := decide (R4 (lines.getD (lines.length - 1) b6G).2.2 f = 0)
def c0X (s : List Int) (l : List Mth) (G6 : List Rul) (d8 : List Fct) (M3 : List Int) (f : Fct) (lines : List Lin) : Bool :=
 (G9 s l && a5K s G6) && (F2 s d8 && (decide (0 < lines.length) && (b9D lines f && b8H s l G6 d8 M3 lines 0)))
-- the other one's way
def b9s (lines : List Lin) (g : Nat) : List Fct := ((lines.take g).map fun x => x.2.2).foldl F0 []
def b9z (M3 : List Int) (lines : List Lin) (g : Nat) : List Int := (lines.take g).foldl (fun v x => x.2.2.2.foldl M4 v) (V4 (M3.filter fun t => inR t 0 9))
def b9F (s : List Int) (l : List Mth) (G6 : List Rul) (d8 : List Fct) (F : List Fct) (V : List Int) (x : Lin) : Bool :=
 if x.1 = -1 then b8m s l d8 (H9 V) x else b8M s G6 (b8K F x.2.2 (atR G6 x.1)) x
def c1q (s : List Int) (l : List Mth) (G6 : List Rul) (d8 : List Fct) (M3 : List Int) (lines : List Lin) (g : Nat) : Bool :=
 ((List.range lines.length).drop g).all fun i => b9F s l G6 d8 (b9s lines i) (b9z M3 lines i) (lines.getD i b6G)
theorem a3i {x : List Fct} : ∀ {v : List Fct} (y : Fct), y ∈ x.foldl F0 v ↔ y ∈ v ∨ y ∈ x := by
 induction x with
 | nil => intro v y; simp
 | cons a x ih =>
  intro v y
  rw [List.foldl_cons, ih, List.mem_cons]
  have : y ∈ F0 v a ↔ y ∈ v ∨ y = a := by
   refine ⟨fun h => b2O h, ?_⟩
   rintro (h | rfl)
   ·exact b2s h
   ·cases hh : K6 v y
    ·exact b5n hh
    ·exact b2s (a8E.1 hh)
  rw [this, or_assoc]
-- sizes
abbrev c1M : Lin → Nat := fun x => x.2.1.2.length + x.2.2.2.length
end Go.Proofs.YtdopeopehgdccaaGreat
end
