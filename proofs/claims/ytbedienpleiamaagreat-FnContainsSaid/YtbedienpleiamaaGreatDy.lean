import Derived.Test.YtbedienpleiamaaGreatBd
section
namespace Go.Proofs.YtbedienpleiamaaGreat
set_option linter.unusedVariables false
set_option linter.unusedSimpArgs false
theorem b0J {w : World} {L : List Nat} {e : TypeId} {a : Option Addr} {m c : Nat} {xs : List (List Int × List Int)} (h : Ro w L (Enc.sl e (Enc.pair (Enc.sl tI Enc.int) (Enc.sl tI Enc.int))) [.slice a m c] xs) : ∀ x ∈ xs, (∀ y ∈ x.1, I64 y) ∧ ∀ y ∈ x.2, I64 y := by
 intro x hx
 obtain ⟨i, hi, rfl⟩ := List.getElem_of_mem hx
 obtain ⟨_, _, ci, _, h1, _⟩ := h.elem i hi
 obtain ⟨c1, c2, rfl, h2, h3⟩ := h1.pair
 obtain ⟨a', c', rfl⟩ := h3.sl
 obtain ⟨a2, c2', rfl⟩ := h2.sl
 exact ⟨h2.i64, h3.i64⟩
def b2Y (s : List Int) (f0 : List (Int × List Int)) (out : List (List Int)) (q : List Int × List (Int × List Int)) : List (List Int) := (a0v s q f0).foldl M9 out
def b3Z (s : List Int) (u : List (List Int × List (Int × List Int))) (f0 : List (Int × List Int)) : List (List Int) := if a4Y s u then u.foldl (b2Y s f0) [] else []
theorem a6F {l6 : List (Int × List Int)} : (c6 (fun t => inR t 10 17) l6).length ≤ 8 := by
 have h1 : (c6 (fun t => inR t 10 17) l6).Pairwise (· < ·) := (W1 List.Pairwise.nil).1
 have h2 : ((c6 (fun t => inR t 10 17) l6).map fun x => (x - 10).toNat).Nodup := by
  unfold List.Nodup
  rw [List.pairwise_map]
  refine List.Pairwise.imp_of_mem (fun {a b} ha hb hab e => ?_) h1
  have ra := a3w a ha
  have rb := a3w b hb
  omega
 have h3 := a1i (n := 8) h2 fun x hx => by
  obtain ⟨y, hy, rfl⟩ := List.mem_map.1 hx
  have := a3w y hy
  omega
 simpa using h3
theorem a9E {u : List Int} {n : Nat} (h : ∀ i, i < n → E6 u (fzN u i) ≤ 9) : ∀ x ∈ C4 u n, I64 x := by
 intro x hx
 simp only [C4, List.mem_map, List.mem_range] at hx
 obtain ⟨i, hi, rfl⟩ := hx
 have := h i hi
 unfold I64; constructor <;> omega
end Go.Proofs.YtbedienpleiamaaGreat
end
section
namespace Go.Proofs.YtbedienpleiamaaGreat
set_option linter.unusedVariables false
set_option linter.unusedSimpArgs false
def b2L (v : List Int) (p : Int × Int) : Bool := decide (at0 v p.1 = p.2)
def a9W (m : Int × List Int × Int × Int × Int) (v : List Int) (f : Int × List Int) : Bool := decide (f.1 = m.1) && (m.2.1.zip v).all (b2L f.2)
end Go.Proofs.YtbedienpleiamaaGreat
end
section
namespace Go.Proofs.YtbedienpleiamaaGreat
set_option linter.unusedVariables false
set_option linter.unusedSimpArgs false
abbrev Mth := Int × List Int × Int × Int × Int
abbrev Fct := Int × List Int
abbrev Lin := Int × (Int × List Int) × Int × List Int
abbrev Rul := Int × Int × List Int
def atM (l : List Mth) (i : Int) : Mth := l.getD i.toNat (0, [], 0, 0, 0)
def atR (l : List Rul) (i : Int) : Rul := l.getD i.toNat (0, 0, [])
def b1F (s : List Int) (l : List Mth) (a : Int × List Int) : Bool := Y8 s l && (inR a.1 0 ((l.length : Int) - 1) && (decide (a.2.length = (atM l a.1).2.1.length) && a0d a.2))
def b2R (r : Rul) (f x : Fct) : Bool := decide (x.1 = r.1) && decide (I8 (r.2.1, Y1 r.2.2 x.2) f = 0)
def b1e (f0 : List Fct) (f : Fct) (r : Rul) : Bool := f0.any (b2R r f)
def a9U (D0 : List Rul) (f0 : List Fct) (f : Fct) : Int := H3 (b1e f0 f) D0
def b1c (F6 : List Int) (before : List Lin) (v : Int) : Bool := G2 F6 v || before.any (fun y => G2 y.2.2.2 v)
def b2D (s : List Int) (r : Rul) (x y : Fct) : Bool := a9c s r y && decide (I8 (b2G s r y, b2Q s r y) x = 0)
def b0V (s : List Int) (l : List Mth) (f0 : List Fct) (kn : Int → Bool) (x : Lin) : Bool :=
 b1F s l x.2.1 && (decide ((atM l x.2.1.1).2.2.1 = 0) && ((!x.2.1.2.any (fun v => !kn v)) && F5 (f0.filter (a9W (atM l x.2.1.1) x.2.1.2)) x.2.2))
def b1g (s : List Int) (D0 : List Rul) (gv : Bool) (x : Lin) : Bool := inR x.1 0 ((D0.length : Int) - 1) && (H4 s x.2.2 && gv)
def b0U (s : List Int) (l : List Mth) (D0 : List Rul) (f0 : List Fct) (F6 : List Int) (before : List Lin) (x : Lin) : Bool :=
 if x.1 = -1 then b0V s l f0 (b1c F6 before) x else b1g s D0 (before.any fun y => b2D s (atR D0 x.1) x.2.2 y.2.2) x
def a9p : Lin := (0, (0, []), 0, [])
def b0X (s : List Int) (l : List Mth) (D0 : List Rul) (f0 : List Fct) (F6 : List Int) (lines : List Lin) (g : Nat) : Bool :=
 ((List.range lines.length).drop g).all fun i => b0U s l D0 f0 F6 (lines.take i) (lines.getD i a9p)
def b1I (lines : List Lin) (f : Fct) : Bool := decide (I8 (lines.getD (lines.length - 1) a9p).2.2 f = 0)
def b3x (s : List Int) (l : List Mth) (D0 : List Rul) (f0 : List Fct) (F6 : List Int) (f : Fct) (lines : List Lin) : Bool :=
 (Y8 s l && a2k s D0) && (J6 s f0 && (decide (0 < lines.length) && (b1I lines f && b0X s l D0 f0 F6 lines 0)))
-- the other one's way
def b1M (lines : List Lin) (g : Nat) : List Fct := ((lines.take g).map fun x => x.2.2).foldl D1 []
def b1Y (F6 : List Int) (lines : List Lin) (g : Nat) : List Int := (lines.take g).foldl (fun v x => x.2.2.2.foldl K8 v) (G6 (F6.filter fun t => inR t 0 9))
def b1S (s : List Int) (l : List Mth) (D0 : List Rul) (f0 : List Fct) (F : List Fct) (V : List Int) (x : Lin) : Bool :=
 if x.1 = -1 then b0V s l f0 (G2 V) x else b1g s D0 (b1e F x.2.2 (atR D0 x.1)) x
def b3H (s : List Int) (l : List Mth) (D0 : List Rul) (f0 : List Fct) (F6 : List Int) (lines : List Lin) (g : Nat) : Bool :=
 ((List.range lines.length).drop g).all fun i => b1S s l D0 f0 (b1M lines i) (b1Y F6 lines i) (lines.getD i a9p)
theorem a8J {x : List Fct} : ∀ {v : List Fct} (y : Fct), y ∈ x.foldl D1 v ↔ y ∈ v ∨ y ∈ x := by
 induction x with
 | nil => intro v y; simp
 | cons a x ih =>
  intro v y
  rw [List.foldl_cons, ih, List.mem_cons]
  have : y ∈ D1 v a ↔ y ∈ v ∨ y = a := by
   refine ⟨fun h => Y3 h, ?_⟩
   rintro (h | rfl)
   ·exact a2v h
   ·cases hh : F5 v y
    ·exact a5G hh
    ·exact a2v (a2t.1 hh)
  rw [this, or_assoc]
-- sizes
abbrev b3T : Lin → Nat := fun x => x.2.1.2.length + x.2.2.2.length
end Go.Proofs.YtbedienpleiamaaGreat
end
