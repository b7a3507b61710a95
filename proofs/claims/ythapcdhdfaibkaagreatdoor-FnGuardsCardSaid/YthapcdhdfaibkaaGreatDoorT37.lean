import Derived.Test.YthapcdhdfaibkaaGreatDoorT36
import Derived.Test.YthapcdhdfaibkaaGreatDoorT11
section
namespace Go.Proofs.YthapcdhdfaibkaaGreatDoor
set_option linter.all false
abbrev Mth := Int × List Int × Int × Int × Int
abbrev Fct := IL
abbrev Lin := Int × IL × IL
abbrev Rul := Int × IL
def atM (l : List Mth) (i : Int) : Mth := l.getD i.toNat (0, [], 0, 0, 0)
theorem S1 {l : List Mth} {i : Int} (h : i.toNat < l.length) : atM l i = l[i.toNat] := by simp [atM, List.getD, h]
def atR (l : List Rul) (i : Int) : Rul := l.getD i.toNat (0, 0, [])
theorem V2 {n a b : Int} (h : inR n a b = true) : a ≤ n ∧ n ≤ b := of_decide_eq_true h
def S8 (s : List Int) (l : List Mth) (a : IL) : Bool := J3 s l && (inR a.1 0 ((l.length : Int) - 1) && (decide (a.2.length = (atM l a.1).2.1.length) && V4 a.2))
theorem T5 {s : List Int} {l : List Mth} {a : IL} (h : S8 s l a = true) : J3 s l = true ∧ (0 ≤ a.1 ∧ a.1.toNat < l.length) ∧ a.2.length = (atM l a.1).2.1.length ∧ V4 a.2 = true := by
  simp only [S8, Bool.and_eq_true, decide_eq_true_eq] at h
  have h1 := V2 h.2.1
  exact ⟨h.1, ⟨by omega, by omega⟩, h.2.2.1, h.2.2.2⟩
theorem a8s {s : List Int} {l : List Mth} (h : J3 s l = true) : ∀ m ∈ l, V3 s m = true := by
  simp only [J3, Bool.and_eq_true, Bool.not_eq_true', List.any_eq_false, decide_eq_true_eq] at h
  intro m hm
  have := h.2.2 m hm
  simpa using this
theorem b5x {s : List Int} {l : List Mth} {a : IL} (h : S8 s l a = true) : V3 s (atM l a.1) = true := by
  obtain ⟨h1, h2, _⟩ := T5 h
  rw [S1 h2.2]
  exact a8s h1 _<|List.getElem_mem _
theorem a7w {s : List Int} {l : List Mth} {a : IL} {d6 : List Fct} (h : S8 s l a = true) (hf : F1 s d6 = true) : ∀ f ∈ d6, f.1 = (atM l a.1).1 → ∀ i ∈ (atM l a.1).2.1, 0 ≤ i ∧ i < f.2.length :=
  fun f hm e => b3u (b5x h) ((G4 hf).2 f hm) e
def c1T (r : Rul) (f x : Fct) : Bool := decide (x.1 = r.1) && decide (T7 (r.2.1, vals r.2.2 x.2) f = 0)
def b9s (d6 : List Fct) (f : Fct) (r : Rul) : Bool := d6.any (c1T r f)
def b7I (I5 : List Rul) (d6 : List Fct) (f : Fct) : Int := J0 (b9s d6 f) I5
def b9k (O3 : List Int) (before : List Lin) (v : Int) : Bool := I8 O3 v || before.any (fun y => I8 y.2.2.2 v)
def c2c (s : List Int) (r : Rul) (x y : Fct) : Bool := b7r s r y && decide (T7 (c2d s r y, c2j s r y) x = 0)
def b9Y (s : List Int) (l : List Mth) (d6 : List Fct) (kn : Int → Bool) (x : Lin) : Bool :=
  S8 s l x.2.1 && (decide ((atM l x.2.1.1).2.2.1 = 0) && ((!x.2.1.2.any (fun v => !kn v)) && N9 (d6.filter (W5 (atM l x.2.1.1) x.2.1.2)) x.2.2))
def b9H (s : List Int) (I5 : List Rul) (gv : Bool) (x : Lin) : Bool := inR x.1 0 ((I5.length : Int) - 1) && (O6 s x.2.2 && gv)
def b9K (s : List Int) (l : List Mth) (I5 : List Rul) (d6 : List Fct) (O3 : List Int) (before : List Lin) (x : Lin) : Bool :=
  if x.1 = -1 then b9Y s l d6 (b9k O3 before) x else b9H s I5 (before.any fun y => c2c s (atR I5 x.1) x.2.2 y.2.2) x
def b6F : Lin := (0, (0, []), 0, [])
def b9A (s : List Int) (l : List Mth) (I5 : List Rul) (d6 : List Fct) (O3 : List Int) (lines : List Lin) (g : Nat) : Bool :=
  ((List.range lines.length).drop g).all fun i => b9K s l I5 d6 O3 (lines.take i) (lines.getD i b6F)
def c0B (lines : List Lin) (f : Fct) : Bool := decide (T7 (lines.getD (lines.length - 1) b6F).2.2 f = 0)
def c2B (s : List Int) (l : List Mth) (I5 : List Rul) (d6 : List Fct) (O3 : List Int) (f : Fct) (lines : List Lin) : Bool :=
  (J3 s l && a5L s I5) && (F1 s d6 && (decide (0 < lines.length) && (c0B lines f && b9A s l I5 d6 O3 lines 0)))
-- the other one's way
def c1j (lines : List Lin) (g : Nat) : List Fct := ((lines.take g).map fun x => x.2.2).foldl G8 []
def c0E (O3 : List Int) (lines : List Lin) (g : Nat) : List Int := (lines.take g).foldl (fun v x => x.2.2.2.foldl R5 v) (a0w (O3.filter fun t => inR t 0 9))
def c0z (s : List Int) (l : List Mth) (I5 : List Rul) (d6 : List Fct) (F : List Fct) (V : List Int) (x : Lin) : Bool :=
  if x.1 = -1 then b9Y s l d6 (I8 V) x else b9H s I5 (b9s F x.2.2 (atR I5 x.1)) x
def c2V (s : List Int) (l : List Mth) (I5 : List Rul) (d6 : List Fct) (O3 : List Int) (lines : List Lin) (g : Nat) : Bool :=
  ((List.range lines.length).drop g).all fun i => c0z s l I5 d6 (c1j lines i) (c0E O3 lines i) (lines.getD i b6F)
theorem a0J {x : List Fct} : ∀ {v : List Fct} (y : Fct), y ∈ x.foldl G8 v ↔ y ∈ v ∨ y ∈ x := by
  induction x with
  | nil => intro v y; simp
  | cons a x ih =>
    intro v y
    rw [List.foldl_cons, ih, List.mem_cons]
    have : y ∈ G8 v a ↔ y ∈ v ∨ y = a := by
      refine ⟨fun h => a6n h, ?_⟩
      rintro (h | rfl)
      · exact b1W h
      · cases hh : N9 v y
        · exact b5g hh
        · exact b1W<|a6t.1 hh
    rw [this, or_assoc]
-- sizes
abbrev c3q : Lin → Nat := fun x => x.2.1.2.length + x.2.2.2.length
end Go.Proofs.YthapcdhdfaibkaaGreatDoor
end
section
namespace Go.Proofs.YthapcdhdfaibkaaGreatDoor
set_option linter.all false
abbrev Acs := IL
abbrev Rch := List Fct × List Int × List Acs × Int
def b4z (l : List Mth) (d6 : List Fct) (a : Acs) : List Fct := d6.filter (W5 (atM l a.1) a.2)
def c1N (l : List Mth) (d6 : List Fct) (F : List Fct) (a : Acs) : List Fct := (b4z l d6 a).foldl G8 F
def wvI (v : List Int) (f : Fct) : List Int := a0w ((v ++ f.2).filter fun t => inR t 0 9)
def pvI (v : List Int) (f : Fct) : List Int := f.2.foldl R5 v
def c3r (l : List Mth) (d6 : List Fct) (v : List Int) (a : Acs) : List Int := (b4z l d6 a).foldl wvI v
def c2b (l : List Mth) (d6 : List Fct) (v : List Int) (a : Acs) : List Int := (b4z l d6 a).foldl pvI v
def c1Z (n : Nat) : Int := if 0 < n then 1 else 0
def a9V (l : List Mth) (r : Rch) : List Acs := U1 r.2.1 r.2.2.1 l 0
def b4G (l : List Mth) (d6 : List Fct) (r : Rch) : Rch :=
  ((a9V l r).foldl (c1N l d6) r.1, (a9V l r).foldl (c2b l d6) r.2.1, r.2.2.1 ++ a9V l r, r.2.2.2 + c1Z (a9V l r).length)
-- order
theorem a8q {α : Type} {r : α → α → Bool} (tr : ∀ a b c, r a b = true → r b c = true → r a c = true) : ∀ {l : List α}, G3 r l = true → l.Pairwise (fun a b => r a b = true)
  | [], _ => .nil
  | [_], _ => by simp
  | a :: b :: l, h => by
    simp only [G3, Bool.and_eq_true] at h
    have h2 := a8q tr h.2
    rw [List.pairwise_cons]
    refine ⟨fun c hc => ?_, h2⟩
    rw [List.pairwise_cons] at h2
    rcases List.mem_cons.1 hc with rfl | hc
    · exact h.1
    · exact tr _ _ _ h.1<|h2.1 c hc
theorem b2D {α : Type} {r : α → α → Bool} {f : α} (tr : ∀ a b c, r a b = true → r b c = true → r a c = true) : ∀ {l : List α}, l.Pairwise (fun a b => r a b = true) → (∀ y ∈ l, r f y = false → r y f = true) →
    (if (l.any (r f)) then R9 (r f) f l else l ++ [f]).Pairwise (fun a b => r a b = true) ∧ ∀ y, y ∈ (if (l.any (r f)) then R9 (r f) f l else l ++ [f]) → y ∈ l ∨ y = f := by
  intro l
  induction l with
  | nil => intro _ _; simp
  | cons z l ih =>
    intro h ht
    rw [List.pairwise_cons] at h
    have ih' := ih h.2 fun y hy => ht y (by simp [hy])
    cases hz : r f z
    · simp only [List.any_cons, hz, Bool.false_or, R9, Bool.false_eq_true, if_false]
      have e : (if (l.any (r f)) then z :: R9 (r f) f l else z :: l ++ [f]) = z :: (if (l.any (r f)) then R9 (r f) f l else l ++ [f]) := by split <;> simp
      rw [e]
      refine ⟨?_, fun y hy => ?_⟩
      · rw [List.pairwise_cons]
        refine ⟨fun y hy => ?_, ih'.1⟩
        rcases ih'.2 y hy with hy | rfl
        · exact h.1 y hy
        · exact ht z (by simp) hz
      · rcases List.mem_cons.1 hy with rfl | hy
        · simp
        · rcases ih'.2 y hy with hy | rfl
          · simp [hy]
          · simp
    · simp only [List.any_cons, hz, Bool.true_or, if_true, R9]
      refine ⟨?_, fun y hy => by simp only [List.mem_cons] at hy ⊢; rcases hy with h | h | h <;> simp [h]⟩
      rw [List.pairwise_cons, List.pairwise_cons]
      refine ⟨fun y hy => ?_, h⟩
      rcases List.mem_cons.1 hy with rfl | hy
      · exact hz
      · exact tr _ _ _ hz<|h.1 y hy
theorem b3C {a b c : Int} : V0 a b < 0 → V0 b c < 0 → V0 a c < 0 := by unfold V0; grind
theorem a2o {a b : Int} : V0 a b = 0 ↔ a = b := by unfold V0; grind
theorem b0A : ∀ {a b c : List Int}, K5 a b < 0 → K5 b c < 0 → K5 a c < 0
  | [], [], c, h, _ => by simp [K5] at h
  | [], _ :: _, [], _, h => by simp [K5] at h
  | [], _ :: _, _ :: _, _, _ => by simp [K5]
  | _ :: _, [], _, h, _ => by simp [K5] at h
  | _ :: _, _ :: _, [], _, h => by simp [K5] at h
  | x :: a, y :: b, z :: c, h1, h2 => by
    have h3 := b0A (a := a) (b := b) (c := c)
    have h4 := b3C (a := x) (b := y) (c := z)
    have h5 := a2o (a := x) (b := y)
    have h6 := a2o (a := y) (b := z)
    have h7 := a2o (a := x) (b := z)
    unfold K5 at h1 h2 ⊢; grind
theorem b3L {a b c : Fct} (h1 : T7 a b < 0) (h2 : T7 b c < 0) : T7 a c < 0 := by
  have h3 := b0A (a := a.2) (b := b.2) (c := c.2)
  have h4 := b3C (a := a.1) (b := b.1) (c := c.1)
  have h5 := a2o (a := a.1) (b := b.1)
  have h6 := a2o (a := b.1) (b := c.1)
  have h7 := a2o (a := a.1) (b := c.1)
  unfold T7 at h1 h2 ⊢; grind
abbrev a2b (l : List Fct) : Prop := l.Pairwise (fun a b => ltF a b = true)
theorem b6H {l : List Fct} {f : Fct} (h : a2b l) : a2b (G8 l f) := by
  cases hh : N9 l f
  · rw [G8, hh, X4, if_neg (by decide)]
    refine (b2D (fun a b c h1 h2 => ?_) h fun y hy hf => ?_).1
    · simp only [ltF, decide_eq_true_eq] at h1 h2 ⊢; exact b3L h1 h2
    · simp only [ltF, decide_eq_false_iff_not, decide_eq_true_eq] at hf ⊢
      have h1 := a8S (a := f) (b := y)
      rcases Int.lt_or_eq_of_le (show T7 y f ≤ 0 by omega) with h2 | h2
      · exact h2
      · rw [a3M] at h2
        subst h2
        rw [a6t.2 hy] at hh; cases hh
  · rw [a4x hh]; exact h
theorem a8U : ∀ {m x : List Fct}, a2b x → a2b (m.foldl G8 x)
  | [], _, h => h
  | f :: m, x, h => a8U (m := m) (b6H h)
theorem a3k {l : List Fct} (h : a2b l) : l.Nodup :=
  h.imp fun {a b} hab e => by subst e; simp [ltF, a3M.2 rfl] at hab
-- values
-- facts
-- the accesses
-- a step of a state
def b7D (s : List Int) (l : List Mth) (d6 : List Fct) (r : Rch) : Bool := J3 s l && (F1 s d6 && (F1 s r.1 && (a7W r.2.1 && inR r.2.2.2 0 100)))
def c2W (s : List Int) (l : List Mth) (d6 : List Fct) (r : Rch) : Rch := if b7D s l d6 r then b4G l d6 r else r
def c2X (s : List Int) (l : List Mth) (d6 : List Fct) (r : Rch) : Bool := b7D s l d6 r && decide (0 < (a9V l r).length)
section
variable {l : List Mth} {d6 F : List Fct} {V : List Int} {A : List Acs} {N : Int} {g : Nat}
end
-- states that are reached
def a5s (l : List Mth) (d6 : List Fct) (O3 : List Int) : Nat → Rch
  | 0 => ([], a0w (O3.filter fun t => inR t 0 9), [], 0)
  | n + 1 => b4G l d6 (a5s l d6 O3 n)
def b1P (l : List Mth) (d6 : List Fct) (r : Rch) : Nat → Rch → Bool
  | 0, x => decide (x = r)
  | n + 1, x => decide (x = r) || (decide (0 < (a9V l x).length) && b1P l d6 r n (b4G l d6 x))
def b4L (s : List Int) (l : List Mth) (d6 : List Fct) (O3 : List Int) (r : Rch) : Bool := (J3 s l && F1 s d6) && b1P l d6 r 40 (a5s l d6 O3 0)
structure rInv (s : List Int) (l : List Mth) (d6 : List Fct) (n : Nat) (x : Rch) : Prop where
  asc : a2b x.1
  sub : ∀ f ∈ x.1, f ∈ d6
  flen : x.1.length ≤ 24
  fel : ∀ f ∈ x.1, f.2.length ≤ 3
  vals : a7W x.2.1 = true
  log : x.2.2.1.length ≤ 5000 * n
  loge : ∀ a ∈ x.2.2.1, a.2.length ≤ 3
  rounds : 0 ≤ x.2.2.2 ∧ x.2.2.2 ≤ n
def c3d (s : List Int) (l : List Mth) (d6 : List Fct) (O3 : List Int) (r : Rch) (g : Nat) : Prop :=
  b4L s l d6 O3 r = b1P l d6 r (40 - g) (a5s l d6 O3 g) ∧ rInv s l d6 g (a5s l d6 O3 g)
section
variable {s : List Int} {l : List Mth} {d6 : List Fct} {O3 : List Int} {r : Rch} {g : Nat}
def c3f (s : List Int) (l : List Mth) (d6 : List Fct) (O3 : List Int) (r : Rch) (g : Nat) : Prop :=
  (g ≤ 40 → b4L s l d6 O3 r = ((J3 s l && F1 s d6) && b1P l d6 r (40 - g) (a5s l d6 O3 g))) ∧ (40 < g → b4L s l d6 O3 r = false) ∧ (0 < g → J3 s l = true ∧ F1 s d6 = true) ∧ rInv s l d6 g (a5s l d6 O3 g)
end
end Go.Proofs.YthapcdhdfaibkaaGreatDoor
end
section
namespace Go.Proofs.YthapcdhdfaibkaaGreatDoor
open Go.RowKit
set_option linter.all false
set_option maxHeartbeats 2000000
attribute [local irreducible] Nop Yd Yp Ent Has Tr FnP FnP2 Src
theorem a8h {a_s : Option Addr} {m_s c_s : Nat} {s : List IL} {del_g : FuncId} {del_c : List Value} {D_del : IL → Prop} {del : IL → Bool} (hD_del : ∀ x ∈ s, D_del x) : Tr Tryz.prog 192 [.slice a_s m_s c_s, .func (.func del_g) #[] del_c.toArray] (fun w L => FnP Tryz.prog w L del_g del_c J8 a0P D_del del) [ow s5 [.slice a_s m_s c_s] s] (κ := SL) (fun k => True) (fun k => .slice k.1 k.2.1 k.2.2) (fun k => [ow s5 [.slice k.1 k.2.1 k.2.2] (s.filter (fun x => !del x))]) := by
 refine Ti2 Tryz.func192 42 rfl fun w L hR => ?_
 have hdel := hR
 refine r8 m0 ?_
 rintro rfl ls
 refine Ew Z1<|Ei rfl ?_
 refine Ev Z4<|Em rfl ?_
 refine Em rfl ?_
 refine E0 rfl (a2O (f := del) (D_f := D_del) hD_del) rfl (fun hA => ⟨hA.ow m0, hA.fn hdel⟩) ?_
 refine Ei rfl ?_
 have hrg := a0G (p := del) (s := s)
 refine Eu<|Eq_<|Ew Z2<|Em rfl ?_
 refine Yeq rfl<|l3 (fun q12 => ?_)<|fun q12 => ?_
 ·refine Eu<|r6 rfl<|Ew Z2<|Em rfl ?_
  refine Ei rfl ?_
  refine Eu<|E.ret<|i9<|g9 (congrArg (ow s5 [_]) (show _ = s.filter (fun x => !del x) from (a5l om).symm)) ?_
  exact Fg rfl rfl (_, _, _) rfl rfl
 ·obtain ⟨i0, hi0⟩ : ∃ i0 : Nat, J0 del s = (i0 : Int) := ⟨(J0 del s).toNat, by omega⟩
  obtain ⟨f1, f2, f3, f4⟩ := a4s hi0
  refine Eu<|Cf<|Eq_<|Ew Z3<|Em rfl ?_
  refine Yad rfl om om ?_
  refine Ei rfl ?_
  refine Eu<|E.block<|a3H fun cs hcs => ?_
  replace hcs : cs.length = s.length * 2 := hcs
  show Ent _ _ _ _ (row tFact 2 a_s s.length c_s cs :: _) _
  refine a3F m0 fun hms => ?_
  refine a2R m0 om fun sb hsb _ => ?_
  subst hsb
  refine f5 ?_
  have hsp : s = s.take i0 ++ ([s[i0]] ++ s.drop (i0 + 1)) := by
   rw [List.singleton_append, ← List.drop_eq_getElem_cons f1, List.take_append_drop]
  refine g9 (congrArg (els J8 cs) hsp) ?_
  refine a1G fun ka kb hab hka => ?_
  refine f5 ?_
  refine a1G fun kb1 kb2 hb12 hkb => ?_
  subst hb12
  refine Ent.drop ?_
  replace hka : ka.length = i0 * 2 := by rw [hka, List.length_take, Nat.min_eq_left om]; rfl
  replace hkb : kb1.length = 2 := hkb
  have hinit := a9h (k := 2) hcs f1 hab hka hkb
  refine f5 ?_
  refine g9 (congrArg (els J8 ka) f4.symm) ?_
  refine f5 ?_
  refine E.loop (κ := Nat × Nat × List Value × List Value × List Value) (fun g => DfI 2 s.length g.2.1 g.1 g.2.2.1 g.2.2.2.1 g.2.2.2.2 ∧ g.2.1 = ((s.take g.1).filter (fun x => !del x)).length) (fun g => [(0, .slice (some ⟨sb, 0, none⟩) s.length c_s), (1, .func (.func del_g) #[] del_c.toArray), (5, .int .i64 (g.2.1 : Int)), (6, .int .i64 (g.1 : Int))]) (fun g => [els J8 g.2.2.2.2<|s.drop g.1, els J8 g.2.2.2.1<|(s.take g.1).filter (fun x => !del x), row tFact 2 (some ⟨sb, 0, none⟩) s.length c_s g.2.2.1]) (fun g => s.length - g.1) (i0 + 1, i0, cs, ka, kb2) ⟨hinit, by rw [f4, List.length_take, Nat.min_eq_left om]⟩ ⟨rfl, rfl, frI hi0, frI om, trivial⟩ (.refl _)<|fun g pg => ?_
  obtain ⟨j, i, cur, kc, rc⟩ := g
  try dsimp only at pg
  obtain ⟨hI, hi⟩ := pg
  try dsimp only
  have hlt := hI.lt
  have hle := hI.le
  refine Eq_<|Ew Z4<|Em rfl ?_
  refine Em rfl ?_
  refine Yln us_Facts rfl ?_
  refine Ylt rfl<|l3 (fun q19 => ?_)<|fun q19 => ?_
  ·have hj : j < s.length := by omega
   have hd : s.drop j = [s[j]] ++ s.drop (j + 1) := by rw [List.drop_eq_getElem_cons hj]; rfl
   refine g9 (congrArg (els J8 rc) hd) ?_
   refine a1G fun c1 c2 hc hc1 => ?_
   subst hc
   replace hc1 : c1.length = 2 := hc1
   refine a2h m0 fun h1e => ?_
   refine Eu<|Ct<|Eq_<|E.block<|Ew Z6<|Em rfl ?_
   refine Em rfl ?_
   refine Ix us_Facts ty_Fact rfl rfl j rfl hj ?_
   refine Ey rfl (k7 (cs := c1) ty_Fact rfl (show Has _ _ _ sb (0 + j * 2) c1 from by rw [Nat.zero_add]; exact a2S (mS<|mS<|mS m0) j (rest := c2) hI.r1) hc1) ?_
   refine Est rfl (N.alloc ty_Fact dc)<|fun b7 _ => ?_
   refine Est rfl (a8d (vs := c1) (cs' := c1) ty_Fact rfl rfl rfl hc1 (List.all_eq_true.2 h1e) bl (by simp))<|fun _ _ => ?_
   refine Ev Z4<|Em rfl ?_
   refine Ey rfl (k7 (cs := c1) ty_Fact rfl (Has.pt m0) hc1) ?_
   refine Est rfl (N.fn (cs := c1) hdel rfl rfl rfl dc (fun w Lp hA => hA.els1<|mS m0)<|hD_del _<|List.getElem_mem hj)<|fun _ _ => Ent.b (fun q28 => ?_)<|fun q28 => ?_
   ·refine Yno true rfl ?_
    refine Eu<|r7 rfl<|v8<|o6<|Et<|Ez Z3<|Em rfl ?_
    refine Yad rfl om om ?_
    refine Ei rfl ?_
    have hK : (s.take (j + 1)).filter (fun x => !del x) = (s.take j).filter (fun x => !del x) := by rw [K9 hj, if_neg (by simp [q28])]
    refine Eu<|Ent.drop ?_
    refine Ent.drop ?_
    refine f5 ?_
    refine g9 (congrArg (els J8 kc) hK.symm) ?_
    refine f5 ?_
    exact Ea (j + 1, i, cur, kc, c2) ⟨hI.skip hj hc1, by rw [hK]; exact hi⟩
   ·refine Yno false rfl ?_
    refine Eu<|r6 rfl<|Ew Z5<|Em rfl ?_
    refine Em rfl ?_
    refine Ey rfl (k7 (cs := c1) ty_Fact rfl (Has.pt m0) hc1) ?_
    refine Ix us_Facts ty_Fact rfl rfl i rfl om ?_
    refine s4 ?_
    refine Est rfl (b3o (i := i) (vs := c1) ty_Fact rfl (Nat.zero_add _) rfl rfl hc1 h1e om rfl)<|fun _ _ => ?_
    refine Eu<|Ez Z3<|Em rfl ?_
    refine Yad rfl om om ?_
    refine Ei rfl ?_
    refine En<|o6<|Et<|Ez Z3<|Em rfl ?_
    refine Yad rfl om om ?_
    refine Ei rfl ?_
    have hK : (s.take (j + 1)).filter (fun x => !del x) = (s.take j).filter (fun x => !del x) ++ [s[j]] := by rw [K9 hj, if_pos (by simp [q28])]
    refine Eu<|f5 ?_
    refine Ent.drop ?_
    refine f5 ?_
    refine a4G ?_
    refine a9g ?_
    refine g9 (congrArg (els J8<|kc ++ c1) hK.symm) ?_
    refine i8 ?_
    exact Ea (j + 1, i + 1, cur.take (i * 2) ++ c1 ++ cur.drop (i * 2 + 2), kc ++ c1, c2) ⟨hI.put hj hc1, by rw [hK, List.length_append, ← hi]; rfl⟩
  ·obtain rfl : j = s.length := by omega
   refine Ent.drop ?_
   refine Eu<|r7 rfl<|E.exit<|l4<|l4<|w8<|Et<|Ew Z4<|Em rfl ?_
   refine Em rfl ?_
   refine Ey rfl ((a0t (l := i) us_Facts ty_Fact rfl rfl om om).yd) ?_
   refine f5 ?_
   refine Est rfl (b4X (p := i) (q := s.length - i) us_Facts ty_Fact (by simp [Value.oneCell']) rfl rfl om om om rfl)<|fun _ _ => ?_
   refine Ev Z4<|Em rfl ?_
   refine Em rfl ?_
   refine Ey rfl ((a3Q (h := i) us_Facts ty_Fact rfl rfl om).yd) ?_
   refine Ei rfl ?_
   refine g9 (congrArg (row tFact 2 (some ⟨sb, 0, none⟩) i c_s) hI.k1) ?_
   refine Eu<|E.ret<|a2p (E := J8) hi mx ?_
   refine g9 (congrArg (ow s5 [_]) (show _ = s.filter (fun x => !del x) from by rw [List.take_length])) ?_
   exact Fg rfl rfl (_, _, _) rfl rfl
end Go.Proofs.YthapcdhdfaibkaaGreatDoor
end
section
namespace Go.Proofs.YthapcdhdfaibkaaGreatDoor
open Go.RowKit
set_option linter.all false
theorem FnP.keep {P : Program} {α : Type} {E : Enc α} {w w' : World} {L : List Nat} {g : FuncId} {caps : List Value} {val : List Value → Value} {D : α → Prop} {p : α → Bool} (h : FnP P w L g caps E val D p) (k : Keep w L w') : FnP P w' [] g caps E val D p :=
  fun w2 k2 => h w2 ⟨Nat.le_trans k.size k2.size, fun b hb hn => (k2.keep b (Nat.lt_of_lt_of_le hb k.size) (by simp)).trans (k.keep b hb hn)⟩
variable {P : Program} {n : Nat} {fr : Fr}
theorem c2w {x y u : Operand} {T e : TypeId} {agg : Bool} {k : Nat} {z : List Value} {by' : Nat} {a : Option Addr} {m c : Nat} {l h : Int} (hT : P.underlying T = some (.slice e)) (ht : TyOk P e agg k z by') (hx : ev fr x = some (.slice a m c)) (hy : ev fr y = some (.int .i64 l)) (hu : ev fr u = some (.int .i64 h)) (h0 : 0 ≤ l) (h1 : l ≤ h) (h2 : h.toNat ≤ c) :
    Yp P n fr (.slice T x (some y) (some u) none) (.slice (if c = l.toNat then a else a.map (·.add (l.toNat * k))) (h.toNat - l.toNat) (c - l.toNat)) := fun ac hf w' d t p af g => by
  obtain ⟨l, rfl⟩ := Int.eq_ofNat_of_zero_le h0
  obtain ⟨h, rfl⟩ := Int.eq_ofNat_of_zero_le (show 0 ≤ h by omega)
  have h1' : l ≤ h := by omega
  simp only [Int.toNat_natCast] at h2
  simp [execOp, hf.ev hx, hf.ev hy, hf.ev hu, Instr.sliceAt, Instr.slice, Instr.sliceBounds, a5b h1', a5b h2, run_underlying hT, ht.run_sizeOf]
end Go.Proofs.YthapcdhdfaibkaaGreatDoor
end
section
namespace Go.Proofs.YthapcdhdfaibkaaGreatDoor
open Go.RowKit
set_option linter.all false
set_option maxHeartbeats 2000000
attribute [local irreducible] Nop Yd Yp Ent Has Tr FnP FnP2 Src M5 U1 V6 W3 G3
variable {q3 : Int} {l : List (Int × List Int × Int × Int × Int)} {s6 : List Int} {m_l c_l H5 E8 : Nat} {a_l E9 : Option Addr}
theorem a9m {a_s : Option Addr} {m_s c_s : Nat} {s : List Int} : TB Tryz.prog 167 [.slice a_s m_s c_s, .slice a_l m_l c_l, .agg #[.int .i64 q3, .slice E9 H5 E8]] (fun w L => Ro w L eIs [.slice a_s m_s c_s] s ∧ Ro w L G0 [.slice a_l m_l c_l] l ∧ I64 q3 ∧ Ro w L eIs [.slice E9 H5 E8] s6) (S8 s l (q3, s6)) := by
 refine Ti3 Tryz.func167 48 rfl fun w L hR => ?_
 obtain ⟨hs, hl, R8, G1⟩ := hR
 obtain ⟨rfl, ls⟩ := hs.slen
 obtain ⟨rfl, ll⟩ := hl.slen
 obtain ⟨rfl, a0k⟩ := G1.slen
 refine Ew Z2<|Est rfl (N.box (cs := [_, _]) rfl dc rfl)<|fun b5 _ => Ei rfl<|Eu<|Eq_<|Eq_<|D.region (fun j => true) mixed<|Dm 0 rfl<|Dm 1 rfl<|D0 2 rfl a2t rfl (fun hA => ⟨hA.ro hs, hA.ro hl⟩)<|Ent.b (fun q10 => ?_)<|fun q10 => ?_
 ·refine Dyp 3 rfl (Y.not (b := true) rfl)<|Dm 4 rfl<|Df 5 6 fo_Access_0 i7 rfl (Hz m0 0 rfl)<|Dm 7 rfl<|Dyp 8 rfl (Y.len us_Methods rfl)<|Dyp 9 rfl (Y.sub rfl rfl om om)<|D0 10 rfl K4 rfl (fun _ => trivial)<|Ent.b (fun q18 => ?_)<|fun q18 => ?_
  ·have zz := V2 q18
   refine Dyp 11 rfl (Y.not (b := true) rfl)<|Dyp 12 rfl (L8 rfl rfl)<|Dm 13 rfl<|Df 14 15 fo_Access_1 ty_Is rfl (Hz m0 1 rfl)<|Dyp 16 rfl (Y.len us_Is rfl)<|Dm 17 rfl<|Df 18 19 fo_Access_0 i7 rfl (Hz m0 0 rfl) ?_
   obtain ⟨eb28, eo28, ec28, ea28, er28, el28, eh28⟩ := hl.elem q3.toNat om
   obtain ⟨xa28_0, xc28_0, rfl, ei28_0, xh28_0, ei28_2, ei28_3, ei28_4⟩ := P5 er28
   have := xh28_0.slen.2
   refine Dyp 20 rfl (z8 us_Methods ty_Method rfl ea28 rfl q3.toNat om om)<|Df 21 22 fo_Method_1 ty_Is rfl (Hs (eh28 _) 1 rfl)<|Dyp 23 rfl (Y.len us_Is rfl)<|Dyp 24 rfl (Y.neq rfl rfl)<|l3 (fun q32 => ?_)<|fun q32 => ?_
   ·refine Dyp 25 rfl (L8 rfl rfl)<|n9 kr<|Et<|r6 rfl<|Ew Z1<|Ei rfl<|Eu<|E.ret<|i9<|Fb rfl rfl (by grind [S8, S1, V4, d1, d2, t1, t2])
   ·refine Dyp 25 rfl (L8 rfl rfl)<|n9 kr<|Et<|Cf<|Eq_<|Ew Z1<|Ei rfl<|Eu<|E.block<|Lo (κ := Nat) (fun g => g ≤ s6.length ∧ V4 s6 = V4 (s6.drop g)) (fun g => [(5, .pointer<|some ⟨b5, 0, none⟩), (7, .int .i64 (g : Int))]) (fun g => [pt b5 105 [.int .i64 q3, .slice E9 s6.length E8]]) (fun g => s6.length - g) 0 ⟨Nat.zero_le _, by simp⟩<|fun g pg => ?_
    obtain ⟨pk, pa⟩ := pg
    refine Eq_<|Ew Z5<|Em rfl<|Lz fo_Access_1 ty_Is rfl m0 rfl<|Yln us_Is rfl<|Ylt rfl<|l3 (fun q38 => ?_)<|fun q38 => ?_
    ·refine Eu<|Ct<|Eq_<|E.block<|Ew Z7<|Lz fo_Access_1 ty_Is rfl m0 rfl<|Em rfl ?_
     obtain ⟨eb44, eo44, ea44, ei44, eh44⟩ := G1.elemI g om
     refine Il us_Is i7 rfl ea44 g rfl om rfl (eh44 _)<|E0 rfl K4 rfl (fun _ => trivial)<|Ent.b (fun q46 => ?_)<|fun q46 => ?_
     ·refine Yno true rfl<|Eu<|r7 rfl<|v8<|o6<|Et<|Ez Z3<|Em rfl<|Yad rfl om om<|Ei rfl ?_
      exact Eu<|t7 br (g + 1) ⟨rfl, rfl, trivial⟩ (.refl _) ⟨by omega, by grind [V4, d1, d2, t1, t2]⟩ om
     ·refine Yno false rfl<|Eu<|r6 rfl<|Ew Z1<|Ei rfl<|Eu<|E.ret<|u6<|i9<|i9<|u6<|i9<|Fb rfl rfl (by grind [S8, S1, V4, d1, d2, t1, t2])
    ·refine Eu<|r7 rfl<|E.exit<|l4<|l4<|w8<|Et<|Ew Z1<|Ei rfl<|Eu<|E.ret<|Fb rfl rfl (by grind [S8, S1, V4, d1, d2, t1, t2])
  ·refine Dyp 11 rfl (Y.not (b := false) rfl)<|Dyp 12 rfl (L8 rfl rfl)<|Dm 13 rfl<|Dsk 14 rfl<|Dsk 15 rfl<|Dsk 16 rfl<|Dsk 17 rfl<|Dsk 18 rfl<|Dsk 19 rfl<|Dsk 20 rfl<|Dsk 21 rfl<|Dsk 22 rfl<|Dsk 23 rfl<|Dsk 24 rfl<|Dyp 25 rfl (K7 rfl rfl)<|n9 kr<|Et<|r6 rfl<|Ew Z1<|Ei rfl<|Eu<|E.ret<|i9<|Fb rfl rfl (by grind [S8, S1, V4, d1, d2, t1, t2])
 ·refine Dyp 3 rfl (Y.not (b := false) rfl)<|Dm 4 rfl<|Dsk 5 rfl<|Dsk 6 rfl<|Dsk 7 rfl<|Dsk 8 rfl<|Dsk 9 rfl<|Dsk 10 rfl<|Dsk 11 rfl<|Dyp 12 rfl (K7 rfl rfl)<|Dm 13 rfl<|Dsk 14 rfl<|Dsk 15 rfl<|Dsk 16 rfl<|Dsk 17 rfl<|Dsk 18 rfl<|Dsk 19 rfl<|Dsk 20 rfl<|Dsk 21 rfl<|Dsk 22 rfl<|Dsk 23 rfl<|Dsk 24 rfl<|Dyp 25 rfl (K7 rfl rfl)<|n9 kr<|Et<|r6 rfl<|Ew Z1<|Ei rfl<|Eu<|E.ret<|i9<|Fb rfl rfl (by grind [S8, S1, V4, d1, d2, t1, t2])
theorem a3B {a_facts : Option Addr} {m_facts c_facts : Nat} {d6 : List IL} (hma : 0 ≤ q3 ∧ q3.toNat < l.length) (hv : (atM l q3).2.1.length ≤ s6.length) (hif : ∀ f ∈ d6, f.1 = (atM l q3).1 → ∀ i ∈ (atM l q3).2.1, 0 ≤ i ∧ i < f.2.length) (hfl : d6.length ≤ 1048576) (hfe : ∀ f ∈ d6, f.2.length ≤ 1048576) : TL Tryz.prog 72 [.slice a_l m_l c_l, .slice a_facts m_facts c_facts, .agg #[.int .i64 q3, .slice E9 H5 E8]] (fun w L => Ro w L G0 [.slice a_l m_l c_l] l ∧ Ro w L s5 [.slice a_facts m_facts c_facts] d6 ∧ I64 q3 ∧ Ro w L eIs [.slice E9 H5 E8] s6) s5 (d6.filter (W5 (atM l q3) s6)) := by
 refine Ti3 Tryz.func72 17 rfl fun w L hR => ?_
 obtain ⟨hl, hfacts, R8, G1⟩ := hR
 obtain ⟨rfl, ll⟩ := hl.slen
 obtain ⟨rfl, lfacts⟩ := hfacts.slen
 obtain ⟨rfl, a0k⟩ := G1.slen
 rw [S1 hma.2] at hv hif
 refine Ew Z2<|Est rfl (N.box (cs := [_, _]) rfl dc rfl)<|fun b5 _ => Ei rfl<|Ev Z7<|Em rfl<|Lz fo_Access_0 i7 rfl m0 rfl ?_
 obtain ⟨eb11, eo11, ec11, ea11, er11, el11, eh11⟩ := hl.elem q3.toNat om
 obtain ⟨xa11_0, xc11_0, rfl, ei11_0, xh11_0, ei11_2, ei11_3, ei11_4⟩ := P5 er11
 have := xh11_0.slen.2
 refine Ix us_Methods ty_Method rfl ea11 q3.toNat om om<|Ey rfl (k7 (cs := [_, _, _, _, _]) ty_Method rfl (eh11 _) rfl)<|Est rfl (N.alloc ty_Method dc)<|fun b7 _ => Est rfl (Ns [_, _, _, _, _] ty_Method rfl)<|fun _ _ => Ev Z5<|Em rfl<|El rfl (a8V fo hfe) rfl (fun hA => hA.ro hfacts)<|fun a14 c14 l14 => Ey rfl ((Y.fn (vs := [_, _]) rfl).yd)<|Est rfl (N.call (pre := [_]) (a8h (del := (fun z => !W5 l[q3.toNat] s6 z)) (D_del := (fun z => (l[q3.toNat].2.1.length ≤ s6.length) ∧ (z.1 = l[q3.toNat].1 → ∀ i ∈ l[q3.toNat].2.1, 0 ≤ i ∧ i < z.2.length))) (by exact fun f hf => ⟨hv, hif f hf⟩)) rfl rfl rfl dc rfl<|fun w Lp hA => a6y (RR := fun w L => RoPt w L b7 [.int .i64 l[q3.toNat].1, .slice xa11_0 l[q3.toNat].2.1.length xc11_0, .int .i64 l[q3.toNat].2.2.1, .int .i64 l[q3.toNat].2.2.2.1, .int .i64 l[q3.toNat].2.2.2.2] ∧ I64 l[q3.toNat].1 ∧ Ro w L eIs [.slice xa11_0 l[q3.toNat].2.1.length xc11_0] l[q3.toNat].2.1 ∧ I64 l[q3.toNat].2.2.1 ∧ I64 l[q3.toNat].2.2.2.1 ∧ I64 l[q3.toNat].2.2.2.2 ∧ RoPt w L b5 [.int .i64 q3, .slice E9 s6.length E8] ∧ I64 q3 ∧ Ro w L eIs [.slice E9 s6.length E8] s6) (D := (fun z => (l[q3.toNat].2.1.length ≤ s6.length) ∧ (z.1 = l[q3.toNat].1 → ∀ i ∈ l[q3.toNat].2.1, 0 ≤ i ∧ i < z.2.length))) (fun hd => a8P hd.1 hd.2)<|fun w' hk => ⟨(hA.pt m0).keep hk, ei11_0, (hA.ro xh11_0).keep hk, ei11_2, ei11_3, ei11_4, (hA.pt<|mS m0).keep hk, R8, (hA.ro G1).keep hk⟩)<|fun k16 _ => ?_
 obtain ⟨a16, m16, c16⟩ := k16
 refine r8 m0 ?_
 rintro rfl l16
 refine Ei rfl<|Eu<|E.ret<|g9 (congrArg (ow s5 [_]) (show _ = d6.filter (W5 (atM l q3) s6) by rw [S1 hma.2]; exact b5n))<|Fg rfl rfl (_, _, _) rfl rfl
end Go.Proofs.YthapcdhdfaibkaaGreatDoor
end
