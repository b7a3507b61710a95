import Derived.Test.YthapcdhdfaibkaaGreatDoorDy
namespace Go.Proofs.YthapcdhdfaibkaaGreatDoor
set_option linter.unusedVariables false
set_option linter.unusedSimpArgs false
abbrev Acs := Int × List Int
abbrev Rch := List Fct × List Int × List Acs × Int
def M5 (l : List Mth) (a8 : List Fct) (a : Acs) : List Fct := a8.filter (v7 (atM l a.1) a.2)
def U4 (l : List Mth) (a8 : List Fct) (F : List Fct) (a : Acs) : List Fct := (M5 l a8 a).foldl w4 F
def wvI (v : List Int) (f : Fct) : List Int := H6 ((v ++ f.2).filter fun t => inR t 0 9)
def pvI (v : List Int) (f : Fct) : List Int := f.2.foldl E4 v
def b7y (l : List Mth) (a8 : List Fct) (v : List Int) (a : Acs) : List Int := (M5 l a8 a).foldl wvI v
def U3 (l : List Mth) (a8 : List Fct) (v : List Int) (a : Acs) : List Int := (M5 l a8 a).foldl pvI v
def a4X (n : Nat) : Int := if 0 < n then 1 else 0
def O0 (l : List Mth) (r : Rch) : List Acs := c8 r.2.1 r.2.2.1 l 0
def M7 (l : List Mth) (a8 : List Fct) (r : Rch) : Rch :=
 ((O0 l r).foldl (U4 l a8) r.1, (O0 l r).foldl (U3 l a8) r.2.1, r.2.2.1 ++ O0 l r, r.2.2.2 + a4X (O0 l r).length)
-- order
theorem a7B {α : Type} {r : α → α → Bool} : ∀ {l : List α}, l.Pairwise (fun a b => r a b = true) → E6 r l = true
 | [], _ => rfl
 | [_], _ => rfl
 | a :: b :: l, h => by
  rw [List.pairwise_cons] at h
  rw [E6, h.1 b (by simp), a7B h.2]; rfl
theorem a7E {α : Type} {r : α → α → Bool} (tr : ∀ a b c, r a b = true → r b c = true → r a c = true) : ∀ {l : List α}, E6 r l = true → l.Pairwise (fun a b => r a b = true)
 | [], _ => .nil
 | [_], _ => by simp
 | a :: b :: l, h => by
  simp only [E6, Bool.and_eq_true] at h
  have h2 := a7E tr h.2
  rw [List.pairwise_cons]
  refine ⟨fun c hc => ?_, h2⟩
  rw [List.pairwise_cons] at h2
  rcases List.mem_cons.1 hc with rfl | hc
  ·exact h.1
  ·exact tr _ _ _ h.1 (h2.1 c hc)
theorem b5Q {α : Type} {r : α → α → Bool} {f : α} (tr : ∀ a b c, r a b = true → r b c = true → r a c = true) : ∀ {l : List α}, l.Pairwise (fun a b => r a b = true) → (∀ y ∈ l, r f y = false → r y f = true) →
  (if (l.any (r f)) then O5 (r f) f l else l ++ [f]).Pairwise (fun a b => r a b = true) ∧ ∀ y, y ∈ (if (l.any (r f)) then O5 (r f) f l else l ++ [f]) → y ∈ l ∨ y = f := by
 intro l
 induction l with
 | nil => intro _ _; simp
 | cons z l ih =>
  intro h ht
  rw [List.pairwise_cons] at h
  have ih' := ih h.2 fun y hy => ht y (by simp [hy])
  cases hz : r f z
  ·simp only [List.any_cons, hz, Bool.false_or, O5, Bool.false_eq_true, if_false]
   have e : (if (l.any (r f)) then z :: O5 (r f) f l else z :: l ++ [f]) = z :: (if (l.any (r f)) then O5 (r f) f l else l ++ [f]) := by split <;> simp
   rw [e]
   refine ⟨?_, fun y hy => ?_⟩
   ·rw [List.pairwise_cons]
    refine ⟨fun y hy => ?_, ih'.1⟩
    rcases ih'.2 y hy with hy | rfl
    ·exact h.1 y hy
    ·exact ht z (by simp) hz
   ·rcases List.mem_cons.1 hy with rfl | hy
    ·simp
    ·rcases ih'.2 y hy with hy | rfl
     ·simp [hy]
     ·simp
  ·simp only [List.any_cons, hz, Bool.true_or, if_true, O5]
   refine ⟨?_, fun y hy => by simp only [List.mem_cons] at hy ⊢; rcases hy with h | h | h <;> simp [h]⟩
   rw [List.pairwise_cons, List.pairwise_cons]
   refine ⟨fun y hy => ?_, h⟩
   rcases List.mem_cons.1 hy with rfl | hy
   ·exact hz
   ·exact tr _ _ _ hz (h.1 y hy)
theorem b2x {a b c : Int} : U5 a b < 0 → U5 b c < 0 → U5 a c < 0 := by unfold U5; grind
theorem a2d {a b : Int} : U5 a b = 0 ↔ a = b := by unfold U5; grind
theorem b2n : ∀ {a b c : List Int}, L7 a b < 0 → L7 b c < 0 → L7 a c < 0
 | [], [], c, h, _ => by simp [L7] at h
 | [], _ :: _, [], _, h => by simp [L7] at h
 | [], _ :: _, _ :: _, _, _ => by simp [L7]
 | _ :: _, [], _, h, _ => by simp [L7] at h
 | _ :: _, _ :: _, [], _, h => by simp [L7] at h
 | x :: a, y :: b, z :: c, h1, h2 => by
  have h3 := b2n (a := a) (b := b) (c := c)
  have h4 := b2x (a := x) (b := y) (c := z)
  have h5 := a2d (a := x) (b := y)
  have h6 := a2d (a := y) (b := z)
  have h7 := a2d (a := x) (b := z)
  unfold L7 at h1 h2 ⊢; grind
theorem b6R {a b c : Fct} (h1 : J2 a b < 0) (h2 : J2 b c < 0) : J2 a c < 0 := by
 have h3 := b2n (a := a.2) (b := b.2) (c := c.2)
 have h4 := b2x (a := a.1) (b := b.1) (c := c.1)
 have h5 := a2d (a := a.1) (b := b.1)
 have h6 := a2d (a := b.1) (b := c.1)
 have h7 := a2d (a := a.1) (b := c.1)
 unfold J2 at h1 h2 ⊢; grind
abbrev a1H (l : List Fct) : Prop := l.Pairwise (fun a b => ltF a b = true)
theorem b1F {l : List Fct} {f : Fct} (h : a1H l) : a1H (w4 l f) := by
 cases hh : F3 l f
 ·rw [w4, hh, a0c, if_neg (by decide)]
  refine (b5Q (fun a b c h1 h2 => ?_) h fun y hy hf => ?_).1
  ·simp only [ltF, decide_eq_true_eq] at h1 h2 ⊢; exact b6R h1 h2
  ·simp only [ltF, decide_eq_false_iff_not, decide_eq_true_eq] at hf ⊢
   have h1 := b1v (a := f) (b := y)
   rcases Int.lt_or_eq_of_le (show J2 y f ≤ 0 by omega) with h2 | h2
   ·exact h2
   ·rw [a0y] at h2
    subst h2
    rw [V8.2 hy] at hh; cases hh
 ·rw [a4q hh]; exact h
theorem a7I : ∀ {m x : List Fct}, a1H x → a1H (m.foldl w4 x)
 | [], _, h => h
 | f :: m, x, h => a7I (m := m) (b1F h)
theorem a8G {l : List Fct} (h : a1H l) : l.Nodup :=
 h.imp fun {a b} hab e => by subst e; simp [ltF, a0y.2 rfl] at hab
theorem a2S {v : List Int} (h : v.Pairwise (· < ·)) (h2 : ∀ x ∈ v, 0 ≤ x ∧ x ≤ 9) : O6 v = true := by
 rw [O6, a7B (h.imp fun {a b} hab => by simpa [ltB] using hab), a6Y h2]; rfl
theorem a0z {v : List Int} (h : O6 v = true) : v.Pairwise (· < ·) ∧ ∀ x ∈ v, 0 ≤ x ∧ x ≤ 9 := by
 simp only [O6, Bool.and_eq_true] at h
 refine ⟨(a7E (fun a b c h1 h2 => ?_) h.1).imp fun {a b} hab => by simpa [ltB] using hab, a2T h.2⟩
 simp only [ltB, decide_eq_true_eq] at h1 h2 ⊢; omega
-- values
theorem a7H {v : List Int} {f : Fct} (h : v.Pairwise (· < ·)) : (pvI v f).Pairwise (· < ·) ∧ ∀ y, y ∈ pvI v f ↔ y ∈ v ∨ y ∈ f.2 := a2K h
theorem b6w {v : List Int} {f : Fct} (h : O6 v = true) (hf : ∀ x ∈ f.2, 0 ≤ x ∧ x ≤ 9) : wvI v f = pvI v f := by
 obtain ⟨h1, h2⟩ := a0z h
 have h3 := a7H (f := f) h1
 refine a7m a2w h3.1 fun x => ?_
 rw [wvI, a1s, List.mem_filter, h3.2 x, List.mem_append]
 refine ⟨fun h => h.1, fun h => ⟨h, ?_⟩⟩
 simp only [inR, decide_eq_true_eq]
 rcases h with h | h
 ·exact h2 x h
 ·exact hf x h
theorem b7q {v : List Int} {f : Fct} (h : O6 v = true) (hf : ∀ x ∈ f.2, 0 ≤ x ∧ x ≤ 9) : O6 (pvI v f) = true := by
 obtain ⟨h1, h2⟩ := a0z h
 have h3 := a7H (f := f) h1
 refine a2S h3.1 fun x hx => ?_
 rcases (h3.2 x).1 hx with hx | hx
 ·exact h2 x hx
 ·exact hf x hx
theorem a6B {m : List Fct} : ∀ {v : List Int}, O6 v = true → (∀ f ∈ m, ∀ x ∈ f.2, 0 ≤ x ∧ x ≤ 9) → m.foldl wvI v = m.foldl pvI v ∧ O6 (m.foldl pvI v) = true := by
 induction m with
 | nil => intro v h _; exact ⟨rfl, h⟩
 | cons f m ih =>
  intro v h hf
  have h1 := hf f (by simp)
  have h2 := ih (b7q h h1) fun f hm => hf f (by simp [hm])
  rw [List.foldl_cons, List.foldl_cons, b6w h h1]
  exact h2
theorem a9L {l : List Mth} {a8 : List Fct} (hf : ∀ f ∈ a8, ∀ x ∈ f.2, 0 ≤ x ∧ x ≤ 9) {o : List Acs} : ∀ {v : List Int}, O6 v = true → o.foldl (b7y l a8) v = o.foldl (U3 l a8) v ∧ O6 (o.foldl (U3 l a8) v) = true := by
 induction o with
 | nil => intro v h; exact ⟨rfl, h⟩
 | cons a o ih =>
  intro v h
  have h1 := a6B (m := M5 l a8 a) h fun f hm => hf f (List.mem_filter.1 hm).1
  have h2 := ih (v := U3 l a8 v a) h1.2
  rw [List.foldl_cons, List.foldl_cons, show b7y l a8 v a = U3 l a8 v a from h1.1]
  exact h2
theorem a5I {s : List Int} {a8 : List Fct} (h : D7 s a8 = true) : ∀ f ∈ a8, ∀ x ∈ f.2, 0 ≤ x ∧ x ≤ 9 := fun f hf => a0X ((J5 h).2 f hf)
theorem b7t {v : List Int} {f : Fct} : (wvI v f).length ≤ 10 :=
 V2 (a2S a2w fun x hx => by
  simp only [wvI, a1s, List.mem_filter] at hx
  simpa [inR] using hx.2)
theorem b2Q {m : List Fct} : ∀ {v : List Int}, v.length ≤ 10 → (m.foldl wvI v).length ≤ 10 := by
 induction m with
 | nil => intro v h; exact h
 | cons f m ih => intro v h; exact ih b7t
-- facts
theorem b5O {l : List Mth} {a8 : List Fct} {a : Acs} : (M5 l a8 a).length ≤ a8.length := List.length_filter_le _ _
theorem b5r {l : List Mth} {a8 : List Fct} : ∀ {o : List Acs} {F : List Fct}, (o.foldl (U4 l a8) F).length ≤ F.length + o.length * a8.length := by
 intro o
 induction o with
 | nil => intro F; simp
 | cons a o ih =>
  intro F
  have h1 := ih (F := U4 l a8 F a)
  have h2 := a2C (m := M5 l a8 a) (x := F)
  have h3 := b5O (l := l) (a8 := a8) (a := a)
  simp only [List.foldl_cons, List.length_cons, Nat.succ_mul]
  unfold U4 at h1 ⊢; omega
theorem b1K {l : List Mth} {a8 : List Fct} : ∀ {o : List Acs} {F : List Fct} {f : Fct}, f ∈ o.foldl (U4 l a8) F → f ∈ F ∨ f ∈ a8 := by
 intro o
 induction o with
 | nil => intro F f h; exact .inl h
 | cons a o ih =>
  intro F f h
  rcases ih (F := U4 l a8 F a) h with h | h
  ·rcases (a3y f).1 h with h | h
   ·exact .inl h
   ·exact .inr (List.mem_filter.1 h).1
  ·exact .inr h
theorem b5F {l : List Mth} {a8 : List Fct} : ∀ {o : List Acs} {F : List Fct}, a1H F → a1H (o.foldl (U4 l a8) F) := by
 intro o
 induction o with
 | nil => intro F h; exact h
 | cons a o ih => intro F h; exact ih (a7I h)
theorem b6I {l : List Mth} {a8 F : List Fct} {o : List Acs} {n : Nat} (hF : ∀ f ∈ F, f.2.length ≤ n) (hf : ∀ f ∈ a8, f.2.length ≤ n) : ∀ f ∈ o.foldl (U4 l a8) F, f.2.length ≤ n := fun f h => (b1K h).elim (hF f) (hf f)
-- the accesses
theorem a5D {j5 : List Int} : ∀ {t : Nat}, ∀ l ∈ o2 j5 t, ∀ x ∈ l, x ∈ j5
 | 0, l, h, x, hx => by simp [o2] at h; subst h; cases hx
 | t + 1, l, h, x, hx => by
  simp only [o2, List.mem_flatMap, List.mem_map] at h
  obtain ⟨y, hy, v, hv, rfl⟩ := h
  rcases List.mem_append.1 hx with hx | hx
  ·exact a5D y hy x hx
  ·obtain rfl := List.mem_singleton.1 hx; exact hv
theorem b3K {j5 : List Int} {log : List Acs} : ∀ {l : List Mth} {i : Int} {a : Acs}, a ∈ c8 j5 log l i → i ≤ a.1 ∧ ∃ h : (a.1 - i).toNat < l.length, a.2.length = l[(a.1 - i).toNat].2.1.length ∧ (∀ x ∈ a.2, x ∈ j5) ∧ Q5 log a = false
 | [], _, a, h => by simp [c8] at h
 | m :: l, i, a, h => by
  simp only [c8, List.mem_append] at h
  rcases h with h | h
  ·split at h
   ·cases h
   ·simp only [N0, List.mem_map, List.mem_filter] at h
    obtain ⟨v, ⟨hv, hn⟩, rfl⟩ := h
    refine ⟨Int.le_refl _, by simp, ?_, a5D v hv, by simpa using hn⟩
    simp only [Int.sub_self, Int.toNat_zero, List.getElem_cons_zero]
    exact M4 v hv
  ·obtain ⟨h1, h2, h3, h4, h5⟩ := b3K (l := l) h
   have e : (a.1 - i).toNat = (a.1 - (i + 1)).toNat + 1 := by omega
   refine ⟨by omega, by simp only [List.length_cons]; omega, ?_, h4, h5⟩
   simp only [e, List.getElem_cons_succ]; exact h3
theorem a4b {j5 : List Int} {log : List Acs} {l : List Mth} {g : Nat} (hg : g < (c8 j5 log l 0).length) :
  (0 ≤ (c8 j5 log l 0)[g].1 ∧ (c8 j5 log l 0)[g].1.toNat < l.length) ∧ (c8 j5 log l 0)[g].2.length = (atM l (c8 j5 log l 0)[g].1).2.1.length := by
 obtain ⟨h1, h2, h3, _⟩ := b3K (List.getElem_mem hg)
 rw [Int.sub_zero] at h2
 simp only [Int.sub_zero] at h3
 exact ⟨⟨h1, h2⟩, by rw [D0 h2]; exact h3⟩
theorem b7u {s : List Int} {l : List Mth} {a8 : List Fct} {i : Int} (h : B3 s l = true) (hf : D7 s a8 = true) (hi : 0 ≤ i ∧ i.toNat < l.length) : ∀ f ∈ a8, f.1 = (atM l i).1 → ∀ j ∈ (atM l i).2.1, 0 ≤ j ∧ j < f.2.length := by
 rw [D0 hi.2]
 exact fun f hm e => a4Y (a5a h _ (List.getElem_mem _)) ((J5 hf).2 f hm) e
theorem a9Z {α β : Type} {f : β → α → β} {l : List α} {b : β} {g : Nat} (h : g < l.length) : f ((l.take g).foldl f b) l[g] = (l.take (g + 1)).foldl f b := by rw [List.take_succ_eq_append_getElem h, List.foldl_append]; rfl
-- a step of a state
def O7 (s : List Int) (l : List Mth) (a8 : List Fct) (r : Rch) : Bool := B3 s l && (D7 s a8 && (D7 s r.1 && (O6 r.2.1 && inR r.2.2.2 0 100)))
def C8 (s : List Int) (l : List Mth) (a8 : List Fct) (r : Rch) : Rch := if O7 s l a8 r then M7 l a8 r else r
def H7 (s : List Int) (l : List Mth) (a8 : List Fct) (r : Rch) : Bool := O7 s l a8 r && decide (0 < (O0 l r).length)
section
variable {l : List Mth} {a8 F : List Fct} {V : List Int} {A : List Acs} {N : Int} {g : Nat}
theorem a2q (h : ¬ g < (c8 V A l 0).length) : A ++ (c8 V A l 0).take g = (M7 l a8 (F, V, A, N)).2.2.1 := congrArg (A ++ ·) (List.take_of_length_le (Nat.le_of_not_lt h))
theorem a2r (h : ¬ g < (c8 V A l 0).length) : ((c8 V A l 0).take g).foldl (U4 l a8) F = (M7 l a8 (F, V, A, N)).1 := by rw [List.take_of_length_le (Nat.le_of_not_lt h)]; rfl
theorem a2t (h : ¬ g < (c8 V A l 0).length) : ((c8 V A l 0).take g).foldl (U3 l a8) V = (M7 l a8 (F, V, A, N)).2.1 := by rw [List.take_of_length_le (Nat.le_of_not_lt h)]; rfl
theorem W3 (h : ((c8 V A l 0).length : Int) = 0) : N = (M7 l a8 (F, V, A, N)).2.2.2 := by
 have h1 : (c8 V A l 0) = [] := List.eq_nil_of_length_eq_zero (by omega)
 simp [M7, O0, h1, a4X]
theorem W4 (h : ¬ ((c8 V A l 0).length : Int) = 0) : N + 1 = (M7 l a8 (F, V, A, N)).2.2.2 := by
 have h1 : 0 < (c8 V A l 0).length := by omega
 simp [M7, O0, a4X, h1]
end
-- states that are reached
def x5 (l : List Mth) (a8 : List Fct) (d6 : List Int) : Nat → Rch
 | 0 => ([], H6 (d6.filter fun t => inR t 0 9), [], 0)
 | n + 1 => M7 l a8 (x5 l a8 d6 n)
def b0H (l : List Mth) (a8 : List Fct) (r : Rch) : Nat → Rch → Bool
 | 0, x => decide (x = r)
 | n + 1, x => decide (x = r) || (decide (0 < (O0 l x).length) && b0H l a8 r n (M7 l a8 x))
def b3i (s : List Int) (l : List Mth) (a8 : List Fct) (d6 : List Int) (r : Rch) : Bool := (B3 s l && D7 s a8) && b0H l a8 r 40 (x5 l a8 d6 0)
theorem b2i : ∀ {a b : List Fct}, a.Nodup → (∀ x ∈ a, x ∈ b) → a.length ≤ b.length
 | [], _, _, _ => by simp
 | x :: a, b, hn, h => by
  rw [List.nodup_cons] at hn
  have h1 := b2i (a := a) (b := b.erase x) hn.2 fun y hy => (List.mem_erase_of_ne (fun e => hn.1 (by rw [← e]; exact hy))).2 (h y (by simp [hy]))
  have h2 := List.length_erase_of_mem (h x (by simp))
  have h3 := List.length_pos_of_mem (h x (by simp))
  simp only [List.length_cons]; omega
structure rInv (s : List Int) (l : List Mth) (a8 : List Fct) (n : Nat) (x : Rch) : Prop where
 asc : a1H x.1
 sub : ∀ f ∈ x.1, f ∈ a8
 flen : x.1.length ≤ 24
 fel : ∀ f ∈ x.1, f.2.length ≤ 3
 vals : O6 x.2.1 = true
 log : x.2.2.1.length ≤ 5000 * n
 loge : ∀ a ∈ x.2.2.1, a.2.length ≤ 3
 rounds : 0 ≤ x.2.2.2 ∧ x.2.2.2 ≤ n
theorem b4s {s : List Int} {l : List Mth} {a8 : List Fct} {d6 : List Int} : rInv s l a8 0 (x5 l a8 d6 0) := by
 refine ⟨.nil, by simp [x5], by simp [x5], by simp [x5], a2S a2w fun x hx => ?_, by simp [x5], by simp [x5], by simp [x5]⟩
 simp only [x5, a1s, List.mem_filter] at hx
 simpa [inR] using hx.2
theorem b4u {s : List Int} {l : List Mth} {a8 : List Fct} {n : Nat} {x : Rch} (hm : B3 s l = true) (hf : D7 s a8 = true) (h : rInv s l a8 n x) : rInv s l a8 (n + 1) (M7 l a8 x) := by
 obtain ⟨h1, h2, _, _, h3, h4, h5, h6⟩ := h
 obtain ⟨m1, m2⟩ := a2s hm
 have o1 := a2J (j5 := x.2.1) (log := x.2.2.1) (i := 0) (V2 h3) m1
 have e1 : ∀ f ∈ (M7 l a8 x).1, f ∈ a8 := fun f hf => (b1K hf).elim (h2 f) id
 have e2 : a1H (M7 l a8 x).1 := b5F h1
 refine ⟨e2, e1, Nat.le_trans (b2i (a8G e2) e1) (J5 hf).1, fun f h => H3 ((J5 hf).2 f (e1 f h)), (a9L (a5I hf) h3).2, ?_, fun a ha => ?_, ?_⟩
 ·simp only [M7, O0, List.length_append]; omega
 ·rcases List.mem_append.1 ha with ha | ha
  ·exact h5 a ha
  ·exact a9A m1 a ha
 ·simp only [M7, a4X]; split <;> omega
def c0x (s : List Int) (l : List Mth) (a8 : List Fct) (d6 : List Int) (r : Rch) (g : Nat) : Prop :=
 b3i s l a8 d6 r = b0H l a8 r (40 - g) (x5 l a8 d6 g) ∧ rInv s l a8 g (x5 l a8 d6 g)
section
variable {s : List Int} {l : List Mth} {a8 : List Fct} {d6 : List Int} {r : Rch} {g : Nat}
def c0Q (s : List Int) (l : List Mth) (a8 : List Fct) (d6 : List Int) (r : Rch) (g : Nat) : Prop :=
 (g ≤ 40 → b3i s l a8 d6 r = ((B3 s l && D7 s a8) && b0H l a8 r (40 - g) (x5 l a8 d6 g))) ∧ (40 < g → b3i s l a8 d6 r = false) ∧ (0 < g → B3 s l = true ∧ D7 s a8 = true) ∧ rInv s l a8 g (x5 l a8 d6 g)
end
end Go.Proofs.YthapcdhdfaibkaaGreatDoor
