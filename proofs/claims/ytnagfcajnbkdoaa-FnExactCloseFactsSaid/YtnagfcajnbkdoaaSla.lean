/- Core of a small separation logic over the walk's own wp: frames as association lists, heaps as lists of assertions with footprints, entailments to weakest preconditions. No program in sight. -/
import Derived.WalkKit
import Derived.Orders
namespace Go.Proofs.Ytnagfcajnbkdoaa
open Go.RowKit

/-! ### frames -/
abbrev Fr := List (Nat × Value)
structure Fr.ok (n : Nat) (fr : Fr) (a : Act) : Prop where
  size : a.tmps.size = n
  defers : a.defers = []
  get : ∀ i v, fr.lookup i = some v → a.tmps[i]? = some v
def ev (fr : Fr) : Operand → Option Value
  | .tmp t => fr.lookup t
  | .const v => some v
  | .global g => some (.pointer (some ⟨g, 0, none⟩))
  | .func f => some (.func (.func f) #[] #[])
theorem Fr.ok.ev {n : Nat} {fr : Fr} {a : Act} {x : Operand} {v : Value} (h : Fr.ok n fr a) (hx : ev fr x = some v) : a.eval x = v := by
  cases x <;> simp only [Go.Proofs.Ytnagfcajnbkdoaa.ev, Option.some.injEq] at hx
  case tmp t =>
    obtain ⟨h1, h2⟩ := Array.getElem?_eq_some_iff.1 (h.get t v hx)
    simp [Act.eval, Array.getD, h1, h2]
  all_goals (subst hx; rfl)
theorem Fr.ok.put {n : Nat} {fr : Fr} {a : Act} (h : Fr.ok n fr a) {d : Nat} (hd : d < n) (v : Value) : Fr.ok n ((d, v) :: fr) (a.put (some d) v) := by
  refine ⟨by simp [Act.put, h.size], h.defers, fun i u hi => ?_⟩
  simp only [Act.put, Array.getElem?_setIfInBounds, h.size]
  rw [List.lookup_cons] at hi
  by_cases e : i = d
  · subst e; simp at hi; subst hi; simp [hd]
  · have : (i == d) = false := by simp [e]
    rw [this] at hi
    rw [if_neg (fun h => e h.symm)]
    exact h.get i u hi
def Fr.sub : Fr → Fr → Prop
  | [], _ => True
  | p :: r, fr => fr.lookup p.1 = some p.2 ∧ Fr.sub r fr
theorem Fr.sub.get : ∀ {fr' fr : Fr}, Fr.sub fr' fr → ∀ i v, fr'.lookup i = some v → fr.lookup i = some v
  | [], _, _, _, _, h => by cases h
  | p :: r, fr, ⟨h1, h2⟩, i, v, h => by
    rw [List.lookup_cons] at h
    by_cases e : i = p.1
    · subst e; simp at h; subst h; exact h1
    · have : (i == p.1) = false := by simp [e]
      rw [this] at h
      exact Fr.sub.get h2 i v h
theorem Fr.ok.weak {n : Nat} {fr fr0 : Fr} {a : Act} (h : Fr.ok n fr0 a) (hs : ∀ i v, fr.lookup i = some v → fr0.lookup i = some v) : Fr.ok n fr a :=
  ⟨h.size, h.defers, fun i v hi => h.get i v (hs i v hi)⟩

/-! ### heaps -/
structure HP where
  holds : World → List Nat → Prop
  stable : ∀ {w w' : World} {L : List Nat}, holds w L → (∀ b ∈ L, w'.heap[b]? = w.heap[b]?) → holds w' L
  inh : ∀ {w : World} {L : List Nat}, holds w L → ∀ b ∈ L, b < w.heap.size
def Sep : List HP → World → List Nat → Prop
  | [], _, L => L = []
  | h :: hs, w, L => ∃ L1 L2, L = L1 ++ L2 ∧ h.holds w L1 ∧ Sep hs w L2
theorem Sep.stable {H : List HP} : ∀ {w w' : World} {L : List Nat}, Sep H w L → (∀ b ∈ L, w'.heap[b]? = w.heap[b]?) → Sep H w' L := by
  induction H with
  | nil => intro w w' L h _; exact h
  | cons h hs ih =>
    rintro w w' L ⟨L1, L2, rfl, h1, h2⟩ hb
    exact ⟨L1, L2, rfl, h.stable h1 fun b hm => hb b (by simp [hm]), ih h2 fun b hm => hb b (by simp [hm])⟩
theorem Sep.inh {H : List HP} : ∀ {w : World} {L : List Nat}, Sep H w L → ∀ b ∈ L, b < w.heap.size := by
  induction H with
  | nil => intro w L h b hb; rw [Sep] at h; subst h; cases hb
  | cons h hs ih =>
    rintro w L ⟨L1, L2, rfl, h1, h2⟩ b hb
    rcases List.mem_append.1 hb with hb | hb
    · exact h.inh h1 b hb
    · exact ih h2 b hb
theorem Sep.append {A B : List HP} : ∀ {w : World} {L : List Nat}, Sep (A ++ B) w L ↔ ∃ L1 L2, L = L1 ++ L2 ∧ Sep A w L1 ∧ Sep B w L2 := by
  induction A with
  | nil =>
    intro w L
    constructor
    · intro h; exact ⟨[], L, rfl, rfl, h⟩
    · rintro ⟨L1, L2, rfl, h1, h2⟩; rw [Sep] at h1; subst h1; exact h2
  | cons h hs ih =>
    intro w L
    constructor
    · rintro ⟨L1, L2, rfl, h1, h2⟩
      obtain ⟨M1, M2, rfl, h3, h4⟩ := ih.1 h2
      exact ⟨L1 ++ M1, M2, by simp, ⟨L1, M1, rfl, h1, h3⟩, h4⟩
    · rintro ⟨L1, L2, rfl, ⟨M1, M2, rfl, h1, h3⟩, h2⟩
      exact ⟨M1, M2 ++ L2, by simp, h1, ih.2 ⟨M2, L2, rfl, h3, h2⟩⟩

/-- from the world w0, of which L0 was owned, to w, of which L is owned -/
structure Step (w0 : World) (L0 : List Nat) (w : World) (L : List Nat) : Prop where
  os : w.os = w0.os
  tape : w.tape = w0.tape
  output : w.output = w0.output
  size : w0.heap.size ≤ w.heap.size
  keep : ∀ b, b < w0.heap.size → b ∉ L0 → w.heap[b]? = w0.heap[b]?
  sub : ∀ b ∈ L, b ∈ L0 ∨ w0.heap.size ≤ b
theorem Step.refl (w : World) (L : List Nat) : Step w L w L := ⟨rfl, rfl, rfl, Nat.le_refl _, fun _ _ _ => rfl, fun _ h => .inl h⟩
theorem Step.below {w0 w : World} {L : List Nat} (h : Step w0 [] w L) : Below w0.heap.size w0 w :=
  ⟨h.os, h.tape, h.output, h.size, fun k hk => h.keep k hk (by simp)⟩
abbrev Ext (w w' : World) : Prop := Below w.heap.size w w'
theorem Ext.trans {a b c : World} (h : Ext a b) (k : Ext b c) : Ext a c := Below.trans h (k.mono h.size)
theorem Ext.rfl' (w : World) : Ext w w := Below.refl _ _
/-- a step inside a step: of L = Lp ++ Lr the first part is handed to somebody who gives Lp' back -/
theorem Step.call {w0 w w' : World} {L0 Lp Lr Lp' : List Nat} (h : Step w0 L0 w (Lp ++ Lr)) (hn : (Lp ++ Lr).Nodup) (hr : ∀ b ∈ Lr, b < w.heap.size)
    (k : Step w Lp w' Lp') (hn' : Lp'.Nodup) : Step w0 L0 w' (Lp' ++ Lr) ∧ (Lp' ++ Lr).Nodup ∧ (∀ b ∈ Lr, w'.heap[b]? = w.heap[b]?) := by
  have hdis : ∀ b ∈ Lr, b ∉ Lp := fun b hb hp => (List.nodup_append.1 hn).2.2 b hp b hb rfl
  refine ⟨⟨k.os.trans h.os, k.tape.trans h.tape, k.output.trans h.output, Nat.le_trans h.size k.size, fun b hb h0 => ?_, fun b hb => ?_⟩, ?_, fun b hb => k.keep b (hr b hb) (hdis b hb)⟩
  · refine (k.keep b (Nat.lt_of_lt_of_le hb h.size) fun hp => ?_).trans (h.keep b hb h0)
    rcases h.sub b (by simp [hp]) with h1 | h1
    · exact h0 h1
    · omega
  · rcases List.mem_append.1 hb with hb | hb
    · rcases k.sub b hb with h1 | h1
      · exact h.sub b (by simp [h1])
      · exact .inr (Nat.le_trans h.size h1)
    · exact h.sub b (by simp [hb])
  · refine List.nodup_append.2 ⟨hn', (List.nodup_append.1 hn).2.1, fun a ha b hb e => ?_⟩
    subst e
    rcases k.sub a ha with h1 | h1
    · exact hdis a hb h1
    · have := hr a hb; omega

/-- the heap's assertion: owned footprints apart, and everything else as at the base -/
def Hp (w0 : World) (L0 : List Nat) (H : List HP) (w : World) : Prop := ∃ L, Sep H w L ∧ L.Nodup ∧ Step w0 L0 w L
theorem Hp.step {w0 w : World} {L0 : List Nat} {H : List HP} (h : Hp w0 L0 H w) : ∃ L, Step w0 L0 w L := let ⟨L, _, _, s⟩ := h; ⟨L, s⟩

def Ent (n : Nat) (w0 : World) (L0 : List Nat) (fr : Fr) (H : List HP) (G : Act → World → Prop) : Prop :=
  ∀ a w, Fr.ok n fr a → Hp w0 L0 H w → G a w

section
variable {n : Nat} {w0 : World} {L0 : List Nat} {fr fr' : Fr} {H H' : List HP} {G G' : Act → World → Prop}
theorem Ent.mono (h : Ent n w0 L0 fr H G) (hg : ∀ a w, G a w → G' a w) : Ent n w0 L0 fr H G' := fun a w h1 h2 => hg a w (h a w h1 h2)
theorem Ent.weak (hs : ∀ i v, fr'.lookup i = some v → fr.lookup i = some v) (h : Ent n w0 L0 fr' H G) : Ent n w0 L0 fr H G :=
  fun a w h1 h2 => h a w (h1.weak hs) h2
theorem Hp.perm {w : World} (hp : H.Perm H') : Hp w0 L0 H w → Hp w0 L0 H' w := by
  rintro ⟨L, hs, hn, hst⟩
  have : ∃ L', Sep H' w L' ∧ L.Perm L' := by
    clear hn hst
    induction hp generalizing L with
    | nil => exact ⟨L, hs, .refl _⟩
    | cons x _ ih =>
      obtain ⟨L1, L2, rfl, h1, h2⟩ := hs
      obtain ⟨L', h3, h4⟩ := ih _ h2
      exact ⟨L1 ++ L', ⟨L1, L', rfl, h1, h3⟩, h4.append_left L1⟩
    | swap x y l =>
      obtain ⟨L1, L2, rfl, h1, M1, M2, rfl, h2, h3⟩ := hs
      exact ⟨M1 ++ (L1 ++ M2), ⟨M1, L1 ++ M2, rfl, h2, L1, M2, rfl, h1, h3⟩, by
        rw [← List.append_assoc, ← List.append_assoc]; exact List.perm_append_comm.append_right M2⟩
    | trans _ _ ih1 ih2 =>
      obtain ⟨L', h3, h4⟩ := ih1 _ hs
      obtain ⟨L'', h5, h6⟩ := ih2 _ h3
      exact ⟨L'', h5, h4.trans h6⟩
  obtain ⟨L', h1, h2⟩ := this
  exact ⟨L', h1, h2.nodup_iff.1 hn, ⟨hst.os, hst.tape, hst.output, hst.size, hst.keep, fun b hb => hst.sub b (h2.mem_iff.2 hb)⟩⟩
theorem Ent.perm (hp : H.Perm H') (h : Ent n w0 L0 fr H' G) : Ent n w0 L0 fr H G := fun a w h1 h2 => h a w h1 (h2.perm hp)
theorem Hp.tail {w : World} {h : HP} (x : Hp w0 L0 (h :: H) w) : Hp w0 L0 H w := by
  obtain ⟨L, ⟨L1, L2, rfl, h1, h2⟩, hn, hst⟩ := x
  exact ⟨L2, h2, (List.nodup_append.1 hn).2.1, ⟨hst.os, hst.tape, hst.output, hst.size, hst.keep, fun b hb => hst.sub b (by simp [hb])⟩⟩
theorem Ent.drop {h : HP} (x : Ent n w0 L0 fr H G) : Ent n w0 L0 fr (h :: H) G := fun a w h1 h2 => x a w h1 h2.tail
theorem Ent.p1 {A B : HP} (x : Ent n w0 L0 fr (B :: A :: H) G) : Ent n w0 L0 fr (A :: B :: H) G := Ent.perm (.swap _ _ _) x
theorem Ent.p2 {A B C : HP} (x : Ent n w0 L0 fr (C :: A :: B :: H) G) : Ent n w0 L0 fr (A :: B :: C :: H) G :=
  Ent.perm (((List.Perm.swap _ _ _).cons A).trans (.swap _ _ _)) x
theorem Ent.p3 {A B C D : HP} (x : Ent n w0 L0 fr (D :: A :: B :: C :: H) G) : Ent n w0 L0 fr (A :: B :: C :: D :: H) G :=
  Ent.perm ((((List.Perm.swap _ _ _).cons B).trans (.swap _ _ _)).cons A |>.trans (.swap _ _ _)) x
theorem Ent.p4 {A B C D E : HP} (x : Ent n w0 L0 fr (E :: A :: B :: C :: D :: H) G) : Ent n w0 L0 fr (A :: B :: C :: D :: E :: H) G :=
  Ent.perm (((((List.Perm.swap _ _ _).cons C).trans (.swap _ _ _)).cons B |>.trans (.swap _ _ _)).cons A |>.trans (.swap _ _ _)) x
theorem Ent.p5 {A B C D E F : HP} (x : Ent n w0 L0 fr (F :: A :: B :: C :: D :: E :: H) G) : Ent n w0 L0 fr (A :: B :: C :: D :: E :: F :: H) G :=
  Ent.perm ((((((List.Perm.swap _ _ _).cons D).trans (.swap _ _ _)).cons C |>.trans (.swap _ _ _)).cons B |>.trans (.swap _ _ _)).cons A |>.trans (.swap _ _ _)) x
theorem Ent.p6 {A B C D E F K : HP} (x : Ent n w0 L0 fr (K :: A :: B :: C :: D :: E :: F :: H) G) : Ent n w0 L0 fr (A :: B :: C :: D :: E :: F :: K :: H) G :=
  Ent.perm (((((((List.Perm.swap _ _ _).cons E).trans (.swap _ _ _)).cons D |>.trans (.swap _ _ _)).cons C |>.trans (.swap _ _ _)).cons B |>.trans (.swap _ _ _)).cons A |>.trans (.swap _ _ _)) x
/-- a fact that the heap gives -/
theorem Ent.pure {p : Prop} (hp : ∀ w, Hp w0 L0 H w → p) (x : p → Ent n w0 L0 fr H G) : Ent n w0 L0 fr H G := fun a w h1 h2 => x (hp w h2) a w h1 h2
theorem Ent.absurd {p : Prop} (h : ¬ p) (hp : p) : Ent n w0 L0 fr H G := (h hp).elim
/-- a test in the newest slot, decided -/
theorem Ent.b {d : Nat} {b : Bool} (ht : b = true → Ent n w0 L0 ((d, .bool true) :: fr) H G) (hf : b = false → Ent n w0 L0 ((d, .bool false) :: fr) H G) : Ent n w0 L0 ((d, .bool b) :: fr) H G := by
  cases b
  · exact hf rfl
  · exact ht rfl
theorem Ent.d {d : Nat} {p : Prop} [Decidable p] (ht : p → Ent n w0 L0 ((d, .bool true) :: fr) H G) (hf : ¬ p → Ent n w0 L0 ((d, .bool false) :: fr) H G) : Ent n w0 L0 ((d, .bool (decide p)) :: fr) H G := by
  by_cases h : p
  · rw [decide_eq_true h]; exact ht h
  · rw [decide_eq_false h]; exact hf h
theorem Ent.v {d : Nat} {v v' : Value} (h : v = v') (x : Ent n w0 L0 ((d, v') :: fr) H G) : Ent n w0 L0 ((d, v) :: fr) H G := h ▸ x
end

/-! ### operations -/
/-- an operation that only yields, in whatever later world -/
def Yd (P : Program) (n : Nat) (w0 : World) (L0 : List Nat) (fr : Fr) (H : List HP) (op : Op) (v : Value) : Prop :=
  ∀ a w, Fr.ok n fr a → Hp w0 L0 H w → ∀ w', Ext w w' → ∀ d t p af g, (execOp a.eval ⟨d, op, t, p, af, g⟩).run P w' = .ok (.value v) w'
/-- an operation that yields in whatever world -/
def Yp (P : Program) (n : Nat) (fr : Fr) (op : Op) (v : Value) : Prop :=
  ∀ a, Fr.ok n fr a → ∀ w', ∀ d t p af g, (execOp a.eval ⟨d, op, t, p, af, g⟩).run P w' = .ok (.value v) w'
theorem Yp.yd {P : Program} {n : Nat} {w0 : World} {L0 : List Nat} {fr : Fr} {H : List HP} {op : Op} {v : Value} (h : Yp P n fr op v) : Yd P n w0 L0 fr H op v :=
  fun a _ h1 _ w' _ => h a h1 w'
/-- an operation that turns the world; q: it leaves all that was there as it was -/
def Nop (P : Program) (Q : Exit → Act → World → Prop) (n : Nat) (w0 : World) (L0 : List Nat) (fr : Fr) (H : List HP) (o : Oper) (q : Bool) {κ : Type} (fr' : κ → Fr) (H' : κ → List HP) (φ : κ → Prop) : Prop :=
  ∀ K : World → Act → World → Prop, (∀ k, φ k → ∀ w a' w', Fr.ok n (fr' k) a' → Hp w0 L0 (H' k) w' → (q = true → Ext w w') → K w a' w') →
    ∀ a w, Fr.ok n fr a → Hp w0 L0 H w → o.wp P a w (K w) Q

/-- what a guard says, where its slot is known -/
def gdOf (ops : Array Oper) (fr : Fr) : Option (Nat × Bool) → Option Bool
  | none => some true
  | some (j, want) => match (ops[j]?).bind (·.dst) with
    | some d => match fr.lookup d with
      | some (.bool b) => some (b == want)
      | some (.tuple _) => some false
      | _ => none
    | none => none
theorem gdOf_wanted {n : Nat} {ops : Array Oper} {fr : Fr} {a : Act} {o : Oper} {b : Bool} (h : Fr.ok n fr a) (hg : gdOf ops fr o.guard = some b) : Region.wanted o (yielded ops a.tmps) = b := by
  unfold gdOf at hg
  unfold Region.wanted
  cases e : o.guard with
  | none => simp only [e] at hg ⊢; simpa using hg
  | some p =>
    obtain ⟨j, want⟩ := p
    simp only [e] at hg ⊢
    split at hg
    · rename_i d hd
      split at hg
      · rename_i b' hb'
        simp only [yielded, hd, Option.bind_some, h.get d _ hb']
        simpa using hg
      · rename_i vs hb'
        simp only [yielded, hd, Option.bind_some, h.get d _ hb']
        simpa using hg
      · cases hg
    · cases hg

section
variable {P : Program} {Q : Exit → Act → World → Prop} {n : Nat} {w0 : World} {L0 : List Nat} {fr : Fr} {H : List HP} {ops : Array Oper} {i : Nat} {rest : List Nat} {op : Op} {d : Nat} {ty : TypeId} {pos : String} {af : Array Edge} {g : Option (Nat × Bool)} {v : Value}
theorem E.nil (h : Ent n w0 L0 fr H (Q .normal)) : Ent n w0 L0 fr H (wpOps P ops Q []) := h
theorem E.y (ho : ops[i]? = some ⟨some d, op, ty, pos, af, g⟩) (hg : gdOf ops fr g = some true) (hd : d < n) (hy : Yd P n w0 L0 fr H op v)
    (h : Ent n w0 L0 ((d, v) :: fr) H (wpOps P ops Q rest)) : Ent n w0 L0 fr H (wpOps P ops Q (i :: rest)) := fun a w h1 h2 => by
  rw [wpOps_cons, wpOp]
  simp only [ho]
  rw [gdOf_wanted (o := ⟨some d, op, ty, pos, af, g⟩) h1 hg, if_pos rfl]
  refine .inl ?_
  rw [Oper.wp, hy a w h1 h2 w (Ext.rfl' w)]
  exact h _ _ (h1.put hd v) h2
theorem E.skip {dst : Option Tmp} (ho : ops[i]? = some ⟨dst, op, ty, pos, af, g⟩) (hg : gdOf ops fr g = some false) (hfr : (dst.bind fun d' => fr.lookup d') = none)
    (h : Ent n w0 L0 fr H (wpOps P ops Q rest)) : Ent n w0 L0 fr H (wpOps P ops Q (i :: rest)) := fun a w h1 h2 => by
  rw [wpOps_cons, wpOp]
  simp only [ho]
  rw [gdOf_wanted (o := ⟨dst, op, ty, pos, af, g⟩) h1 hg, if_neg (by simp)]
  cases dst with
  | none => exact h _ _ h1 h2
  | some d' =>
    refine h _ _ ⟨by simp [Act.put, h1.size], h1.defers, fun i v hi => ?_⟩ h2
    simp only [Act.put, Array.getElem?_setIfInBounds]
    rw [if_neg (fun e => by subst e; simp only [Option.bind_some] at hfr; rw [hfr] at hi; cases hi)]
    exact h1.get i v hi
/-- left out, and known to be -/
theorem E.sku (ho : ops[i]? = some ⟨some d, op, ty, pos, af, g⟩) (hg : gdOf ops fr g = some false) (hd : d < n)
    (h : Ent n w0 L0 ((d, .tuple #[]) :: fr) H (wpOps P ops Q rest)) : Ent n w0 L0 fr H (wpOps P ops Q (i :: rest)) := fun a w h1 h2 => by
  rw [wpOps_cons, wpOp]
  simp only [ho]
  rw [gdOf_wanted (o := ⟨some d, op, ty, pos, af, g⟩) h1 hg, if_neg (by simp)]
  exact h _ _ (h1.put hd _) h2
theorem E.st {dst : Option Tmp} {κ : Type} {fr' : κ → Fr} {H' : κ → List HP} {φ : κ → Prop} {q : Bool} (ho : ops[i]? = some ⟨dst, op, ty, pos, af, g⟩) (hg : gdOf ops fr g = some true)
    (hn : Nop P Q n w0 L0 fr H ⟨dst, op, ty, pos, af, g⟩ q fr' H' φ) (h : ∀ k, φ k → Ent n w0 L0 (fr' k) (H' k) (wpOps P ops Q rest)) : Ent n w0 L0 fr H (wpOps P ops Q (i :: rest)) := fun a w h1 h2 => by
  rw [wpOps_cons, wpOp]
  simp only [ho]
  rw [gdOf_wanted (o := ⟨dst, op, ty, pos, af, g⟩) h1 hg, if_pos rfl]
  exact .inl (hn (fun _ => wpOps P ops Q rest) (fun k hk _ a' w' h3 h4 _ => h k hk a' w' h3 h4) a w h1 h2)

/-! ### code -/
theorem E.region {id : Nat} {l : List Nat} (hl : List.range ops.size = l) (h : Ent n w0 L0 fr H (wpOps P ops Q l)) : Ent n w0 L0 fr H ((Code.region id ops false).wp P Q) := fun a w h1 h2 =>
  wp_region (hl ▸ h a w h1 h2)
theorem E.seq {x y : Code} (h : Ent n w0 L0 fr H (x.wp P (Exit.then (y.wp P Q) Q))) : Ent n w0 L0 fr H ((Code.seq x y).wp P Q) := fun a w h1 h2 => wp_seq (h a w h1 h2)
theorem E.skipc (h : Ent n w0 L0 fr H (Q .normal)) : Ent n w0 L0 fr H (Code.skip.wp P Q) := fun a w h1 h2 => wp_skip (h a w h1 h2)
theorem E.exit {id : Nat} (h : Ent n w0 L0 fr H (Q (.exit id))) : Ent n w0 L0 fr H ((Code.exit id).wp P Q) := fun a w h1 h2 => wp_exit (h a w h1 h2)
theorem E.ret (h : Ent n w0 L0 fr H (Q .ret)) : Ent n w0 L0 fr H (Code.ret.wp P Q) := fun a w h1 h2 => wp_ret (h a w h1 h2)
theorem E.block {id : Nat} {c : Code} (h : Ent n w0 L0 fr H (c.wp P (Exit.inBlock id Q))) : Ent n w0 L0 fr H ((Code.block id c).wp P Q) := fun a w h1 h2 => wp_block (h a w h1 h2)
theorem E.ct {c : Operand} {x y : Code} (hc : ev fr c = some (.bool true)) (h : Ent n w0 L0 fr H (x.wp P Q)) : Ent n w0 L0 fr H ((Code.cond c x y).wp P Q) := fun a w h1 h2 =>
  wp_cond_true (h1.ev hc) (h a w h1 h2)
theorem E.cf {c : Operand} {x y : Code} (hc : ev fr c = some (.bool false)) (h : Ent n w0 L0 fr H (y.wp P Q)) : Ent n w0 L0 fr H ((Code.cond c x y).wp P Q) := fun a w h1 h2 =>
  wp_cond_false (h1.ev hc) (h a w h1 h2)
theorem E.thn {K : Act → World → Prop} (h : Ent n w0 L0 fr H K) : Ent n w0 L0 fr H (Exit.then K Q .normal) := h
theorem E.the {K : Act → World → Prop} {id : Nat} (h : Ent n w0 L0 fr H (Q (.exit id))) : Ent n w0 L0 fr H (Exit.then K Q (.exit id)) := h
theorem E.thr {K : Act → World → Prop} (h : Ent n w0 L0 fr H (Q .ret)) : Ent n w0 L0 fr H (Exit.then K Q .ret) := h
theorem E.bln {id : Nat} (h : Ent n w0 L0 fr H (Q .normal)) : Ent n w0 L0 fr H (Exit.inBlock id Q .normal) := h
theorem E.blr {id : Nat} (h : Ent n w0 L0 fr H (Q .ret)) : Ent n w0 L0 fr H (Exit.inBlock id Q .ret) := h
theorem E.ble {id id' : Nat} {G : Act → World → Prop} (hg : Exit.inBlock id Q (.exit id') = G) (h : Ent n w0 L0 fr H G) : Ent n w0 L0 fr H (Exit.inBlock id Q (.exit id')) := hg ▸ h
theorem E.blh {id : Nat} (h : Ent n w0 L0 fr H (Q .normal)) : Ent n w0 L0 fr H (Exit.inBlock id Q (.exit id)) := fun a w h1 h2 => by
  show (if id = id then Q .normal a w else _); rw [if_pos rfl]; exact h a w h1 h2
theorem E.blm {id id' : Nat} (hne : (Nat.beq id' id) = false) (h : Ent n w0 L0 fr H (Q (.exit id'))) : Ent n w0 L0 fr H (Exit.inBlock id Q (.exit id')) := fun a w h1 h2 => by
  show (if id' = id then _ else Q (.exit id') a w); rw [if_neg (Nat.ne_of_beq_eq_false hne)]; exact h a w h1 h2
theorem E.loop {c : Code} {κ : Type} (φ : κ → Prop) (frk : κ → Fr) (Hk : κ → List HP) (μ : κ → Nat) (k0 : κ) (h0 : φ k0)
    (hfr : Fr.sub (frk k0) fr) (hH : H.Perm (Hk k0))
    (round : ∀ k, φ k → Ent n w0 L0 (frk k) (Hk k) (c.wp P (Exit.then (fun a w => ∃ k', φ k' ∧ Fr.ok n (frk k') a ∧ Hp w0 L0 (Hk k') w ∧ μ k' < μ k) Q))) :
    Ent n w0 L0 fr H ((Code.loop c).wp P Q) := fun a w h1 h2 => by
  have key : ∀ m, ∀ k, μ k ≤ m → φ k → ∀ a w, Fr.ok n (frk k) a → Hp w0 L0 (Hk k) w → (Code.loop c).wp P Q a w := by
    intro m
    intro k hm hk a w h1 h2
    refine wp_loop (fun a w => ∃ k, φ k ∧ Fr.ok n (frk k) a ∧ Hp w0 L0 (Hk k) w) (fun a w => @Classical.epsilon Nat ⟨0⟩ fun j => (∃ k, φ k ∧ Fr.ok n (frk k) a ∧ Hp w0 L0 (Hk k) w ∧ μ k = j) ∧ ∀ k, φ k → Fr.ok n (frk k) a → Hp w0 L0 (Hk k) w → j ≤ μ k) ⟨k, hk, h1, h2⟩ ?_
    rintro a w ⟨k, hk, h1, h2⟩
    have least : ∀ a w, (∃ k, φ k ∧ Fr.ok n (frk k) a ∧ Hp w0 L0 (Hk k) w) → ∃ j, (∃ k, φ k ∧ Fr.ok n (frk k) a ∧ Hp w0 L0 (Hk k) w ∧ μ k = j) ∧ ∀ k, φ k → Fr.ok n (frk k) a → Hp w0 L0 (Hk k) w → j ≤ μ k := by
      rintro a w ⟨k, hk, h1, h2⟩
      have : ∀ m, ∀ k, μ k ≤ m → φ k → Fr.ok n (frk k) a → Hp w0 L0 (Hk k) w → ∃ j, (∃ k, φ k ∧ Fr.ok n (frk k) a ∧ Hp w0 L0 (Hk k) w ∧ μ k = j) ∧ ∀ k, φ k → Fr.ok n (frk k) a → Hp w0 L0 (Hk k) w → j ≤ μ k := by
        intro m
        induction m with
        | zero => intro k hm hk h1 h2; exact ⟨0, ⟨k, hk, h1, h2, by omega⟩, fun _ _ _ _ => Nat.zero_le _⟩
        | succ m ih =>
          intro k hm hk h1 h2
          by_cases hx : ∃ k', φ k' ∧ Fr.ok n (frk k') a ∧ Hp w0 L0 (Hk k') w ∧ μ k' < μ k
          · obtain ⟨k', a1, a2, a3, a4⟩ := hx
            exact ih k' (by omega) a1 a2 a3
          · exact ⟨μ k, ⟨k, hk, h1, h2, rfl⟩, fun k' a1 a2 a3 => Nat.le_of_not_lt fun h => hx ⟨k', a1, a2, a3, h⟩⟩
      exact this _ k (Nat.le_refl _) hk h1 h2
    obtain ⟨⟨k1, b1, b2, b3, b4⟩, b5⟩ := Classical.epsilon_spec (least a w ⟨k, hk, h1, h2⟩)
    refine Code.wp_mono (fun e a' w' q => ?_) (round k1 b1 a w b2 b3)
    cases e <;> try exact q
    obtain ⟨k', c1, c2, c3, c4⟩ := q
    obtain ⟨_, d5⟩ := Classical.epsilon_spec (least a' w' ⟨k', c1, c2, c3⟩)
    exact ⟨⟨k', c1, c2, c3⟩, Nat.lt_of_le_of_lt (d5 k' c1 c2 c3) (b4 ▸ c4)⟩
  exact key _ k0 (Nat.le_refl _) h0 a w (h1.weak hfr.get) (h2.perm hH)
/-- the round's end -/
theorem E.again {wb : World} {Lb : List Nat} (hb : ∀ X w, Hp w0 L0 X w → Hp wb Lb X w) {κ : Type} {φ : κ → Prop} {frk : κ → Fr} {Hk : κ → List HP} {μ : κ → Nat} {m : Nat} (k' : κ) (hfr : Fr.sub (frk k') fr) (hH : H.Perm (Hk k')) (hk : φ k') (hm : μ k' < m) : Ent n w0 L0 fr H (fun a w => ∃ k', φ k' ∧ Fr.ok n (frk k') a ∧ Hp wb Lb (Hk k') w ∧ μ k' < m) := fun _ _ h1 h2 =>
  ⟨k', hk, h1.weak hfr.get, hb _ _ (h2.perm hH), hm⟩
end
end Go.Proofs.Ytnagfcajnbkdoaa
