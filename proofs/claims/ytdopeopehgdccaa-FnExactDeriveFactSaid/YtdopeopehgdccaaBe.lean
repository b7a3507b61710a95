import Derived.Test.YtdopeopehgdccaaBd
import Derived.Lib.AppendZerosOnto
import Derived.Lib.Overlaps
import Derived.Test.YtdopeopehgdccaaBb
namespace Go.Proofs.Ytdopeopehgdccaa
open Go.RowKit
set_option linter.unusedVariables false
section
variable {P : Program} {Q : Exit → Act → World → Prop} {n : Nat} {w0 : World} {L0 : List Nat} {fr : Fr} {H R : List HP} {d : Nat} {ty : TypeId} {pos : String} {af : Array Edge} {g : Option (Nat × Bool)}
theorem Y.cap {x : Operand} {T e : TypeId} {ad : Option Addr} {m c : Nat} (hT : P.underlying T = some (.slice e)) (hx : ev fr x = some (.slice ad m c)) :
    Yp P n fr (.call ⟨.builtin .cap, #[x], #[T]⟩) (.int .i64 c) := fun a h w' d t p af g => by
  simp [execOp, resolve, invoke, builtin, Builtin.cap_, h.ev hx, run_underlying hT, goInt]
end
section
variable {n : Nat} {w0 : World} {L0 : List Nat} {fr : Fr} {H R : List HP} {G : Act → World → Prop} {α : Type} {E : Enc α} {e : TypeId} {a : Option Addr} {m c k : Nat} {xs ys : List α} {cs vcs : List Value}
end
end Go.Proofs.Ytdopeopehgdccaa

namespace Go.Proofs.Ytdopeopehgdccaa
open Go.RowKit
set_option linter.unusedVariables false
section
variable {w0 : World} {L0 : List Nat} {H : List HP} {e : TypeId} {k m c g : Nat} {cs news rest : List Value}
end
end Go.Proofs.Ytdopeopehgdccaa

namespace Go.Proofs.Ytdopeopehgdccaa
open Go.RowKit
set_option linter.unusedVariables false
section
variable {P : Program} {Q : Exit → Act → World → Prop} {n : Nat} {w0 : World} {L0 : List Nat} {fr : Fr} {H R : List HP} {d : Nat} {ty : TypeId} {pos : String} {af : Array Edge} {g : Option (Nat × Bool)}
end
section
variable {P : Program} {Q : Exit → Act → World → Prop} {n : Nat} {w0 : World} {L0 : List Nat} {fr : Fr} {H : List HP} {ops : Array Oper} {qt : Nat → Bool} {fuel : Nat} {listed : Array Bool}
end
end Go.Proofs.Ytdopeopehgdccaa

namespace Go.Proofs.Ytdopeopehgdccaa
open Go.RowKit
set_option linter.unusedVariables false
def x6 (P : Program) (ops : Array Oper) (Q : Exit → Act → World → Prop) (R : World → World → Prop) (qt : Nat → Bool) : Nat → Array Bool → Act → World → Prop
  | 0, listed, a, w => Region.ready .any ops listed = [] ∧ Q .normal a w
  | fuel + 1, listed, a, w =>
    (Region.ready .any ops listed = [] → Q .normal a w) ∧
    ∀ i ∈ Region.ready .any ops listed, wpOp P ops Q i (fun a' w' => (qt i = true → R w w') ∧ x6 P ops Q R qt fuel (listed.setIfInBounds i true) a' w') a w
section
variable {P : Program} {Q : Exit → Act → World → Prop} {ops : Array Oper} {qt : Nat → Bool}
theorem Y8 {R : World → World → Prop} : ∀ (fuel : Nat) (listed : Array Bool) (a : Act) (w : World), x6 P ops Q R qt fuel listed a w → wpAny P .any ops Q fuel listed a w
  | 0, _, _, _, h => h
  | fuel + 1, _, _, _, h => ⟨h.1, fun i hi => wpOp_mono (fun a' w' h' => Y8 fuel _ a' w' h'.2) (h.2 i hi)⟩
/-- The theorem: i may come up; it yields v in every world of S; all that has not come up and does not wait for it leaves the world in S. -/
theorem S4 {R S : World → World → Prop} (hRr : ∀ w, R w w) (hSr : ∀ w, S w w) (hSt : ∀ a b c, S a b → S b c → S a c) {i : Nat} {oi : Oper} {v : Value} (hi : ops[i]? = some oi)
    (hsel : ∀ (j : Nat) (o : Oper) cs b, ops[j]? = some o → o.op ≠ .select cs b)
    (hQ : ∀ c a w, Q (.panic c) (a.put oi.dst v) w → Q (.panic c) a w)
    (hq : (∀ j, qt j = true ∨ y5 ops i ops.size j = true ∨ ops[j]? = none) ∧ (∀ a b, R a b → S a b) ∨ ∀ a b, S a b) :
    ∀ (fuel : Nat) (listed : Array Bool) (a : Act) (w : World), I7 ops listed →
      (∀ j oj, ops[j]? = some oj → j ≠ i → listed.getD j true = false → (∀ e ∈ oj.after, Region.binds .any e = true → e.on ≠ i) → oi.apart ops oj = true) →
      i ∈ Region.ready .any ops listed → o1 P ops (S w) oi v a →
      x6 P ops Q R qt fuel (listed.setIfInBounds i true) (a.put oi.dst v) w → (qt i = true → R w w) → x6 P ops Q R qt (fuel + 1) listed a w := by
  intro fuel
  induction fuel with
  | zero =>
    intro listed a w _ _ hr hy H hE
    refine ⟨fun h => (by rw [h] at hr; cases hr), fun j hj => ?_⟩
    by_cases hji : j = i
    · subst hji; exact hy.wpOp hi (hSr w) ⟨hE, H⟩
    · have := ready_mono hj hji
      rw [H.1] at this
      cases this
  | succ fuel ih =>
    intro listed a w hd hfree hr hy H hE
    refine ⟨fun h => (by rw [h] at hr; cases hr), fun j hj => ?_⟩
    by_cases hji : j = i
    · subst hji; exact hy.wpOp hi (hSr w) ⟨hE, H⟩
    · have h1 := H.2 j (ready_mono hj hji)
      obtain ⟨hjun, oj, hoj, hall⟩ := mem_ready.1 hj
      have hiun := (mem_ready.1 hr).1
      have hnot : ∀ e ∈ oj.after, Region.binds .any e = true → e.on ≠ i := fun e he hb heq => by
        have h1 := hall e he hb
        rw [heq] at h1
        rcases Nat.lt_or_ge i listed.size with h' | h'
        · simp [h'] at hiun h1; rw [hiun] at h1; cases h1
        · simp [Array.getElem?_eq_none h'] at h1
      have hS' : ∀ w', (qt j = true → R w w') → S w w' := by
        rcases hq with ⟨hq1, hq2⟩ | hq
        · intro w' h
          rcases hq1 j with h' | h' | h'
          · exact hq2 _ _ (h h')
          · exact absurd hall (I7.waits hiun hd _ j h' oj hoj)
          · rw [h'] at hoj; cases hoj
        · intro w' _; exact hq _ _
      have h2 := W2 hoj (hfree j oj hoj hji hjun hnot) (fun cs b => hsel i oi cs b hi) (fun cs b => hsel j oj cs b hoj) hQ hy h1
      have hfree' : ∀ k ok, ops[k]? = some ok → k ≠ i → (listed.setIfInBounds j true).getD k true = false →
          (∀ e ∈ ok.after, Region.binds .any e = true → e.on ≠ i) → oi.apart ops ok = true := fun k ok hk hki hun hno => by
        refine hfree k ok hk hki ?_ hno
        by_cases hjk : j = k
        · subst hjk; exact hjun
        · rw [getD_set_ne true hjk] at hun; exact hun
      refine wpOp_mono (fun a' w' h3 => ⟨h3.2.1, ih (listed.setIfInBounds j true) a' w' (hd.set hj) hfree' (ready_mono hr (Ne.symm hji)) (h3.1.sub fun w'' hw => hSt _ _ _ (hS' w' h3.2.1) hw) ?_ (fun _ => hRr w')⟩) h2
      rw [Array.setIfInBounds_comm _ _ hji]
      exact h3.2.2
end
/-- what is read from the base world, and the blocks PB, stand still -/
structure Kp (w0 : World) (L0 : List Nat) (PB : List Nat) (w w' : World) : Prop where
  os : w'.os = w.os
  tape : w'.tape = w.tape
  output : w'.output = w.output
  size : w0.heap.size ≤ w.heap.size → w0.heap.size ≤ w'.heap.size
  keep : ∀ b, b < w0.heap.size → b ∉ L0 → w'.heap[b]? = w.heap[b]?
  pb : ∀ b ∈ PB, w'.heap[b]? = w.heap[b]?
section
variable {w0 : World} {L0 PB : List Nat}
theorem Kp.rfl' (w : World) : Kp w0 L0 PB w w := ⟨rfl, rfl, rfl, id, fun _ _ _ => rfl, fun _ _ => rfl⟩
theorem Kp.trans {a b c : World} (h : Kp w0 L0 PB a b) (k : Kp w0 L0 PB b c) : Kp w0 L0 PB a c :=
  ⟨k.os.trans h.os, k.tape.trans h.tape, k.output.trans h.output, fun x => k.size (h.size x), fun i x y => (k.keep i x y).trans (h.keep i x y), fun i x => (k.pb i x).trans (h.pb i x)⟩
/-- the variables PB are the same in both -/
def H1 (PB : List Nat) (H H' : List HP) : Prop := ∀ b ∈ PB, ∃ T cs, pt b T cs ∈ H ∧ pt b T cs ∈ H'
theorem H1.nil {H H' : List HP} : H1 [] H H' := fun b h => by cases h
theorem H1.cons {b : Nat} {T : TypeId} {cs : List Value} {H H' : List HP} (h : pt b T cs ∈ H) (h' : pt b T cs ∈ H') (k : H1 PB H H') : H1 (b :: PB) H H' := fun x hx => by
  rcases List.mem_cons.1 hx with rfl | hx
  · exact ⟨T, cs, h, h'⟩
  · exact k x hx
class PtIn (b : Nat) (T : outParam TypeId) (cs : outParam (List Value)) (H : List HP) : Prop where
  out : pt b T cs ∈ H
instance PtIn.tail {b : Nat} {T : TypeId} {cs : List Value} {X : HP} {H : List HP} [h : PtIn b T cs H] : PtIn b T cs (X :: H) := ⟨mS h.out⟩
instance PtIn.head {b : Nat} {T : TypeId} {cs : List Value} {H : List HP} : PtIn b T cs (pt b T cs :: H) := ⟨m0⟩
class SameI (PB : List Nat) (H H' : List HP) : Prop where
  out : H1 PB H H'
instance SameI.nil {H H' : List HP} : SameI [] H H' := ⟨H1.nil⟩
instance SameI.cons {b : Nat} {PB : List Nat} {T : TypeId} {cs : List Value} {H H' : List HP} [h1 : PtIn b T cs H] [h2 : PtIn b T cs H'] [h3 : SameI PB H H'] : SameI (b :: PB) H H' := ⟨H1.cons h1.out h2.out h3.out⟩
theorem Kp.of {H H' : List HP} {w w' : World} (h : Hp w0 L0 H w) (h' : Hp w0 L0 H' w') (hs : H1 PB H H') : Kp w0 L0 PB w w' := by
  obtain ⟨L, hL⟩ := h.step
  obtain ⟨L', hL'⟩ := h'.step
  refine ⟨hL'.os.trans hL.os.symm, hL'.tape.trans hL.tape.symm, hL'.output.trans hL.output.symm, fun _ => hL'.size, fun b h1 h2 => (hL'.keep b h1 h2).trans (hL.keep b h1 h2).symm, fun b hb => ?_⟩
  obtain ⟨T, cs, m1, m2⟩ := hs b hb
  obtain ⟨_, _, h1⟩ := h.mem m1
  obtain ⟨_, _, h2⟩ := h'.mem m2
  rw [h1, h2]
def H6 (w0 : World) (L0 PB : List Nat) (H : List HP) (b off : Nat) (cs : List Value) : Prop := ∀ w, Hp w0 L0 H w → ∀ w', Kp w0 L0 PB w w' → j6 w' b off cs
theorem H6.pt {H : List HP} {b : Nat} {T : TypeId} {cs : List Value} (hm : Go.Proofs.Ytdopeopehgdccaa.pt b T cs ∈ H) (hb : b ∈ PB) : H6 w0 L0 PB H b 0 cs := fun w h w' hk => by
  obtain ⟨L', _, h1⟩ := h.mem hm
  intro j v hj
  simp [World.cell?, hk.pb b hb, h1, hj]
theorem H6.ro {H : List HP} {b off : Nat} {cs : List Value} (h : ∀ H, Has w0 L0 H b off cs) : H6 w0 L0 PB H b off cs := fun w hw w' hk => by
  obtain ⟨L, hL⟩ := hw.step
  exact h [] w' ⟨[], rfl, List.nodup_nil, ⟨hk.os.trans hL.os, hk.tape.trans hL.tape, hk.output.trans hL.output, hk.size hL.size, fun b h1 h2 => (hk.keep b h1 h2).trans (hL.keep b h1 h2), by simp⟩⟩
theorem H6.sub {H : List HP} {b off : Nat} {cs cs' : List Value} (h : H6 w0 L0 PB H b off cs) (i : Nat) (he : (cs.drop i).take cs'.length = cs') : H6 w0 L0 PB H b (off + i) cs' := fun w hw w' hk => (h w hw w' hk).sub' i he
end
def YdK (P : Program) (n : Nat) (w0 : World) (L0 PB : List Nat) (fr : Fr) (H : List HP) (op : Op) (v : Value) : Prop :=
  ∀ a w, Fr.ok n fr a → Hp w0 L0 H w → ∀ w', Kp w0 L0 PB w w' → ∀ d t p af g, (execOp a.eval ⟨d, op, t, p, af, g⟩).run P w' = .ok (.value v) w'
section
variable {P : Program} {Q : Exit → Act → World → Prop} {n : Nat} {w0 : World} {L0 PB : List Nat} {fr : Fr} {H : List HP} {ops : Array Oper} {i : Nat} {qt : Nat → Bool} {fuel : Nat} {listed : Array Bool} {op : Op} {d : Nat} {ty : TypeId} {pos : String} {af : Array Edge} {g : Option (Nat × Bool)} {v : Value}
theorem Y.ldK1 {x : Operand} {T : TypeId} {k : Nat} {z : List Value} {by' : Nat} {b off : Nat} {v : Value} (ht : TyOk P T false k z by') (hx : ev fr x = some (.pointer (some ⟨b, off, none⟩)))
    (hc : H6 w0 L0 PB H b off [v]) (h1 : k = 1) : YdK P n w0 L0 PB fr H (.load T x) v := fun a w ha hw w' hE d t p af g => by
  simp [execOp, ha.ev hx, (hc w hw w' hE).run_load (v := v) ht (by simp [h1]) (by simp) (fun _ => h1)]
theorem Y.ldKS {x : Operand} {T : TypeId} {k : Nat} {z : List Value} {by' : Nat} {b off : Nat} {cs : List Value} (ht : TyOk P T true k z by') (hx : ev fr x = some (.pointer (some ⟨b, off, none⟩)))
    (hc : H6 w0 L0 PB H b off cs) (hl : cs.length = k) : YdK P n w0 L0 PB fr H (.load T x) (.agg cs.toArray) := fun a w ha hw w' hE d t p af g => by
  simp [execOp, ha.ev hx, (hc w hw w' hE).run_load (v := .agg cs.toArray) ht hl (by simp) (fun h => by cases h)]
theorem D.Kregion {id : Nat} (PB : List Nat) (qt : Nat → Bool) (hm : P.follows .mixedOrders = true) (h : Ent n w0 L0 fr H (x6 P ops Q (Kp w0 L0 PB) qt ops.size (Array.replicate ops.size false))) :
    Ent n w0 L0 fr H ((Code.region id ops true).wp P Q) := fun a w h1 h2 =>
  wp_region_any hm (Y8 _ _ _ _ (h a _ h1 h2.drew))
theorem D.Ky (i : Nat) [hQ : NoPan Q] (ho : ops[i]? = some ⟨some d, op, ty, pos, af, g⟩) (hg : s7 ops fr g = some true) (hd : d < n) (hy : YdK P n w0 L0 PB fr H op v)
    (hk : t0 ops qt false listed i = true)
    (h : Ent n w0 L0 ((d, v) :: fr) H (x6 P ops Q (Kp w0 L0 PB) qt fuel (listed.setIfInBounds i true))) : Ent n w0 L0 fr H (x6 P ops Q (Kp w0 L0 PB) qt (fuel + 1) listed) := fun a w h1 h2 => by
  simp only [t0, Bool.and_eq_true, Bool.or_eq_true, Bool.false_eq_true, false_or] at hk
  obtain ⟨⟨⟨⟨k1, k2⟩, k3⟩, k4⟩, k5⟩ := hk
  refine S4 (S := Kp w0 L0 PB) (oi := ⟨some d, op, ty, pos, af, g⟩) (v := v) (fun w => Kp.rfl' w) (fun w => Kp.rfl' w) (fun _ _ _ h k => h.trans k) ho (Region.noSelect_spec k1) (fun c a w => hQ.out c a _ _ w)
    (.inl ⟨W6 k5, fun _ _ h => h⟩) fuel listed a w (w8 k4) (Region.free_spec ho k2) (by simpa using k3) (.inl ⟨j9 (o := ⟨some d, op, ty, pos, af, g⟩) h1 hg, fun w' hw => hy a w h1 h2 w' hw _ _ _ _ _⟩) (h _ _ (h1.put hd v) h2) (fun _ => Kp.rfl' w)
theorem D.Kyp (i : Nat) [hQ : NoPan Q] (ho : ops[i]? = some ⟨some d, op, ty, pos, af, g⟩) (hg : s7 ops fr g = some true) (hd : d < n) (hy : Yp P n fr op v)
    (hk : t0 ops qt true listed i = true)
    (h : Ent n w0 L0 ((d, v) :: fr) H (x6 P ops Q (Kp w0 L0 PB) qt fuel (listed.setIfInBounds i true))) : Ent n w0 L0 fr H (x6 P ops Q (Kp w0 L0 PB) qt (fuel + 1) listed) := fun a w h1 h2 => by
  simp only [t0, Bool.and_eq_true, Bool.or_eq_true, true_or] at hk
  obtain ⟨⟨⟨⟨k1, k2⟩, k3⟩, k4⟩, _⟩ := hk
  refine S4 (S := fun _ _ => True) (oi := ⟨some d, op, ty, pos, af, g⟩) (v := v) (fun w => Kp.rfl' w) (fun w => trivial) (fun _ _ _ _ _ => trivial) ho (Region.noSelect_spec k1) (fun c a w => hQ.out c a _ _ w)
    (.inr fun _ _ => trivial) fuel listed a w (w8 k4) (Region.free_spec ho k2) (by simpa using k3) (.inl ⟨j9 (o := ⟨some d, op, ty, pos, af, g⟩) h1 hg, fun w' _ => hy a h1 w' _ _ _ _ _⟩) (h _ _ (h1.put hd v) h2) (fun _ => Kp.rfl' w)
theorem D.Kst (i : Nat) {dst : Option Tmp} {κ : Type} {fr' : κ → Fr} {H' : κ → List HP} {φ : κ → Prop} {q : Bool} (ho : ops[i]? = some ⟨dst, op, ty, pos, af, g⟩) (hg : s7 ops fr g = some true)
    (hr : Region.ready .any ops listed = [i]) (hqt : qt i = true → ∀ k, H1 PB H (H' k))
    (hn : Nop P Q n w0 L0 fr H ⟨dst, op, ty, pos, af, g⟩ q fr' H' φ) (h : ∀ k, φ k → Ent n w0 L0 (fr' k) (H' k) (x6 P ops Q (Kp w0 L0 PB) qt fuel (listed.setIfInBounds i true))) : Ent n w0 L0 fr H (x6 P ops Q (Kp w0 L0 PB) qt (fuel + 1) listed) := fun a w h1 h2 => by
  refine ⟨fun h => absurd (hr ▸ h) (by simp), fun j hj => ?_⟩
  rw [hr] at hj
  simp only [List.mem_singleton] at hj
  subst hj
  rw [wpOp]
  simp only [ho]
  rw [j9 (o := ⟨dst, op, ty, pos, af, g⟩) h1 hg, if_pos rfl]
  refine .inl (hn (fun w1 a' w' => (qt j = true → Kp w0 L0 PB w w') ∧ x6 P ops Q (Kp w0 L0 PB) qt fuel (listed.setIfInBounds j true) a' w') (fun k hk w1 a' w' h3 h4 h5 => ⟨fun hq => Kp.of h2 h4 (hqt hq k), h k hk a' w' h3 h4⟩) a w h1 h2)
theorem D.Kdone (hr : Region.ready .any ops listed = []) (h : Ent n w0 L0 fr H (Q .normal)) : Ent n w0 L0 fr H (x6 P ops Q (Kp w0 L0 PB) qt fuel listed) := fun a w h1 h2 => by
  cases fuel with
  | zero => exact ⟨hr, h a w h1 h2⟩
  | succ f => exact ⟨fun _ => h a w h1 h2, by rw [hr]; simp⟩
def PkK (P : Program) (ops : Array Oper) (Q : Exit → Act → World → Prop) (R : World → World → Prop) (qt : Nat → Bool) (fuel : Nat) (listed : Array Bool) (i : Nat) (a : Act) (w : World) : Prop :=
  wpOp P ops Q i (fun a' w' => (qt i = true → R w w') ∧ x6 P ops Q R qt fuel (listed.setIfInBounds i true) a' w') a w
theorem D.Kch {l : List Nat} {R : World → World → Prop} (hr : Region.ready .any ops listed = l) (h0 : l ≠ []) (h : ∀ x ∈ l, Ent n w0 L0 fr H (PkK P ops Q R qt fuel listed x)) : Ent n w0 L0 fr H (x6 P ops Q R qt (fuel + 1) listed) := fun a w a1 a2 =>
  ⟨fun e => absurd (hr.symm.trans e) h0, fun x hx => h x (hr ▸ hx) a w a1 a2⟩
theorem D.Kch2 {i j : Nat} {R : World → World → Prop} (hr : Region.ready .any ops listed = [i, j]) (h1 : Ent n w0 L0 fr H (PkK P ops Q R qt fuel listed i)) (h2 : Ent n w0 L0 fr H (PkK P ops Q R qt fuel listed j)) : Ent n w0 L0 fr H (x6 P ops Q R qt (fuel + 1) listed) :=
  D.Kch hr (by simp) (by simp only [List.mem_cons, List.not_mem_nil, or_false]; rintro x (rfl | rfl) <;> assumption)
theorem D.Kpk (i : Nat) {dst : Option Tmp} {κ : Type} {fr' : κ → Fr} {H' : κ → List HP} {φ : κ → Prop} {q : Bool} (ho : ops[i]? = some ⟨dst, op, ty, pos, af, g⟩) (hg : s7 ops fr g = some true) (hqt : qt i = true → ∀ k, H1 PB H (H' k))
    (hn : Nop P Q n w0 L0 fr H ⟨dst, op, ty, pos, af, g⟩ q fr' H' φ) (h : ∀ k, φ k → Ent n w0 L0 (fr' k) (H' k) (x6 P ops Q (Kp w0 L0 PB) qt fuel (listed.setIfInBounds i true))) : Ent n w0 L0 fr H (PkK P ops Q (Kp w0 L0 PB) qt fuel listed i) := fun a w h1 h2 => by
  rw [PkK, wpOp]
  simp only [ho]
  rw [j9 (o := ⟨dst, op, ty, pos, af, g⟩) h1 hg, if_pos rfl]
  exact .inl (hn (fun w1 a' w' => (qt i = true → Kp w0 L0 PB w w') ∧ x6 P ops Q (Kp w0 L0 PB) qt fuel (listed.setIfInBounds i true) a' w') (fun k hk w1 a' w' h3 h4 h5 => ⟨fun hq => Kp.of h2 h4 (hqt hq k), h k hk a' w' h3 h4⟩) a w h1 h2)
end
end Go.Proofs.Ytdopeopehgdccaa
