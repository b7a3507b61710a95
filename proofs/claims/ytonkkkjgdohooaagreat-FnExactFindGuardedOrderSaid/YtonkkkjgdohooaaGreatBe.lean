import Derived.Test.YtonkkkjgdohooaaGreatBd
import Derived.Lib.AppendZerosOnto
import Derived.Lib.Overlaps
import Derived.Test.YtonkkkjgdohooaaGreatBb
namespace Go.Proofs.YtonkkkjgdohooaaGreat
open Go.RowKit
set_option linter.unusedVariables false
section
variable {P : Program} {Q : Exit → Act → World → Prop} {n : Nat} {w0 : World} {L0 : List Nat} {fr : Fr} {H R : List HP} {d : Nat} {ty : TypeId} {pos : String} {af : Array Edge} {g : Option (Nat × Bool)}
theorem Y.cap {x : Operand} {T e : TypeId} {ad : Option Addr} {m c : Nat} (hT : P.underlying T = some (.slice e)) (hx : ev fr x = some (.slice ad m c)) :
    Yp P n fr (.call ⟨.builtin .cap, #[x], #[T]⟩) (.int .i64 c) := fun a h w' d t p af g => by
  simp [execOp, resolve, invoke, builtin, Builtin.cap_, h.ev hx, run_underlying hT, goInt]
end
section
variable {n : Nat} {w0 : World} {L0 : List Nat} {fr : Fr} {H R : List HP} {G : Act → World → Prop} {α : Type} {E : Enc α} {e : TypeId} {a : Option Addr} {m c k : Nat} {xs ys : List α} {cs vcs : List Value}
end
end Go.Proofs.YtonkkkjgdohooaaGreat

namespace Go.Proofs.YtonkkkjgdohooaaGreat
open Go.RowKit
set_option linter.unusedVariables false
section
variable {w0 : World} {L0 : List Nat} {H : List HP} {e : TypeId} {k m c g : Nat} {cs news rest : List Value}
end
end Go.Proofs.YtonkkkjgdohooaaGreat

namespace Go.Proofs.YtonkkkjgdohooaaGreat
open Go.RowKit
set_option linter.unusedVariables false
section
variable {P : Program} {Q : Exit → Act → World → Prop} {n : Nat} {w0 : World} {L0 : List Nat} {fr : Fr} {H R : List HP} {d : Nat} {ty : TypeId} {pos : String} {af : Array Edge} {g : Option (Nat × Bool)}
end
section
variable {P : Program} {Q : Exit → Act → World → Prop} {n : Nat} {w0 : World} {L0 : List Nat} {fr : Fr} {H : List HP} {ops : Array Oper} {qt : Nat → Bool} {fuel : Nat} {listed : Array Bool}
end
end Go.Proofs.YtonkkkjgdohooaaGreat

namespace Go.Proofs.YtonkkkjgdohooaaGreat
open Go.RowKit
set_option linter.unusedVariables false
def wpQS (P : Program) (ops : Array Oper) (Q : Exit → Act → World → Prop) (R : World → World → Prop) (qt : Nat → Bool) : Nat → Array Bool → Act → World → Prop
  | 0, listed, a, w => Region.ready .any ops listed = [] ∧ Q .normal a w
  | fuel + 1, listed, a, w =>
    (Region.ready .any ops listed = [] → Q .normal a w) ∧
    ∀ i ∈ Region.ready .any ops listed, wpOp P ops Q i (fun a' w' => (qt i = true → R w w') ∧ wpQS P ops Q R qt fuel (listed.setIfInBounds i true) a' w') a w
section
variable {P : Program} {Q : Exit → Act → World → Prop} {ops : Array Oper} {qt : Nat → Bool}
end
/-- what is read from the base world, and the blocks PB, stand still -/
structure Kp (w0 : World) (L0 : List Nat) (PB : List Nat) (w w' : World) : Prop where
  os : w'.os = w.os
  tape : w'.tape = w.tape
  output : w'.output = w.output
  size : w0.heap.size ≤ w.heap.size → w0.heap.size ≤ w'.heap.size
  keep : ∀ b, b < w0.heap.size → b ∉ L0 → w'.heap[b]? = w.heap[b]?
  pb : ∀ b ∈ PB, w'.heap[b]? = w.heap[b]?
section
variable {w0 : World} {L0 PB : List Nat}
theorem Kp.rfl' (w : World) : Kp w0 L0 PB w w := ⟨rfl, rfl, rfl, id, fun _ _ _ => rfl, fun _ _ => rfl⟩
theorem Kp.trans {a b c : World} (h : Kp w0 L0 PB a b) (k : Kp w0 L0 PB b c) : Kp w0 L0 PB a c :=
  ⟨k.os.trans h.os, k.tape.trans h.tape, k.output.trans h.output, fun x => k.size (h.size x), fun i x y => (k.keep i x y).trans (h.keep i x y), fun i x => (k.pb i x).trans (h.pb i x)⟩
/-- the variables PB are the same in both -/
def Same (PB : List Nat) (H H' : List HP) : Prop := ∀ b ∈ PB, ∃ T cs, pt b T cs ∈ H ∧ pt b T cs ∈ H'
theorem Same.nil {H H' : List HP} : Same [] H H' := fun b h => by cases h
theorem Same.cons {b : Nat} {T : TypeId} {cs : List Value} {H H' : List HP} (h : pt b T cs ∈ H) (h' : pt b T cs ∈ H') (k : Same PB H H') : Same (b :: PB) H H' := fun x hx => by
  rcases List.mem_cons.1 hx with rfl | hx
  · exact ⟨T, cs, h, h'⟩
  · exact k x hx
class PtIn (b : Nat) (T : outParam TypeId) (cs : outParam (List Value)) (H : List HP) : Prop where
  out : pt b T cs ∈ H
instance PtIn.tail {b : Nat} {T : TypeId} {cs : List Value} {X : HP} {H : List HP} [h : PtIn b T cs H] : PtIn b T cs (X :: H) := ⟨mS h.out⟩
instance PtIn.head {b : Nat} {T : TypeId} {cs : List Value} {H : List HP} : PtIn b T cs (pt b T cs :: H) := ⟨m0⟩
class SameI (PB : List Nat) (H H' : List HP) : Prop where
  out : Same PB H H'
instance SameI.nil {H H' : List HP} : SameI [] H H' := ⟨Same.nil⟩
instance SameI.cons {b : Nat} {PB : List Nat} {T : TypeId} {cs : List Value} {H H' : List HP} [h1 : PtIn b T cs H] [h2 : PtIn b T cs H'] [h3 : SameI PB H H'] : SameI (b :: PB) H H' := ⟨Same.cons h1.out h2.out h3.out⟩
theorem Kp.of {H H' : List HP} {w w' : World} (h : Hp w0 L0 H w) (h' : Hp w0 L0 H' w') (hs : Same PB H H') : Kp w0 L0 PB w w' := by
  obtain ⟨L, hL⟩ := h.step
  obtain ⟨L', hL'⟩ := h'.step
  refine ⟨hL'.os.trans hL.os.symm, hL'.tape.trans hL.tape.symm, hL'.output.trans hL.output.symm, fun _ => hL'.size, fun b h1 h2 => (hL'.keep b h1 h2).trans (hL.keep b h1 h2).symm, fun b hb => ?_⟩
  obtain ⟨T, cs, m1, m2⟩ := hs b hb
  obtain ⟨_, _, h1⟩ := h.mem m1
  obtain ⟨_, _, h2⟩ := h'.mem m2
  rw [h1, h2]
def HasK (w0 : World) (L0 PB : List Nat) (H : List HP) (b off : Nat) (cs : List Value) : Prop := ∀ w, Hp w0 L0 H w → ∀ w', Kp w0 L0 PB w w' → CellsAt w' b off cs
theorem HasK.pt {H : List HP} {b : Nat} {T : TypeId} {cs : List Value} (hm : Go.Proofs.YtonkkkjgdohooaaGreat.pt b T cs ∈ H) (hb : b ∈ PB) : HasK w0 L0 PB H b 0 cs := fun w h w' hk => by
  obtain ⟨L', _, h1⟩ := h.mem hm
  intro j v hj
  simp [World.cell?, hk.pb b hb, h1, hj]
theorem HasK.ro {H : List HP} {b off : Nat} {cs : List Value} (h : ∀ H, Has w0 L0 H b off cs) : HasK w0 L0 PB H b off cs := fun w hw w' hk => by
  obtain ⟨L, hL⟩ := hw.step
  exact h [] w' ⟨[], rfl, List.nodup_nil, ⟨hk.os.trans hL.os, hk.tape.trans hL.tape, hk.output.trans hL.output, hk.size hL.size, fun b h1 h2 => (hk.keep b h1 h2).trans (hL.keep b h1 h2), by simp⟩⟩
theorem HasK.sub {H : List HP} {b off : Nat} {cs cs' : List Value} (h : HasK w0 L0 PB H b off cs) (i : Nat) (he : (cs.drop i).take cs'.length = cs') : HasK w0 L0 PB H b (off + i) cs' := fun w hw w' hk => (h w hw w' hk).sub' i he
end
def YdK (P : Program) (n : Nat) (w0 : World) (L0 PB : List Nat) (fr : Fr) (H : List HP) (op : Op) (v : Value) : Prop :=
  ∀ a w, Fr.ok n fr a → Hp w0 L0 H w → ∀ w', Kp w0 L0 PB w w' → ∀ d t p af g, (execOp a.eval ⟨d, op, t, p, af, g⟩).run P w' = .ok (.value v) w'
section
variable {P : Program} {Q : Exit → Act → World → Prop} {n : Nat} {w0 : World} {L0 PB : List Nat} {fr : Fr} {H : List HP} {ops : Array Oper} {i : Nat} {qt : Nat → Bool} {fuel : Nat} {listed : Array Bool} {op : Op} {d : Nat} {ty : TypeId} {pos : String} {af : Array Edge} {g : Option (Nat × Bool)} {v : Value}
def PkK (P : Program) (ops : Array Oper) (Q : Exit → Act → World → Prop) (R : World → World → Prop) (qt : Nat → Bool) (fuel : Nat) (listed : Array Bool) (i : Nat) (a : Act) (w : World) : Prop :=
  wpOp P ops Q i (fun a' w' => (qt i = true → R w w') ∧ wpQS P ops Q R qt fuel (listed.setIfInBounds i true) a' w') a w
end
end Go.Proofs.YtonkkkjgdohooaaGreat
