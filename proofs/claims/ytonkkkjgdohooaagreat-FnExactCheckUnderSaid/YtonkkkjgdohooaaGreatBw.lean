import Derived.Test.YtonkkkjgdohooaaGreatBe
namespace Go.Proofs.YtonkkkjgdohooaaGreat
open Go.RowKit
set_option linter.unusedVariables false
section
variable {P : Program} {Q : Exit → Act → World → Prop} {n : Nat} {w0 : World} {L0 PB : List Nat} {fr : Fr} {H : List HP} {ops : Array Oper} {i : Nat} {qt : Nat → Bool} {fuel : Nat} {listed : Array Bool} {op : Op} {d : Nat} {ty : TypeId} {pos : String} {af : Array Edge} {g : Option (Nat × Bool)} {v : Value}
theorem D.Kskip (i : Nat) {dst : Option Tmp} [hQ : NoPan Q] (ho : ops[i]? = some ⟨dst, op, ty, pos, af, g⟩) (hg : gdOf ops fr g = some false)
    (hk : takeOk ops qt true listed i = true) (hfr : (dst.bind fun d' => fr.lookup d') = none)
    (h : Ent n w0 L0 fr H (wpQS P ops Q (Kp w0 L0 PB) qt fuel (listed.setIfInBounds i true))) : Ent n w0 L0 fr H (wpQS P ops Q (Kp w0 L0 PB) qt (fuel + 1) listed) := fun a w h1 h2 => by
  simp only [takeOk, Bool.and_eq_true, Bool.or_eq_true, true_or] at hk
  obtain ⟨⟨⟨⟨k1, k2⟩, k3⟩, k4⟩, _⟩ := hk
  refine wpQS_first (S := fun _ _ => True) (oi := ⟨dst, op, ty, pos, af, g⟩) (v := undef) (fun w => Kp.rfl' w) (fun w => trivial) (fun _ _ _ _ _ => trivial) ho (Region.noSelect_spec k1) (fun c a w => hQ.out c a _ _ w)
    (.inr fun _ _ => trivial) fuel listed a w (downOk_spec k4) (Region.free_spec ho k2) (by simpa using k3) (.inr ⟨gdOf_wanted (o := ⟨dst, op, ty, pos, af, g⟩) h1 hg, rfl⟩) ?_ (fun _ => Kp.rfl' w)
  cases dst with
  | none => exact h _ _ h1 h2
  | some d' =>
    refine h _ _ ⟨by simp [Act.put, h1.size], h1.defers, fun i v hi => ?_⟩ h2
    simp only [Act.put, Array.getElem?_setIfInBounds]
    rw [if_neg (fun e => by subst e; simp only [Option.bind_some] at hfr; rw [hfr] at hi; cases hi)]
    exact h1.get i v hi
end
end Go.Proofs.YtonkkkjgdohooaaGreat
