/- A function value that changes something: what it is called over, and what it leaves. -/
import Derived.Test.YtmogfmnamhhbnaaDoorBl
namespace Go.Proofs.YtmogfmnamhhbnaaDoor
open Go.RowKit
set_option linter.unusedVariables false
set_option linter.unusedSimpArgs false
/-- some of a family of assertions -/
def hpx {κ : Type} (F : κ → List HP) : HP where
  holds w L := ∃ k, Sep (F k) w L
  stable := fun ⟨k, h⟩ hb => ⟨k, h.stable hb⟩
  inh := fun ⟨k, h⟩ => h.inh
def Stab (RR : World → List Nat → Prop) : Prop := ∀ (w0 : World) (L0 : List Nat) (pre rest : List HP) (w : World) (Lp : List Nat), At w0 L0 pre rest w Lp → RR w0 L0 → RR w Lp
/-- a function value that tells p, over what RR says, and takes S s to S (st s x) -/
def FnS {α σ : Type} (P : Program) (g : FuncId) (caps : List Value) (RR : World → List Nat → Prop) (E : Enc α) (val : List Value → Value) (D : σ → α → Prop) (p : α → Bool) (S : σ → HP) (st : σ → α → σ) : Prop :=
  ∀ cs x s, D s x → Tr P g (val cs :: caps) (fun w L => Ro w L E cs x ∧ RR w L) [S s] (κ := Unit) (fun _ => True) (fun _ => .bool (p x)) (fun _ => [S (st s x)])
section
variable {P : Program} {Q : Exit → Act → World → Prop} {n : Nat} {w0 : World} {L0 : List Nat} {fr : Fr} {H R A : List HP} {G : Act → World → Prop} {d : Nat} {ty : TypeId} {pos : String} {af : Array Edge} {g : Option (Nat × Bool)} {κ σ α : Type} {F F' : κ → List HP} {RR : World → List Nat → Prop}
theorem Ent.xin (k : κ) (hH : H = F k ++ R) (h : Ent n w0 L0 fr (hpx F :: R) G) : Ent n w0 L0 fr H G := fun a w h1 h2 => by
  subst hH
  obtain ⟨L, hs, hn, hst⟩ := h2
  obtain ⟨L1, L2, rfl, g1, g2⟩ := Sep.append.1 hs
  exact h a w h1 ⟨L1 ++ L2, ⟨L1, L2, rfl, ⟨k, g1⟩, g2⟩, hn, hst⟩
theorem Ent.xout (h : ∀ k, Ent n w0 L0 fr (F k ++ R) G) : Ent n w0 L0 fr (hpx F :: R) G := fun a w h1 h2 => by
  obtain ⟨L, ⟨L1, L2, rfl, ⟨k, g1⟩, g2⟩, hn, hst⟩ := h2
  exact h k a w h1 ⟨L1 ++ L2, Sep.append.2 ⟨L1, L2, rfl, g1, g2⟩, hn, hst⟩
/-- what a call takes and leaves, as one thing each -/
theorem Tr.xs {κ' : Type} [Inhabited κ] {F'' : κ' → List HP} {F' : κ' → List HP} {f : FuncId} {args : List Value} {φ : κ' → Prop} {ret : κ' → Value} {v : Value} (tr : ∀ k, Tr P f args RR (F k) (κ := κ') φ ret F'') (hp : ∀ k, (F'' k).Perm (F' k)) (hr : ∀ k, ret k = v) : Tr P f args RR [hpx F] (κ := Unit) (fun _ => True) (fun _ => v) (fun _ => [hpx F']) := by
  refine ⟨(tr default).1, fun w L hR hs hn => ?_⟩
  obtain ⟨L1, L2, rfl, ⟨k, g1⟩, g2⟩ := hs
  have e2 : L2 = [] := g2
  subst e2
  rw [List.append_nil] at hR hn ⊢
  refine ((tr k).2 w L1 hR g1 hn).mono ?_
  rintro e w' ⟨k', _, rfl, hh⟩
  obtain ⟨L, hs', hn', hst'⟩ := hh.perm (hp k')
  exact ⟨(), trivial, by rw [hr], L, ⟨L, [], (List.append_nil _).symm, ⟨k', hs'⟩, rfl⟩, hn', hst'⟩
theorem Tr.weakR {R' : World → List Nat → Prop} {f : FuncId} {args : List Value} {pre : List HP} {κ' : Type} {φ : κ' → Prop} {ret : κ' → Value} {post : κ' → List HP} (tr : Tr P f args R' pre φ ret post) (h : ∀ w L, RR w L → R' w L) : Tr P f args RR pre φ ret post := ⟨tr.1, fun w L hR => tr.2 w L (h w L hR)⟩
theorem FnS.ofBinding {f : FuncId} {caps : List Value} {D : σ → (List Int × List Int) → Prop} {p : (List Int × List Int) → Bool} {S : σ → HP} {st : σ → (List Int × List Int) → σ} (tr : ∀ {a0 : Option Addr} {m0 c0 : Nat} {x0 : List Int} {a1 : Option Addr} {m1 c1 : Nat} {x1 : List Int} {s : σ}, D s (x0, x1) → Tr P f (.agg #[.slice a0 m0 c0, .slice a1 m1 c1] :: caps) (fun w L => (Ro w L eIs [.slice a0 m0 c0] x0 ∧ Ro w L eIs [.slice a1 m1 c1] x1) ∧ RR w L) [S s] (κ := Unit) (fun _ => True) (fun _ => .bool (p (x0, x1))) (fun _ => [S (st s (x0, x1))])) : FnS P f caps RR eBinding valS D p S st := fun cs x s hd =>
  ⟨(tr (a0 := none) (m0 := 0) (c0 := 0) (a1 := none) (m1 := 0) (c1 := 0) hd).1, fun w L hR hs hn => by
    obtain ⟨a0, c0, a1, c1, rfl, h0, h1⟩ := Ro.pBinding hR.1
    exact (tr hd).2 w L ⟨⟨h0, h1⟩, hR.2⟩ hs hn⟩
theorem N.fnS {E : Enc α} {S : σ → HP} {f : FuncId} {x y : Operand} {caps : List Value} {ts : Array TypeId} {val : List Value → Value} {D : σ → α → Prop} {p : α → Bool} {st : σ → α → σ} {s : σ} {cs : List Value} {u : α} {v : Value}
    (hf : FnS P f caps RR E val D p S st) (hst : Stab RR) (hrr : RR w0 L0) (hx : ev fr x = some (.func (.func f) #[] caps.toArray)) (hy : ev fr y = some v) (hv : v = val cs) (hd : d < n) (hR : ∀ w Lp, At w0 L0 [S s] R w Lp → Ro w Lp E cs u) (hu : D s u) :
    Nop P Q n w0 L0 fr (S s :: R) ⟨some d, .call ⟨.value x, #[y], ts⟩, ty, pos, af, g⟩ false (κ := Unit) (fun _ => (d, .bool (p u)) :: fr) (fun _ => S (st s u) :: R) (fun _ => True) :=
  N.call (hf cs u s hu) hx (vs := [v]) (by simp [evs, hy]) (by rw [hv]; rfl) hd (rest := R) rfl fun w Lp hA => ⟨hR w Lp hA, hst _ _ _ _ _ _ hA hrr⟩
end
section
variable {α σ : Type} {s : List α} {st : σ → α → σ} {s0 : σ} {p : α → Bool} {k : Nat}
/-- how many elements are asked until p holds -/
def idxN (p : α → Bool) (s : List α) : Nat := if idxP p s < 0 then s.length else (idxP p s).toNat + 1
theorem fold_at (h : k < s.length) : st ((s.take k).foldl st s0) s[k] = (s.take (k + 1)).foldl st s0 := by rw [List.take_succ_eq_append_getElem h, List.foldl_append]; rfl
theorem idxN_hit (hk : k < s.length) (h : ∀ x ∈ s.take k, p x = false) (hp : p s[k] = true) : st ((s.take k).foldl st s0) s[k] = (s.take (idxN p s)).foldl st s0 := by
  rw [fold_at (st := st) (s0 := s0) hk, idxN, ← idxP_hit hk h hp, if_neg (by omega), Int.toNat_natCast]
theorem idxN_miss (hk : ¬ k < s.length) (h : ∀ x ∈ s.take k, p x = false) : (s.take k).foldl st s0 = (s.take (idxN p s)).foldl st s0 := by
  rw [idxN, ← idxP_miss hk h, if_pos (by omega), List.take_of_length_le (by omega), List.take_length]
theorem idxN_none (h : idxP p s < 0) : (s.take (idxN p s)).foldl st s0 = s.foldl st s0 := by rw [idxN, if_pos h, List.take_length]
theorem idxN_some {i : Nat} (h : idxP p s = (i : Int)) : (s.take (idxN p s)).foldl st s0 = (s.take (i + 1)).foldl st s0 := by rw [idxN, if_neg (by omega), h, Int.toNat_natCast]
end
end Go.Proofs.YtmogfmnamhhbnaaDoor
