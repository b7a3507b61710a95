import Derived.Test.YtdopeopehgdccaaGreatBb
namespace Go.Proofs.YtdopeopehgdccaaGreat
open Go.RowKit
set_option linter.unusedVariables false
section
variable {n : Nat} {w0 : World} {L0 : List Nat} {fr : Fr} {H R : List HP} {G : Act → World → Prop} {α : Type} {E : Enc α} {e : TypeId} {a : Option Addr} {m c : Nat} {xs : List α}
/-- and back, the last one -/
theorem Ent.shutS {j : Nat} {ce : List Value} {x x' : α} {A : List HP} (hO : Own A E ce x') (hj : j = xs.length) (hH : H = hole e E a m c (xs ++ [x]) j ce :: (A ++ R)) (h : Ent n w0 L0 fr (ow (Enc.sl e E) [.slice a m c] (xs ++ [x']) :: R) G) : Ent n w0 L0 fr H G :=
  Ent.shut hO hH (by subst hj; simpa using h)
end
section
variable {P : Program} {Q : Exit → Act → World → Prop} {n : Nat} {w0 : World} {L0 : List Nat} {fr : Fr} {H R pre : List HP} {d : Nat} {ty : TypeId} {pos : String} {af : Array Edge} {g : Option (Nat × Bool)}
/-- append(s, x), x's own memory held apart -/
theorem N.pushH {α : Type} {E : Enc α} {T e e2 : TypeId} {agg : Bool} {k m c : Nat} {z : List Value} {by' : Nat} {x y : Operand} {ad a2 : Option Addr} {c2 : Nat} {xs : List α} {ce : List Value} {ex : α} (hT : P.underlying T = some (.slice e)) (ht : TyOk P e agg k z by') (hk : k = E.k)
    (hx : ev fr x = some (.slice ad m c)) (hy : ev fr y = some (.slice a2 1 c2)) (hl : ce.length = E.k) (h1 : ce.all (·.oneCell') = true) (hH : H = ow (Enc.sl e E) [.slice ad m c] xs :: row e2 k a2 1 c2 ce :: R) (h63 : m + 1 ≤ 9223372036854775807) (hbytes : (m + 1) * by' ≤ 140737488355328) (hd : d < n) :
    Nop P Q n w0 L0 fr H ⟨some d, .call ⟨.builtin .append, #[x, y], #[T, T]⟩, ty, pos, af, g⟩ false (κ := Option Addr × Nat) (fun p => (d, .slice p.1 (m + 1) p.2) :: fr) (fun p => hole e E p.1 (m + 1) p.2 (xs ++ [ex]) m ce :: R) (fun _ => True) := fun K hK a w ha hw => by
  subst hk; subst hH
  have hw' := hw
  obtain ⟨L, ⟨Lo, Lq, rfl, ho, Ls, LR, rfl, hs, hR⟩, hn, hst⟩ := hw'
  obtain ⟨ccs, L1, L2, rfl, g1, g2, g3, g4⟩ := a0H ho
  have hsrc : (1 = 0 ∧ ce = []) ∨ ∃ b o, a2 = some ⟨b, o, none⟩ ∧ F5 w b o ce := by
    obtain ⟨L', h0, h1⟩ := hw.mem (mS m0)
    rcases h1 with ⟨_, h2, _⟩ | ⟨g', cur, h2, h3, h4, h5, h6, h7, _⟩
    · cases h2
    · exact .inr ⟨g', 0, h2, Has.row h2 (mS m0) w hw⟩
  obtain ⟨a', c', w', L1', r1, r2, r3, r4, -⟩ := a0Q (P := P) (ty := ty) (c2 := c2) hT ht E.pos g4 hsrc (by rw [hl, Nat.one_mul]) (a5j h1) h63 hbytes
  have hnn : ((L1 ++ L2) ++ LR).Nodup := by
    simp only [List.nodup_append] at hn ⊢
    exact ⟨hn.1, hn.2.1.2.1, fun a ha b hb e => hn.2.2 a ha b (by simp [hb]) e⟩
  have hst' : Step w0 L0 w ((L1 ++ L2) ++ LR) := hst.sublist fun b hb => by
    simp only [List.mem_append] at hb ⊢
    rcases hb with (hb | hb) | hb
    · exact .inl (.inl hb)
    · exact .inl (.inr hb)
    · exact .inr (.inr hb)
  have hlt : ∀ b ∈ L2, b < w.heap.size := g3.inh
  obtain ⟨d1, d2, d3⟩ := (Step.refl w (L1 ++ L2)).call (List.nodup_append.1 hnn).1 hlt r4 r3
  have hhole : (hole e E a' (m + 1) c' (xs ++ [ex]) m ce).holds w' (L1' ++ L2) := by
    refine ⟨ccs, [], L1', L2, [], by simp, by simp [g1], h63, by simp [g1], hl, a5j h1, ?_, ?_, by simpa using r2⟩
    · rw [g1, List.take_left]; exact g3.stable d3
    · rw [g1, List.drop_eq_nil_of_le (by simp)]; exact ⟨rfl, rfl⟩
  obtain ⟨k1, k2, k3⟩ := hst'.call hnn hR.inh d1 d2
  have hrun : (execOp a.eval ⟨some d, .call ⟨.builtin .append, #[x, y], #[T, T]⟩, ty, pos, af, g⟩).run P w = .ok (.value (.slice a' (m + 1) c')) w' := by
    simp only [execOp, resolve, ha.ev hx, ha.ev hy, List.map_toArray, List.map_cons, List.map_nil, Sem.run_bind, Sem.run_pure, Result.andThen_ok, invoke, builtin, r1]
  rw [Oper.wp, hrun]
  exact hK (a', c') trivial w _ _ (ha.put hd _) ⟨_, ⟨_, LR, rfl, hhole, hR.stable k3⟩, k2, k1⟩ (by simp)
theorem Y.nil {x : Operand} {ad : Addr} (hx : ev fr x = some (.pointer (some ad))) : Yp P n fr (.nilCheck x) (.pointer (some ad)) := fun a h w' d t p af g => by
  simp [execOp, h.ev hx]
end
theorem Ent.p25 {n : Nat} {w0 : World} {L0 : List Nat} {fr : Fr} {G : Act → World → Prop} {H : List HP} {X A0 A1 A2 A3 A4 A5 A6 A7 A8 A9 A10 A11 A12 A13 A14 A15 A16 A17 A18 A19 A20 A21 A22 A23 A24 : HP} (x : Ent n w0 L0 fr (X :: A0 :: A1 :: A2 :: A3 :: A4 :: A5 :: A6 :: A7 :: A8 :: A9 :: A10 :: A11 :: A12 :: A13 :: A14 :: A15 :: A16 :: A17 :: A18 :: A19 :: A20 :: A21 :: A22 :: A23 :: A24 :: H) G) : Ent n w0 L0 fr (A0 :: A1 :: A2 :: A3 :: A4 :: A5 :: A6 :: A7 :: A8 :: A9 :: A10 :: A11 :: A12 :: A13 :: A14 :: A15 :: A16 :: A17 :: A18 :: A19 :: A20 :: A21 :: A22 :: A23 :: A24 :: X :: H) G := Ent.perm (List.perm_middle (a := X) (l₁ := [A0, A1, A2, A3, A4, A5, A6, A7, A8, A9, A10, A11, A12, A13, A14, A15, A16, A17, A18, A19, A20, A21, A22, A23, A24]) (l₂ := H)) x
end Go.Proofs.YtdopeopehgdccaaGreat
