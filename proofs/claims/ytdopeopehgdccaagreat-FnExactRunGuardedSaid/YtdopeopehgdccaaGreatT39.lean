import Derived.Test.YtdopeopehgdccaaGreatT37
section
namespace Go.Proofs.YtdopeopehgdccaaGreat
open Go.RowKit
set_option linter.unusedVariables false
section
variable {n : Nat} {w0 : World} {L0 : List Nat} {fr : Fr} {H R : List HP} {G : Act → World → Prop} {α : Type} {E : Enc α} {e : TypeId} {a : Option Addr} {m c : Nat} {xs : List α}
theorem a7J {j : Nat} {ce : List Value} {x x' : α} {A : List HP} (hO : Own A E ce x') (hj : j = xs.length) (hH : H = hole e E a m c (xs ++ [x]) j ce :: (A ++ R)) (h : Ent n w0 L0 fr (ow (Enc.sl e E) [.slice a m c] (xs ++ [x']) :: R) G) : Ent n w0 L0 fr H G :=
  a1h hO hH (by subst hj; simpa using h)
end
section
variable {P : Program} {Q : Exit → Act → World → Prop} {n : Nat} {w0 : World} {L0 : List Nat} {fr : Fr} {H R pre : List HP} {d : Nat} {ty : TypeId} {pos : String} {af : Array Edge} {g : Option (Nat × Bool)}
theorem b4u {α : Type} {E : Enc α} {T e e2 : TypeId} {agg : Bool} {k m c : Nat} {z : List Value} {by' : Nat} {x y : Operand} {ad a2 : Option Addr} {c2 : Nat} {xs : List α} {ce : List Value} {ex : α} (hT : P.underlying T = some (.slice e)) (ht : TyOk P e agg k z by') (hk : k = E.k)
    (hx : ev fr x = some (.slice ad m c)) (hy : ev fr y = some (.slice a2 1 c2)) (hl : ce.length = E.k) (h1 : ce.all (·.oneCell') = true) (hH : H = ow (Enc.sl e E) [.slice ad m c] xs :: row e2 k a2 1 c2 ce :: R) (h63 : m + 1 ≤ 9223372036854775807) (hbytes : (m + 1) * by' ≤ 140737488355328) (hd : d < n) :
    Nop P Q n w0 L0 fr H ⟨some d, .call ⟨.builtin .append, #[x, y], #[T, T]⟩, ty, pos, af, g⟩ false (κ := Option Addr × Nat) (fun p => (d, .slice p.1 (m + 1) p.2) :: fr) (fun p => hole e E p.1 (m + 1) p.2 (xs ++ [ex]) m ce :: R) (fun _ => True) := fun K hK a w ha hw => by
  subst hk; subst hH
  have hw' := hw
  obtain ⟨L, ⟨Lo, Lq, rfl, ho, Ls, LR, rfl, hs, hR⟩, hn, hst⟩ := hw'
  obtain ⟨ccs, L1, L2, rfl, g1, g2, g3, g4⟩ := a2p ho
  have hsrc : (1 = 0 ∧ ce = []) ∨ ∃ b o, a2 = some ⟨b, o, none⟩ ∧ M6 w b o ce := by
    obtain ⟨L', h0, h1⟩ := hw.mem (mS m0)
    rcases h1 with ⟨_, h2, _⟩ | ⟨g', cur, h2, h3, h4, h5, h6, h7, _⟩
    · cases h2
    · exact .inr ⟨g', 0, h2, Has.row h2 (mS m0) w hw⟩
  obtain ⟨a', c', w', L1', r1, r2, r3, r4, -⟩ := a2B (P := P) (ty := ty) (c2 := c2) hT ht E.pos g4 hsrc (by rw [hl, Nat.one_mul]) (a9M h1) h63 hbytes
  have hnn : ((L1 ++ L2) ++ LR).Nodup := by
    simp only [List.nodup_append] at hn ⊢
    exact ⟨hn.1, hn.2.1.2.1, fun a ha b hb e => hn.2.2 a ha b (by simp [hb]) e⟩
  have hst' : Step w0 L0 w ((L1 ++ L2) ++ LR) := hst.sublist fun b hb => by
    simp only [List.mem_append] at hb ⊢
    rcases hb with (hb | hb) | hb
    · exact .inl (.inl hb)
    · exact .inl (.inr hb)
    · exact .inr (.inr hb)
  have hlt : ∀ b ∈ L2, b < w.heap.size := g3.inh
  obtain ⟨d1, d2, d3⟩ := (Step.refl w (L1 ++ L2)).call (List.nodup_append.1 hnn).1 hlt r4 r3
  have hhole : (hole e E a' (m + 1) c' (xs ++ [ex]) m ce).holds w' (L1' ++ L2) := by
    refine ⟨ccs, [], L1', L2, [], by simp, by simp [g1], h63, by simp [g1], hl, a9M h1, ?_, ?_, by simpa using r2⟩
    · rw [g1, List.take_left]; exact g3.stable d3
    · rw [g1, List.drop_eq_nil_of_le (by simp)]; exact ⟨rfl, rfl⟩
  obtain ⟨k1, k2, k3⟩ := hst'.call hnn hR.inh d1 d2
  have hrun : (execOp a.eval ⟨some d, .call ⟨.builtin .append, #[x, y], #[T, T]⟩, ty, pos, af, g⟩).run P w = .ok (.value (.slice a' (m + 1) c')) w' := by
    simp only [execOp, resolve, ha.ev hx, ha.ev hy, List.map_toArray, List.map_cons, List.map_nil, Sem.run_bind, Sem.run_pure, Result.andThen_ok, invoke, builtin, r1]
  rw [Oper.wp, hrun]
  exact hK (a', c') trivial w _ _ (ha.put hd _) ⟨_, ⟨_, LR, rfl, hhole, hR.stable k3⟩, k2, k1⟩ (by simp)
theorem Y.nil {x : Operand} {ad : Addr} (hx : ev fr x = some (.pointer (some ad))) : Yp P n fr (.nilCheck x) (.pointer (some ad)) := fun a h w' d t p af g => by
  simp [execOp, h.ev hx]
end
theorem c0Q {n : Nat} {w0 : World} {L0 : List Nat} {fr : Fr} {G : Act → World → Prop} {H : List HP} {X A0 A1 A2 A3 A4 A5 A6 A7 A8 A9 A10 A11 A12 A13 A14 A15 A16 A17 A18 A19 A20 A21 A22 A23 A24 : HP} (x : Ent n w0 L0 fr (X :: A0 :: A1 :: A2 :: A3 :: A4 :: A5 :: A6 :: A7 :: A8 :: A9 :: A10 :: A11 :: A12 :: A13 :: A14 :: A15 :: A16 :: A17 :: A18 :: A19 :: A20 :: A21 :: A22 :: A23 :: A24 :: H) G) : Ent n w0 L0 fr (A0 :: A1 :: A2 :: A3 :: A4 :: A5 :: A6 :: A7 :: A8 :: A9 :: A10 :: A11 :: A12 :: A13 :: A14 :: A15 :: A16 :: A17 :: A18 :: A19 :: A20 :: A21 :: A22 :: A23 :: A24 :: X :: H) G := Ent.perm (List.perm_middle (a := X) (l₁ := [A0, A1, A2, A3, A4, A5, A6, A7, A8, A9, A10, A11, A12, A13, A14, A15, A16, A17, A18, A19, A20, A21, A22, A23, A24]) (l₂ := H)) x
end Go.Proofs.YtdopeopehgdccaaGreat
end
section
namespace Go.Proofs.YtdopeopehgdccaaGreat
open Go.RowKit
set_option linter.unusedVariables false
end Go.Proofs.YtdopeopehgdccaaGreat
end
section
namespace Go.Proofs.YtdopeopehgdccaaGreat
open Go.RowKit
set_option linter.all false
set_option maxHeartbeats 2000000
attribute [local irreducible] Nop Yd Yp Ent Has Tr FnP FnP2 Src R6 a0d a0I a1c H6
theorem b3e {a_l : Option Addr} {m_l c_l : Nat} {l : List (Int × List Int)} (hz : l.length ≤ 2097152) (hyl : ∀ x ∈ l, x.2.length ≤ 1048576) : Tr Tryz.prog 113 [.slice a_l m_l c_l] (fun w L => Ro w L x5 [.slice a_l m_l c_l] l) [] (κ := Option Addr × Nat × Nat) (fun k => True) (fun k => .slice k.1 k.2.1 k.2.2) (fun k => [ow x5 [.slice k.1 k.2.1 k.2.2] l]) := by
 refine n9 Tryz.func113 rfl (n := 27) rfl (by decide +kernel) bl (fr := [(0, .slice a_l m_l c_l)]) rfl fun w L hR => ?_
 have hl := hR
 obtain ⟨rfl, ll⟩ := hl.slen
 refine Ew Z1 (Ei rfl (Ev Z2 (Est rfl (Nb [] [] us_Accesss ty_Access rfl rfl) (fun b5 _ => (Ent.drop (Ei rfl (Eu (Eq_ (Ew Z1 (Ei rfl (Eu (E.block (s3 (A := []) (Own.nil (E := P4) (e := tAccess) (a := (some ⟨b5, 0, none⟩))) rfl (j6 (congrArg (ow x5 [_]) (show [] = l.take 0 from by first | rfl | (simp; done) | grind [d1, d2, t1, t2])) (E.loop (κ := Nat × Option Addr × Nat × Nat) (fun g => g.1 ≤ l.length ∧ True) (fun g => [(0, .slice a_l l.length c_l), (3, .slice g.2.1 g.2.2.1 g.2.2.2), (4, .int .i64 (↑g.1 : Int))]) (fun g => [ow x5 [.slice g.2.1 g.2.2.1 g.2.2.2] (l.take g.1)]) (fun g => l.length - g.1) (0, (some ⟨b5, 0, none⟩), 0, 0) ⟨Nat.zero_le _, by simp⟩ ⟨rfl, rfl, rfl, trivial⟩ (.refl _) (fun g pg => ?_))))))))))))))))
 obtain ⟨g, aA0_0, mA0_0, cA0_0⟩ := g
 try dsimp only at pg
 try dsimp only
 obtain ⟨pk, pa⟩ := pg
 have jp := List.length_take_le g l
 refine i9 m0 fun eaA0_0 laA0_0 => ?_
 subst eaA0_0
 refine Eq_ (Ew Z4 (Em rfl (Em rfl (Ey rfl ((Y.len us_Accesss rfl).yd) (Ey rfl ((Y.lss rfl rfl).yd) (o6 (fun q9 => ?_) (fun q9 => ?_)))))))
 ·refine Eu (o2 rfl (j5 (Et (Eq_ (E.block (D.region (fun j => !(Nat.beq j 13)) mixed (Dyp 0 rfl (l3 rfl) (Dyp 1 rfl (l3 rfl) (Dyp 2 rfl (l3 rfl) ?_)))))))))
  obtain ⟨eb15, eo15, ec15, ea15, er15, el15, eh15⟩ := hl.elem g om
  obtain ⟨xa15_0, xc15_0, rfl, ei15_0, xh15_0⟩ := Y0 er15
  have := xh15_0.slen.2
  refine Dyp 3 rfl (r7 us_Accesss ty_Access rfl ea15 rfl g rfl om) (Dyp 4 rfl (j7 fo_Access_0 i8 dc rfl) (Dy 5 rfl (g9 i8 rfl ((eh15 _).sub (cs' := [_]) 0 rfl) rfl) (Dyp 6 rfl (l3 rfl) (Dyp 7 rfl (l3 rfl) (Dyp 8 rfl (r7 us_Accesss ty_Access rfl ea15 rfl g rfl om) (Dyp 9 rfl (j7 fo_Access_1 ty_Is dc rfl) (Dy 10 rfl (g9 ty_Is rfl ((eh15 _).sub (cs' := [_]) 1 rfl) rfl) (t8 11 rfl rfl kr (fun _ => rfl) (N.call (a2m (hyl _ (List.getElem_mem om))) rfl rfl rfl dc rfl (fun w Lp hA => ⟨ei15_0, hA.ro xh15_0⟩)) (fun k23 _ => ?_)))))))))
  obtain ⟨a23, m23, c23⟩ := k23
  refine i9 m0 fun e23 l23 => ?_
  subst e23
  refine t8 12 rfl rfl kr (fun _ => rfl) (Nb [_] [_, _] us_Accesss ty_Access rfl rfl) (fun b24 _ => (i7 (i7 (r5 (t8 13 rfl rfl kr (fun h => by cases h) (D6 (E := P4) (ex := l[g]) us_Accesss ty_Access rfl rfl rfl (a1i (x := l[g]) ei15_0 Own.ow) rfl bn bn dc) (fun p25 _ => (Dyp 14 rfl (F7 rfl) (r8 kr (t7 (Et (Ez Z3 (Em rfl (Ey rfl ((Y.add rfl rfl om om).yd) (Ei rfl (Eu (j6 (congrArg (ow x5 [_]) (show (l.take g) ++ [l[g]] = l.take (g + 1) from by grind [d1, d2, t1, t2])) ?_))))))))))))))))
  exact Ea (g + 1, p25.1, ((l.take g).length + 1), p25.2) ⟨oz, trivial⟩
 ·refine Eu (o3 rfl (E.exit (o8 (o8 (x9 (Et (Ew Z2 (Em rfl (Ei rfl (Eu (E.ret (j6 (congrArg (ow x5 [_]) (show _ = l by grind [d1, d2, t1, t2])) ?_))))))))))))
  exact Fg rfl rfl (_, _, _) rfl rfl
end Go.Proofs.YtdopeopehgdccaaGreat
end
