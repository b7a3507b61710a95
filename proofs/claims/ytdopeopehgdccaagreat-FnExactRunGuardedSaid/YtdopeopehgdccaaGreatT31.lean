import Derived.Test.YtdopeopehgdccaaGreatBl
section
namespace Go.Proofs.YtdopeopehgdccaaGreat
open Go.RowKit
set_option linter.all false
set_option maxHeartbeats 2000000
attribute [local irreducible] Nop Yd Yp Ent Has Tr FnP FnP2 Src R6 a0d a0I a1c H6
theorem a6Y {a_s : Option Addr} {m_s c_s : Nat} {s : List (List Int × List Int)} {f_g : FuncId} {f_c : List Value} {D_f : (List Int × List Int) → Prop} {f : (List Int × List Int) → Bool} (hD_f : ∀ x ∈ s, D_f x) : Tr Tryz.prog 208 [.slice a_s m_s c_s, .func (.func f_g) #[] f_c.toArray] (fun w L => Ro w L u9 [.slice a_s m_s c_s] s ∧ FnP Tryz.prog w L f_g f_c B0 a1d D_f f) [] (κ := Unit) (fun k => True) (fun k => .int .i64 (H0 f s)) (fun k => []) := by
 refine n9 Tryz.func208 rfl (n := 19) rfl (by decide +kernel) bl (fr := [(0, .slice a_s m_s c_s), (1, .func (.func f_g) #[] f_c.toArray)]) rfl fun w L hR => ?_
 obtain ⟨hs, hf⟩ := hR
 obtain ⟨rfl, ls⟩ := hs.slen
 refine Ew Z1 (Ei rfl (Eu (Eq_ (Ew Z3 (Em rfl (Ey rfl ((Y.len us_Bindings rfl).yd) (Em rfl (Eu (E.block (E.loop (κ := Nat) (fun g => g ≤ s.length ∧ ∀ x ∈ s.take g, f x = false) (fun g => [(0, .slice a_s s.length c_s), (1, .func (.func f_g) #[] f_c.toArray), (7, .int .i64 (↑s.length : Int)), (8, .int .i64 (g : Int))]) (fun g => []) (fun g => s.length - g) 0 ⟨by omega, by simp⟩ ⟨rfl, rfl, rfl, rfl, trivial⟩ (.refl _) (fun g pg => ?_)))))))))))
 obtain ⟨pk, pa⟩ := pg
 refine Ew Z1 (Ey rfl ((Y.lss rfl rfl).yd) (o6 (fun q9 => ?_) (fun q9 => ?_)))
 ·refine Eu (Eq_ (o2 rfl (j5 (Et (Eq_ (E.block (Ew Z2 (Em rfl (Ei rfl (Ev Z6 (Em rfl (Em rfl (Em rfl ?_)))))))))))))
  obtain ⟨eb14, eo14, ec14, ea14, er14, el14, eh14⟩ := hs.elem g om
  obtain ⟨xa14_0, xc14_0, xa14_1, xc14_1, rfl, xh14_0, xh14_1⟩ := a0R er14
  have := xh14_0.slen.2
  have := xh14_1.slen.2
  refine Ey rfl ((r7 us_Bindings ty_Binding rfl ea14 rfl g rfl om).yd) (Ey rfl (o9 (cs := [_, _]) ty_Binding rfl (eh14 _) rfl) (Est rfl (N.fn (cs := [_, _]) hf rfl rfl rfl dc (fun w Lp hA => a7I (x := s[g]) (hA.ro xh14_0) (hA.ro xh14_1)) (hD_f _ (List.getElem_mem om))) (fun _ _ => (Ent.b (fun q16 => ?_) (fun q16 => ?_)))))
  ·refine Eu (o2 rfl (Ew Z2 (Em rfl (Ei rfl ?_))))
   exact Eu (E.ret (w5 (l4 (l4 (w5 (l4 (Fg rfl rfl () (congrArg (Value.int .i64) (by first | exact P0 om pa q16 | exact O2 om pa)) rfl)))))))
  ·refine Eu (o3 rfl (j5 (t7 (Et (Ez Z2 (Ey rfl ((Y.add rfl rfl om om).yd) (Em rfl ?_)))))))
   exact Eu (v8 br (g + 1) rs (.refl _) ⟨by omega, T2 om pa q16⟩ om)
 ·refine Eu (Eq_ (o3 rfl (E.exit (o8 (o8 (x9 (Et (Ew Z1 (Ei rfl ?_)))))))))
  exact Eu (E.ret (Fg rfl rfl () (congrArg (Value.int .i64) (by first | exact P0 om pa q16 | exact O2 om pa)) rfl))
end Go.Proofs.YtdopeopehgdccaaGreat
end
section
namespace Go.Proofs.YtdopeopehgdccaaGreat
open Go.RowKit
set_option linter.unusedVariables false
set_option linter.unusedSimpArgs false
set_option maxHeartbeats 2000000
attribute [local irreducible] Nop Yd Yp Ent Has Tr FnP FnP2 Src
theorem b4w {a_s : Option Addr} {m_s c_s : Nat} {s : List (List Int × List Int)} {del_g : FuncId} {del_c : List Value} {D_del : (List Int × List Int) → Prop} {del : (List Int × List Int) → Bool} (hD_del : ∀ x ∈ s, D_del x) : Tr Tryz.prog 122 [.slice a_s m_s c_s, .func (.func del_g) #[] del_c.toArray] (fun w L => FnP Tryz.prog w L del_g del_c B0 a1d D_del del) [ow u9 [.slice a_s m_s c_s] s] (κ := Option Addr × Nat × Nat) (fun k => True) (fun k => .slice k.1 k.2.1 k.2.2) (fun k => [ow u9 [.slice k.1 k.2.1 k.2.2] (s.filter (fun x => !del x))]) := by
  refine n9 Tryz.func122 rfl (n := 42) rfl (by decide +kernel) (Nat.le_of_ble_eq_true rfl) (fr := [(0, .slice a_s m_s c_s), (1, .func (.func del_g) #[] del_c.toArray)]) rfl fun w L hR => ?_
  have hdel := hR
  refine i9 m0 fun es ls => ?_
  subst es
  refine E.seq (E.region (l := [0]) rfl (C1 rfl rfl (by decide) ((F7 rfl).yd) ?_))
  refine E.nil (D9 (E.seq (E.region (l := [0, 1, 2, 3]) rfl (C1 rfl rfl (by decide) ((l3 rfl).yd) ?_))))
  refine C1 rfl rfl (by decide) ((l3 rfl).yd) ?_
  refine a1O rfl rfl (n0 (a6Y (f := del) (D_f := D_del) hD_del) rfl rfl rfl (by decide) (fun w Lp hA => ⟨hA.ow m0, hA.fn hdel⟩)) (fun _ _ => ?_)
  refine C1 rfl rfl (by decide) ((F7 rfl).yd) ?_
  have hrg := a0O (p := del) (s := s)
  refine E.nil (D9 (E.seq (E.seq (E.region (l := [0, 1]) rfl (C1 rfl rfl (by decide) ((l3 rfl).yd) ?_)))))
  refine C1 rfl rfl (by decide) ((Y.eql rfl rfl).yd) (o6 (fun q12 => ?_) (fun q12 => ?_))
  · refine E.nil (D9 (o2 rfl (E.seq (E.region (l := [0, 1]) rfl (C1 rfl rfl (by decide) ((l3 rfl).yd) ?_)))))
    refine C1 rfl rfl (by decide) ((F7 rfl).yd) ?_
    refine E.nil (D9 (E.ret (l4 (j6 (congrArg (ow u9 [_]) (show s = s.filter (fun x => !del x) from (a5t (by omega)).symm)) ?_))))
    exact F.r1 (V2.refl _ _) rfl rfl (_, _, _) trivial rfl (J := _) (.refl _) (.inl rfl)
  · obtain ⟨i0, hi0⟩ : ∃ i0 : Nat, H0 del s = (i0 : Int) := ⟨(H0 del s).toNat, by omega⟩
    obtain ⟨f1, f2, f3, f4⟩ := a4x hi0
    refine E.nil (D9 (o3 rfl (j5 (D9 (E.seq (E.seq (E.region (l := [0, 1, 2]) rfl (C1 rfl rfl (by decide) ((l3 rfl).yd) ?_))))))))
    refine C1 rfl rfl (by decide) ((Y.add rfl rfl (by omega) (by omega)).yd) ?_
    refine C1 rfl rfl (by decide) ((F7 rfl).yd) ?_
    refine E.nil (D9 (E.block (a4a fun cs hcs => ?_)))
    replace hcs : cs.length = s.length * 2 := hcs
    show Ent _ _ _ _ (row tBinding 2 a_s s.length c_s cs :: _) _
    refine a3Z m0 fun hms => ?_
    refine a3e m0 (by omega) fun sb hsb _ => ?_
    subst hsb
    refine i7 ?_
    have hsp : s = s.take i0 ++ ([s[i0]] ++ s.drop (i0 + 1)) := by
      rw [List.singleton_append, ← List.drop_eq_getElem_cons f1, List.take_append_drop]
    refine j6 (congrArg (els B0 cs) hsp) ?_
    refine a2d fun ka kb hab hka => ?_
    refine i7 ?_
    refine a2d fun kb1 kb2 hb12 hkb => ?_
    subst hb12
    refine Ent.drop ?_
    replace hka : ka.length = i0 * 2 := by rw [hka, List.length_take, Nat.min_eq_left (by omega)]; rfl
    replace hkb : kb1.length = 2 := hkb
    have hinit := a9p (k := 2) hcs f1 hab hka hkb
    refine i7 ?_
    refine j6 (congrArg (els B0 ka) f4.symm) ?_
    refine i7 ?_
    refine E.loop (κ := Nat × Nat × List Value × List Value × List Value) (fun g => DfI 2 s.length g.2.1 g.1 g.2.2.1 g.2.2.2.1 g.2.2.2.2 ∧ g.2.1 = ((s.take g.1).filter (fun x => !del x)).length) (fun g => [(0, .slice (some ⟨sb, 0, none⟩) s.length c_s), (1, .func (.func del_g) #[] del_c.toArray), (5, .int .i64 (g.2.1 : Int)), (6, .int .i64 (g.1 : Int))]) (fun g => [els B0 g.2.2.2.2 (s.drop g.1), els B0 g.2.2.2.1 ((s.take g.1).filter (fun x => !del x)), row tBinding 2 (some ⟨sb, 0, none⟩) s.length c_s g.2.2.1]) (fun g => s.length - g.1) (i0 + 1, i0, cs, ka, kb2) ⟨hinit, by rw [f4, List.length_take, Nat.min_eq_left (by omega)]⟩ ⟨rfl, rfl, frI hi0, frI (by omega), trivial⟩ (.refl _) (fun g pg => ?_)
    obtain ⟨j, i, cur, kc, rc⟩ := g
    try dsimp only at pg
    obtain ⟨hI, hi⟩ := pg
    show Ent _ _ _ [(0, .slice (some ⟨sb, 0, none⟩) s.length c_s), (1, .func (.func del_g) #[] del_c.toArray), (5, .int .i64 (↑i : Int)), (6, .int .i64 (↑j : Int))] [els B0 rc (s.drop j), els B0 kc ((s.take j).filter (fun x => !del x)), row tBinding 2 (some ⟨sb, 0, none⟩) s.length c_s cur] _
    have hlt := hI.lt
    have hle := hI.le
    refine E.seq (E.seq (E.region (l := [0, 1, 2, 3]) rfl (C1 rfl rfl (by decide) ((l3 rfl).yd) ?_)))
    refine C1 rfl rfl (by decide) ((l3 rfl).yd) ?_
    refine C1 rfl rfl (by decide) ((Y.len us_Bindings rfl).yd) ?_
    refine C1 rfl rfl (by decide) ((Y.lss rfl rfl).yd) (o6 (fun q19 => ?_) (fun q19 => ?_))
    · have hj : j < s.length := by omega
      have hd : s.drop j = [s[j]] ++ s.drop (j + 1) := by rw [List.drop_eq_getElem_cons hj]; rfl
      refine j6 (congrArg (els B0 rc) hd) ?_
      refine a2d fun c1 c2 hc hc1 => ?_
      subst hc
      replace hc1 : c1.length = 2 := hc1
      refine a2z m0 fun h1e => ?_
      refine E.nil (D9 (o2 rfl (j5 (D9 (E.seq (E.block (E.seq (E.region (l := [0, 1, 2, 3, 4, 5]) rfl (C1 rfl rfl (by decide) ((l3 rfl).yd) ?_)))))))))
      refine C1 rfl rfl (by decide) ((l3 rfl).yd) ?_
      refine C1 rfl rfl (by decide) ((r7 us_Bindings ty_Binding rfl rfl rfl j rfl hj).yd) ?_
      refine C1 rfl rfl (by decide) (o9 (cs := c1) ty_Binding rfl (show Has _ _ _ sb (0 + j * 2) c1 from by rw [Nat.zero_add]; exact a3f (mS (mS (mS m0))) j (rest := c2) hI.r1) hc1) ?_
      refine a1O rfl rfl (N.alloc ty_Binding (by decide)) (fun b7 _ => ?_)
      refine a1O rfl rfl (b2c (vs := c1) (cs' := c1) ty_Binding rfl rfl rfl hc1 (List.all_eq_true.2 h1e) (Nat.le_of_ble_eq_true rfl) (by simp)) (fun _ _ => ?_)
      refine E.nil (D9 (E.seq (E.region (l := [0, 1, 2, 3]) rfl (C1 rfl rfl (by decide) ((l3 rfl).yd) ?_))))
      refine C1 rfl rfl (by decide) (o9 (cs := c1) ty_Binding rfl (Has.pt m0) hc1) ?_
      refine a1O rfl rfl (N.fn (cs := c1) hdel rfl rfl rfl (by decide) (fun w Lp hA => hA.els1 (mS m0)) (hD_del _ (List.getElem_mem hj))) (fun _ _ => (Ent.b (fun q28 => ?_) (fun q28 => ?_)))
      · refine C1 rfl rfl (by decide) ((Y.not (b := true) rfl).yd) ?_
        refine E.nil (D9 (o3 rfl (j5 (t7 (D9 (E.region (l := [0, 1, 2]) rfl (C1 rfl rfl (by decide) ((l3 rfl).yd) ?_)))))))
        refine C1 rfl rfl (by decide) ((Y.add rfl rfl (by omega) (by omega)).yd) ?_
        refine C1 rfl rfl (by decide) ((F7 rfl).yd) ?_
        have hK : (s.take (j + 1)).filter (fun x => !del x) = (s.take j).filter (fun x => !del x) := by rw [V9 hj, if_neg (by simp [q28])]
        refine E.nil (D9 (Ent.drop ?_))
        refine Ent.drop ?_
        refine i7 ?_
        refine j6 (congrArg (els B0 kc) hK.symm) ?_
        refine i7 ?_
        exact v8 (V2.refl _ _) (j + 1, i, cur, kc, c2) ⟨rfl, rfl, rfl, rfl, trivial⟩ (.refl _) ⟨hI.skip hj hc1, by rw [hK]; exact hi⟩ (show s.length - (j + 1) < s.length - j from by omega)
      · refine C1 rfl rfl (by decide) ((Y.not (b := false) rfl).yd) ?_
        refine E.nil (D9 (o2 rfl (E.seq (E.region (l := [0, 1, 2, 3, 4]) rfl (C1 rfl rfl (by decide) ((l3 rfl).yd) ?_)))))
        refine C1 rfl rfl (by decide) ((l3 rfl).yd) ?_
        refine C1 rfl rfl (by decide) (o9 (cs := c1) ty_Binding rfl (Has.pt m0) hc1) ?_
        refine C1 rfl rfl (by decide) ((r7 us_Bindings ty_Binding rfl rfl rfl i rfl (by omega)).yd) ?_
        refine C7 ?_
        refine a1O rfl rfl (b3t (i := i) (vs := c1) ty_Binding rfl (Nat.zero_add _) rfl rfl hc1 h1e (by omega) rfl) (fun _ _ => ?_)
        refine E.nil (D9 (E.region (l := [0, 1, 2]) rfl (C1 rfl rfl (by decide) ((l3 rfl).yd) ?_)))
        refine C1 rfl rfl (by decide) ((Y.add rfl rfl (by omega) (by omega)).yd) ?_
        refine C1 rfl rfl (by decide) ((F7 rfl).yd) ?_
        refine E.nil (t7 (D9 (E.region (l := [0, 1, 2]) rfl (C1 rfl rfl (by decide) ((l3 rfl).yd) ?_))))
        refine C1 rfl rfl (by decide) ((Y.add rfl rfl (by omega) (by omega)).yd) ?_
        refine C1 rfl rfl (by decide) ((F7 rfl).yd) ?_
        have hK : (s.take (j + 1)).filter (fun x => !del x) = (s.take j).filter (fun x => !del x) ++ [s[j]] := by rw [V9 hj, if_pos (by simp [q28])]
        refine E.nil (D9 (i7 ?_))
        refine Ent.drop ?_
        refine i7 ?_
        refine w7 ?_
        refine a9t ?_
        refine j6 (congrArg (els B0 (kc ++ c1)) hK.symm) ?_
        refine r5 ?_
        exact v8 (V2.refl _ _) (j + 1, i + 1, cur.take (i * 2) ++ c1 ++ cur.drop (i * 2 + 2), kc ++ c1, c2) ⟨rfl, rfl, rfl, rfl, trivial⟩ (.refl _) ⟨hI.put hj hc1, by rw [hK, List.length_append, ← hi]; rfl⟩ (show s.length - (j + 1) < s.length - j from by omega)
    · obtain rfl : j = s.length := by omega
      refine Ent.drop ?_
      refine E.nil (D9 (o3 rfl (E.exit (o8 (o8 (x9 (D9 (E.seq (E.region (l := [0, 1, 2, 3]) rfl (C1 rfl rfl (by decide) ((l3 rfl).yd) ?_))))))))))
      refine C1 rfl rfl (by decide) ((l3 rfl).yd) ?_
      refine C1 rfl rfl (by decide) ((a0p (l := i) us_Bindings ty_Binding rfl rfl (by omega) (by omega)).yd) ?_
      refine i7 ?_
      refine a1O rfl rfl (b4U (p := i) (q := s.length - i) us_Bindings ty_Binding (by simp [Value.oneCell']) rfl rfl (by omega) (by omega) (by omega) rfl) (fun _ _ => ?_)
      refine E.nil (D9 (E.seq (E.region (l := [0, 1, 2, 3]) rfl (C1 rfl rfl (by decide) ((l3 rfl).yd) ?_))))
      refine C1 rfl rfl (by decide) ((l3 rfl).yd) ?_
      refine C1 rfl rfl (by decide) ((a4j (h := i) us_Bindings ty_Binding rfl rfl (by omega)).yd) ?_
      refine C1 rfl rfl (by decide) ((F7 rfl).yd) ?_
      refine j6 (congrArg (row tBinding 2 (some ⟨sb, 0, none⟩) i c_s) hI.k1) ?_
      refine E.nil (D9 (E.ret (a2G (E := B0) hi (by unfold maxLen; omega) ?_)))
      refine j6 (congrArg (ow u9 [_]) (show _ = s.filter (fun x => !del x) from by rw [List.take_length])) ?_
      exact F.r1 (V2.refl _ _) rfl rfl (_, _, _) trivial rfl (J := _) (.refl _) (.inl rfl)
end Go.Proofs.YtdopeopehgdccaaGreat
end
