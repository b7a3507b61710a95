import Derived.Test.YthapcdhdfaibkaaGreatDoorT1
import Derived.Test.YthapcdhdfaibkaaGreatDoorGt
namespace Go.Proofs.YthapcdhdfaibkaaGreatDoor
open Go.RowKit
set_option linter.unusedVariables false
set_option linter.unusedSimpArgs false
set_option maxHeartbeats 2000000
attribute [local irreducible] Nop Yd Yp Ent Has Tr FnP FnP2 Src
theorem a7t {a_s : Option Addr} {m_s c_s : Nat} {s : List (Int × List Int)} {del_g : FuncId} {del_c : List Value} {D_del : (Int × List Int) → Prop} {del : (Int × List Int) → Bool} (hD_del : ∀ x ∈ s, D_del x) : Tr Tryz.prog 192 [.slice a_s m_s c_s, .func (.func del_g) #[] del_c.toArray] (fun w L => FnP Tryz.prog w L del_g del_c C9 a1J D_del del) [ow m8 [.slice a_s m_s c_s] s] (κ := Option Addr × Nat × Nat) (fun k => True) (fun k => .slice k.1 k.2.1 k.2.2) (fun k => [ow m8 [.slice k.1 k.2.1 k.2.2] (s.filter (fun x => !del x))]) := by
  refine Tr.intro Tryz.func192 rfl (n := 42) rfl (by decide +kernel) (Nat.le_of_ble_eq_true rfl) (fr := [(0, .slice a_s m_s c_s), (1, .func (.func del_g) #[] del_c.toArray)]) rfl fun w L hR => ?_
  have hdel := hR
  refine d7 m0 fun es ls => ?_
  subst es
  refine E.seq (E.region (l := [0]) rfl (T7 rfl rfl (by decide) ((C2 rfl).yd) ?_))
  refine E.nil (X1 (E.seq (E.region (l := [0, 1, 2, 3]) rfl (T7 rfl rfl (by decide) ((i8 rfl).yd) ?_))))
  refine T7 rfl rfl (by decide) ((i8 rfl).yd) ?_
  refine a8m rfl rfl (l0 (a2E (f := del) (D_f := D_del) hD_del) rfl rfl rfl (by decide) (fun w Lp hA => ⟨hA.ow m0, hA.fn hdel⟩)) (fun _ _ => ?_)
  refine T7 rfl rfl (by decide) ((C2 rfl).yd) ?_
  have hrg := a4O (p := del) (s := s)
  refine E.nil (X1 (E.seq (E.seq (E.region (l := [0, 1]) rfl (T7 rfl rfl (by decide) ((i8 rfl).yd) ?_)))))
  refine T7 rfl rfl (by decide) ((Y.eql rfl rfl).yd) (o3 (fun q12 => ?_) (fun q12 => ?_))
  · refine E.nil (X1 (n8 rfl (E.seq (E.region (l := [0, 1]) rfl (T7 rfl rfl (by decide) ((i8 rfl).yd) ?_)))))
    refine T7 rfl rfl (by decide) ((C2 rfl).yd) ?_
    refine E.nil (X1 (E.ret (n0 (j4 (congrArg (ow m8 [_]) (show s = s.filter (fun x => !del x) from (b2c (by omega)).symm)) ?_))))
    exact F.r1 (Y5.refl _ _) rfl rfl (_, _, _) trivial rfl (J := _) (.refl _) (.inl rfl)
  · obtain ⟨i0, hi0⟩ : ∃ i0 : Nat, M6 del s = (i0 : Int) := ⟨(M6 del s).toNat, by omega⟩
    obtain ⟨f1, f2, f3, f4⟩ := b1H hi0
    refine E.nil (X1 (o0 rfl (i7 (X1 (E.seq (E.seq (E.region (l := [0, 1, 2]) rfl (T7 rfl rfl (by decide) ((i8 rfl).yd) ?_))))))))
    refine T7 rfl rfl (by decide) ((Y.add rfl rfl (by omega) (by omega)).yd) ?_
    refine T7 rfl rfl (by decide) ((C2 rfl).yd) ?_
    refine E.nil (X1 (E.block (a3s fun cs hcs => ?_)))
    replace hcs : cs.length = s.length * 2 := hcs
    show Ent _ _ _ _ (row tFact 2 a_s s.length c_s cs :: _) _
    refine a7p m0 fun hms => ?_
    refine a8n m0 (by omega) fun sb hsb _ => ?_
    subst hsb
    refine d9 ?_
    have hsp : s = s.take i0 ++ ([s[i0]] ++ s.drop (i0 + 1)) := by
      rw [List.singleton_append, ← List.drop_eq_getElem_cons f1, List.take_append_drop]
    refine j4 (congrArg (els C9 cs) hsp) ?_
    refine a8q fun ka kb hab hka => ?_
    refine d9 ?_
    refine a8q fun kb1 kb2 hb12 hkb => ?_
    subst hb12
    refine Ent.drop ?_
    replace hka : ka.length = i0 * 2 := by rw [hka, List.length_take, Nat.min_eq_left (by omega)]; rfl
    replace hkb : kb1.length = 2 := hkb
    have hinit := b5W (k := 2) hcs f1 hab hka hkb
    refine d9 ?_
    refine j4 (congrArg (els C9 ka) f4.symm) ?_
    refine d9 ?_
    refine E.loop (κ := Nat × Nat × List Value × List Value × List Value) (fun g => DfI 2 s.length g.2.1 g.1 g.2.2.1 g.2.2.2.1 g.2.2.2.2 ∧ g.2.1 = ((s.take g.1).filter (fun x => !del x)).length) (fun g => [(0, .slice (some ⟨sb, 0, none⟩) s.length c_s), (1, .func (.func del_g) #[] del_c.toArray), (5, .int .i64 (g.2.1 : Int)), (6, .int .i64 (g.1 : Int))]) (fun g => [els C9 g.2.2.2.2 (s.drop g.1), els C9 g.2.2.2.1 ((s.take g.1).filter (fun x => !del x)), row tFact 2 (some ⟨sb, 0, none⟩) s.length c_s g.2.2.1]) (fun g => s.length - g.1) (i0 + 1, i0, cs, ka, kb2) ⟨hinit, by rw [f4, List.length_take, Nat.min_eq_left (by omega)]⟩ ⟨rfl, rfl, frI hi0, frI (by omega), trivial⟩ (.refl _) (fun g pg => ?_)
    obtain ⟨j, i, cur, kc, rc⟩ := g
    try dsimp only at pg
    obtain ⟨hI, hi⟩ := pg
    show Ent _ _ _ [(0, .slice (some ⟨sb, 0, none⟩) s.length c_s), (1, .func (.func del_g) #[] del_c.toArray), (5, .int .i64 (↑i : Int)), (6, .int .i64 (↑j : Int))] [els C9 rc (s.drop j), els C9 kc ((s.take j).filter (fun x => !del x)), row tFact 2 (some ⟨sb, 0, none⟩) s.length c_s cur] _
    have hlt := hI.lt
    have hle := hI.le
    refine E.seq (E.seq (E.region (l := [0, 1, 2, 3]) rfl (T7 rfl rfl (by decide) ((i8 rfl).yd) ?_)))
    refine T7 rfl rfl (by decide) ((i8 rfl).yd) ?_
    refine T7 rfl rfl (by decide) ((Y.len us_Facts rfl).yd) ?_
    refine T7 rfl rfl (by decide) ((Y.lss rfl rfl).yd) (o3 (fun q19 => ?_) (fun q19 => ?_))
    · have hj : j < s.length := by omega
      have hd : s.drop j = [s[j]] ++ s.drop (j + 1) := by rw [List.drop_eq_getElem_cons hj]; rfl
      refine j4 (congrArg (els C9 rc) hd) ?_
      refine a8q fun c1 c2 hc hc1 => ?_
      subst hc
      replace hc1 : c1.length = 2 := hc1
      refine a4R m0 fun h1e => ?_
      refine E.nil (X1 (n8 rfl (i7 (X1 (E.seq (E.block (E.seq (E.region (l := [0, 1, 2, 3, 4, 5]) rfl (T7 rfl rfl (by decide) ((i8 rfl).yd) ?_)))))))))
      refine T7 rfl rfl (by decide) ((i8 rfl).yd) ?_
      refine T7 rfl rfl (by decide) ((v8 us_Facts ty_Fact rfl rfl rfl j rfl hj).yd) ?_
      refine T7 rfl rfl (by decide) (o6 (cs := c1) ty_Fact rfl (show Has _ _ _ sb (0 + j * 2) c1 from by rw [Nat.zero_add]; exact a6f (mS (mS (mS m0))) j (rest := c2) hI.r1) hc1) ?_
      refine a8m rfl rfl (N.alloc ty_Fact (by decide)) (fun b7 _ => ?_)
      refine a8m rfl rfl (b0M (vs := c1) (cs' := c1) ty_Fact rfl rfl rfl hc1 (List.all_eq_true.2 h1e) (Nat.le_of_ble_eq_true rfl) (by simp)) (fun _ _ => ?_)
      refine E.nil (X1 (E.seq (E.region (l := [0, 1, 2, 3]) rfl (T7 rfl rfl (by decide) ((i8 rfl).yd) ?_))))
      refine T7 rfl rfl (by decide) (o6 (cs := c1) ty_Fact rfl (Has.pt m0) hc1) ?_
      refine a8m rfl rfl (N.fn (cs := c1) hdel rfl rfl rfl (by decide) (fun w Lp hA => hA.els1 (mS m0)) (hD_del _ (List.getElem_mem hj))) (fun _ _ => (Ent.b (fun q28 => ?_) (fun q28 => ?_)))
      · refine T7 rfl rfl (by decide) ((Y.not (b := true) rfl).yd) ?_
        refine E.nil (X1 (o0 rfl (i7 (s9 (X1 (E.region (l := [0, 1, 2]) rfl (T7 rfl rfl (by decide) ((i8 rfl).yd) ?_)))))))
        refine T7 rfl rfl (by decide) ((Y.add rfl rfl (by omega) (by omega)).yd) ?_
        refine T7 rfl rfl (by decide) ((C2 rfl).yd) ?_
        have hK : (s.take (j + 1)).filter (fun x => !del x) = (s.take j).filter (fun x => !del x) := by rw [a2v hj, if_neg (by simp [q28])]
        refine E.nil (X1 (Ent.drop ?_))
        refine Ent.drop ?_
        refine d9 ?_
        refine j4 (congrArg (els C9 kc) hK.symm) ?_
        refine d9 ?_
        exact x6 (Y5.refl _ _) (j + 1, i, cur, kc, c2) ⟨rfl, rfl, rfl, rfl, trivial⟩ (.refl _) ⟨hI.skip hj hc1, by rw [hK]; exact hi⟩ (show s.length - (j + 1) < s.length - j from by omega)
      · refine T7 rfl rfl (by decide) ((Y.not (b := false) rfl).yd) ?_
        refine E.nil (X1 (n8 rfl (E.seq (E.region (l := [0, 1, 2, 3, 4]) rfl (T7 rfl rfl (by decide) ((i8 rfl).yd) ?_)))))
        refine T7 rfl rfl (by decide) ((i8 rfl).yd) ?_
        refine T7 rfl rfl (by decide) (o6 (cs := c1) ty_Fact rfl (Has.pt m0) hc1) ?_
        refine T7 rfl rfl (by decide) ((v8 us_Facts ty_Fact rfl rfl rfl i rfl (by omega)).yd) ?_
        refine j9 ?_
        refine a8m rfl rfl (b8a (i := i) (vs := c1) ty_Fact rfl (Nat.zero_add _) rfl rfl hc1 h1e (by omega) rfl) (fun _ _ => ?_)
        refine E.nil (X1 (E.region (l := [0, 1, 2]) rfl (T7 rfl rfl (by decide) ((i8 rfl).yd) ?_)))
        refine T7 rfl rfl (by decide) ((Y.add rfl rfl (by omega) (by omega)).yd) ?_
        refine T7 rfl rfl (by decide) ((C2 rfl).yd) ?_
        refine E.nil (s9 (X1 (E.region (l := [0, 1, 2]) rfl (T7 rfl rfl (by decide) ((i8 rfl).yd) ?_))))
        refine T7 rfl rfl (by decide) ((Y.add rfl rfl (by omega) (by omega)).yd) ?_
        refine T7 rfl rfl (by decide) ((C2 rfl).yd) ?_
        have hK : (s.take (j + 1)).filter (fun x => !del x) = (s.take j).filter (fun x => !del x) ++ [s[j]] := by rw [a2v hj, if_pos (by simp [q28])]
        refine E.nil (X1 (d9 ?_))
        refine Ent.drop ?_
        refine d9 ?_
        refine o4 ?_
        refine b5V ?_
        refine j4 (congrArg (els C9 (kc ++ c1)) hK.symm) ?_
        refine j8 ?_
        exact x6 (Y5.refl _ _) (j + 1, i + 1, cur.take (i * 2) ++ c1 ++ cur.drop (i * 2 + 2), kc ++ c1, c2) ⟨rfl, rfl, rfl, rfl, trivial⟩ (.refl _) ⟨hI.put hj hc1, by rw [hK, List.length_append, ← hi]; rfl⟩ (show s.length - (j + 1) < s.length - j from by omega)
    · obtain rfl : j = s.length := by omega
      refine Ent.drop ?_
      refine E.nil (X1 (o0 rfl (E.exit (q1 (q1 (y4 (X1 (E.seq (E.region (l := [0, 1, 2, 3]) rfl (T7 rfl rfl (by decide) ((i8 rfl).yd) ?_))))))))))
      refine T7 rfl rfl (by decide) ((i8 rfl).yd) ?_
      refine T7 rfl rfl (by decide) ((a3E (l := i) us_Facts ty_Fact rfl rfl (by omega) (by omega)).yd) ?_
      refine d9 ?_
      refine a8m rfl rfl (b8U (p := i) (q := s.length - i) us_Facts ty_Fact (by simp [Value.oneCell']) rfl rfl (by omega) (by omega) (by omega) rfl) (fun _ _ => ?_)
      refine E.nil (X1 (E.seq (E.region (l := [0, 1, 2, 3]) rfl (T7 rfl rfl (by decide) ((i8 rfl).yd) ?_))))
      refine T7 rfl rfl (by decide) ((i8 rfl).yd) ?_
      refine T7 rfl rfl (by decide) ((a3F (h := i) us_Facts ty_Fact rfl rfl (by omega)).yd) ?_
      refine T7 rfl rfl (by decide) ((C2 rfl).yd) ?_
      refine j4 (congrArg (row tFact 2 (some ⟨sb, 0, none⟩) i c_s) hI.k1) ?_
      refine E.nil (X1 (E.ret (a3u (E := C9) hi (by unfold maxLen; omega) ?_)))
      refine j4 (congrArg (ow m8 [_]) (show _ = s.filter (fun x => !del x) from by rw [List.take_length])) ?_
      exact F.r1 (Y5.refl _ _) rfl rfl (_, _, _) trivial rfl (J := _) (.refl _) (.inl rfl)
end Go.Proofs.YthapcdhdfaibkaaGreatDoor
