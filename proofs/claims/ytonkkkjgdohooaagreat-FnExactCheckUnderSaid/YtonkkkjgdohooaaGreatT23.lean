import Derived.Test.YtonkkkjgdohooaaGreatBb
import Derived.Test.YtonkkkjgdohooaaGreatBs
import Derived.Test.YtonkkkjgdohooaaGreatT22
import Derived.Test.YtonkkkjgdohooaaGreatDs
section
namespace Go.Proofs.YtonkkkjgdohooaaGreat
open Go.RowKit
set_option linter.unusedVariables false
end Go.Proofs.YtonkkkjgdohooaaGreat
end
section
namespace Go.Proofs.YtonkkkjgdohooaaGreat
open Go.RowKit
set_option linter.unusedVariables false
set_option linter.unusedSimpArgs false
set_option maxHeartbeats 2000000
attribute [local irreducible] Nop Yd Yp Ent Has Tr FnP FnP2 Src listsF opnF opn1 opnR chainB
theorem t_slices_Grow_int_int {a_s : Option Addr} {m_s c_s : Nat} {s : List Int} {n : Int} (hs : s = []) (hc : c_s = 0) (hn : 0 ≤ n ∧ n ≤ 1048576) : Tr Tryz.prog 305 [.slice a_s m_s c_s, .int .i64 n] (fun w L => True) [ow eIs [.slice a_s m_s c_s] s] (κ := Option Addr × Nat × Nat) (fun k => True) (fun k => .slice k.1 k.2.1 k.2.2) (fun k => [ow eIs [.slice k.1 k.2.1 k.2.2] s]) := by
  refine Tr.intro Tryz.func305 rfl (n := 27) rfl (by decide +kernel) bl (fr := [(0, .slice a_s m_s c_s), (1, .int .i64 n)]) rfl fun w L hR => (Ent.lenow m0 fun es ls => ?_)
  subst es
  refine Ent.spl fun cs hcs => ?_
  replace hcs : cs.length = s.length * 1 := hcs
  show Ent _ _ _ _ (row tI 1 a_s s.length c_s cs :: _) _
  refine Ent.elone (mS m0) fun h1s => (Ent.rmc m0 fun hms => ?_)
  have hs0 : s.length = 0 := by simp [hs]
  refine Ew Z1 (Eas rfl rfl (Eu (Eq_ (Ew Z2 (Emv rfl rfl (Ey rfl ((Y.lss rfl rfl).yd) (Ent.d (fun q6 => ?_) (fun q6 => ?_))))))))
  · exact absurd q6 om
  · refine Eu (E.cf rfl (E.skipc (Et (Eq_ (Ew Z8 (Emv rfl rfl (Emv rfl rfl (Ey rfl ((Y.cap us_Is rfl).yd) (Emv rfl rfl (Ey rfl ((Y.len us_Is rfl).yd) (Ey rfl ((Y.sub rfl rfl om om).yd) (Ey rfl ((Y.sub rfl rfl om om).yd) (Eas rfl rfl (Ev Z2 (Emv rfl rfl (Ey rfl ((Y.gtr rfl rfl).yd) (Ent.d (fun q16 => ?_) (fun q16 => ?_))))))))))))))))))
    · refine Eu (E.ct rfl (Ez Z10 (Emv rfl rfl (Emv rfl rfl (Ey rfl ((Y.cap us_Is rfl).yd) (Ey rfl ((Y.slTo (h := c_s) us_Is ty_I rfl rfl om).yd) (Emv rfl rfl (Est rfl (N.appz (zn := n.toNat) us_Is kr ty_I dc rfl rfl om om om m0 om om om dc) (fun p22 hp22 => ?_)))))))))
      obtain ⟨pb22, pc22, pz22⟩ := p22
      obtain ⟨hp22, hq22⟩ := hp22
      dsimp only at hp22 hq22
      refine Emv rfl rfl (Ey rfl ((Y.len us_Is rfl).yd) (Ey rfl ((Y.slTo (h := s.length) us_Is ty_I rfl rfl om).yd) (Eas rfl rfl (Ev Z2 (Emv rfl rfl (Eas rfl rfl (Eu (E.ret (Ent.shr (m' := s.length) om (Ent.cv (congrArg (row tI 1 (some ⟨pb22, 0, none⟩) s.length pc22) (show _ = cs from (List.eq_nil_of_length_eq_zero (by simp [hs0])).trans (List.eq_nil_of_length_eq_zero (by simp [hcs, hs0])).symm)) (Ent.p2 (Ent.p1 (Ent.joi (E := Enc.int) rfl mx ?_)))))))))))))
      exact Fg rfl rfl (_, _, _) rfl rfl
    · refine Eu (E.cf rfl (E.skipc (Et (Ew Z2 (Emv rfl rfl (Eas rfl rfl (Eu (E.ret (Ent.p1 (Ent.p1 (Ent.joi (E := Enc.int) rfl mx ?_)))))))))))
      exact Fg rfl rfl (_, _, _) rfl rfl
theorem t_slices_Concat_int_int {a_l : Option Addr} {m_l c_l : Nat} {l : List (List Int)} (hz : lenS l ≤ 1048576) : Tr Tryz.prog 239 [.slice a_l m_l c_l] (fun w L => Ro w L eIss [.slice a_l m_l c_l] l) [] (κ := Option Addr × Nat × Nat) (fun k => True) (fun k => .slice k.1 k.2.1 k.2.2) (fun k => [ow eIs [.slice k.1 k.2.1 k.2.2] l.flatten]) := by
  refine Tr.intro Tryz.func239 rfl (n := 36) rfl (by decide +kernel) bl (fr := [(0, .slice a_l m_l c_l)]) rfl fun w L hR => ?_
  have hl := hR
  obtain ⟨rfl, ll⟩ := hl.slen
  refine Ew Z1 (Eas rfl rfl (Ev Z1 (Eas rfl rfl (Eu (Eq_ (Ew Z3 (Emv rfl rfl (Ey rfl ((Y.len us_Iss rfl).yd) (Emv rfl rfl (Eu (E.block (E.loop (κ := Nat) (fun g => g ≤ l.length ∧ True) (fun g => [(0, .slice a_l l.length c_l), (3, .int .i64 (↑(lenS (l.take g)) : Int)), (9, .slice a_l l.length c_l), (10, .int .i64 (↑l.length : Int)), (11, .int .i64 (g : Int))]) (fun g => []) (fun g => l.length - g) (0) ⟨Nat.zero_le _, by simp⟩ ⟨rfl, frI (by first | rfl | (simp; done) | grind [lenS_snoc, lenS_nil, d1, d2, t1, t2]), rfl, rfl, rfl, trivial⟩ (.refl _) (fun g pg => ?_)))))))))))))
  try dsimp only
  obtain ⟨pk, pa⟩ := pg
  have js := lenS_take (l := l) (g := g)
  have js1 := lenS_take (l := l) (g := g + 1)
  refine Ew Z1 (Ey rfl ((Y.lss rfl rfl).yd) (Ent.d (fun q12 => ?_) (fun q12 => ?_)))
  · have jk0 : lenS (l.take (g + 1)) = lenS (l.take g) + l[g].length := by rw [List.take_succ_eq_append_getElem om, lenS_snoc]
    obtain ⟨eb13, eo13, ec13, ea13, er13, el13, eh13⟩ := hl.elem g om
    obtain ⟨xa13, xc13, rfl⟩ := er13.sl
    have := er13.slen.2
    refine Eu (Eq_ (E.ct rfl (E.skipc (Et (Eq_ (E.block (Ew Z3 (Ey rfl ((Y.ix us_Iss ty_Is rfl ea13 rfl g rfl om).yd) (Ey rfl (Y.ld1 ty_Is rfl (eh13 _) rfl) (Eas rfl rfl (Ev Z5 (Emv rfl rfl (Emv rfl rfl (Ey rfl ((Y.len us_Is rfl).yd) (Ey rfl ((Y.add rfl rfl om om).yd) (Eas rfl rfl (Ev Z2 (Emv rfl rfl (Ey rfl ((Y.lss rfl rfl).yd) (Ent.d (fun q20 => ?_) (fun q20 => ?_)))))))))))))))))))))
    · exact absurd q20 om
    · refine Eu (E.cf rfl (E.skipc (E.bln (Et (Ez Z2 (Ey rfl ((Y.add rfl rfl om om).yd) (Emv rfl rfl ?_)))))))
      exact Eu (E.again br (g + 1) ⟨rfl, frI (by grind [lenS_snoc, lenS_nil, d1, d2, t1, t2]), rfl, rfl, rfl, trivial⟩ (.refl _) ⟨(show g + 1 ≤ l.length from by omega), trivial⟩ (show l.length - (g + 1) < l.length - g from by omega))
  · refine Eu (Eq_ (E.cf rfl (E.exit (E.the (E.the (E.blh (Et (Ew Z3 (Emv rfl rfl (Ent.mkow (A := []) (Own.nil (E := Enc.int) (e := tI) (a := none)) rfl (Est rfl (N.call (pre := [_]) (t_slices_Grow_int_int rfl rfl om) rfl rfl rfl dc rfl (fun w Lp hA => trivial)) (fun k24 _ => ?_))))))))))))
    obtain ⟨a24, m24, c24⟩ := k24
    refine Ent.lenow m0 fun e24 l24 => ?_
    subst e24
    refine Eas rfl rfl (Eu (Eq_ (Ew Z3 (Emv rfl rfl (Ey rfl ((Y.len us_Iss rfl).yd) (Emv rfl rfl (Eu (E.block (Ent.cv (congrArg (ow eIs [_]) (show ([]) = (l.take 0).flatten from by first | rfl | (simp; done) | grind [lenS_snoc, lenS_nil, d1, d2, t1, t2])) (E.loop (κ := Nat × Option Addr × Nat × Nat) (fun r => r.1 ≤ l.length ∧ True) (fun r => [(6, .slice r.2.1 r.2.2.1 r.2.2.2), (25, .slice a_l l.length c_l), (26, .int .i64 (↑l.length : Int)), (27, .int .i64 (↑r.1 : Int))]) (fun r => [ow eIs [.slice r.2.1 r.2.2.1 r.2.2.2] ((l.take r.1).flatten)]) (fun r => l.length - r.1) (0, a24, (([])).length, c24) ⟨Nat.zero_le _, by simp⟩ ⟨rfl, rfl, rfl, rfl, trivial⟩ (.refl _) (fun r pr => ?_)))))))))))
    obtain ⟨r, aA1_0, mA1_0, cA1_0⟩ := r
    try dsimp only at pr
    try dsimp only
    obtain ⟨pk, pa⟩ := pr
    have jt := lenS_take (l := l) (g := r)
    have ju := flatten_len (l := l.take r)
    have jt1 := lenS_take (l := l) (g := r + 1)
    refine Ent.lenow m0 fun eaA1_0 laA1_0 => ?_
    subst eaA1_0
    refine Ew Z1 (Ey rfl ((Y.lss rfl rfl).yd) (Ent.d (fun q28 => ?_) (fun q28 => ?_)))
    · have jk : lenS (l.take (r + 1)) = lenS (l.take r) + l[r].length := by rw [List.take_succ_eq_append_getElem om, lenS_snoc]
      obtain ⟨eb29, eo29, ec29, ea29, er29, el29, eh29⟩ := hl.elem r om
      obtain ⟨xa29, xc29, rfl⟩ := er29.sl
      have := er29.slen.2
      refine Eu (Eq_ (E.ct rfl (E.skipc (Et (Eq_ (E.block (Ew Z3 (Ey rfl ((Y.ix us_Iss ty_Is rfl ea29 rfl r rfl om).yd) (Ey rfl (Y.ld1 ty_Is rfl (eh29 _) rfl) (Eas rfl rfl (Eu (Ez Z4 (Emv rfl rfl (Emv rfl rfl (Est rfl (N.pushR (E := Enc.int) Plain.int us_Is ty_I rfl rfl rfl er29 rfl bn bn dc) (fun p33 _ => (Eas rfl rfl (En (E.bln (Et (Ez Z2 (Ey rfl ((Y.add rfl rfl om om).yd) (Emv rfl rfl (Eu (Ent.cv (congrArg (ow eIs [_]) (show ((l.take r).flatten) ++ l[r] = (l.take (r + 1)).flatten from by grind [lenS_snoc, lenS_nil, d1, d2, t1, t2])) ?_)))))))))))))))))))))))))
      exact E.again br (r + 1, p33.1, (((l.take r).flatten).length + l[r].length), p33.2) ⟨rfl, rfl, rfl, rfl, trivial⟩ (.refl _) ⟨(show r + 1 ≤ l.length from by omega), trivial⟩ (show l.length - (r + 1) < l.length - r from by omega)
    · refine Eu (Eq_ (E.cf rfl (E.exit (E.the (E.the (E.blh (Et (Ew Z2 (Emv rfl rfl (Eas rfl rfl (Eu (E.ret (Ent.cv (congrArg (ow eIs [_]) (show _ = l.flatten by grind [lenS_snoc, lenS_nil, d1, d2, t1, t2])) ?_)))))))))))))
      exact Fg rfl rfl (_, _, _) rfl rfl
end Go.Proofs.YtonkkkjgdohooaaGreat
end
