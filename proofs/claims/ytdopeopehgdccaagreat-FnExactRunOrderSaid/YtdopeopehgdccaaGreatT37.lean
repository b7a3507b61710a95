import Derived.Test.YtdopeopehgdccaaGreatBs
import Derived.Test.YtdopeopehgdccaaGreatT36
import Derived.Test.YtdopeopehgdccaaGreatT35
import Derived.Test.YtdopeopehgdccaaGreatT11
import Derived.Test.YtdopeopehgdccaaGreatT9
import Derived.Test.YtdopeopehgdccaaGreatDy
import Derived.Test.YtdopeopehgdccaaGreatBn
namespace Go.Proofs.YtdopeopehgdccaaGreat
open Go.RowKit
set_option linter.all false
set_option maxHeartbeats 2000000
attribute [local irreducible] Nop Yd Yp Ent Has Tr FnP FnP2 Src M5 V6 Y1 a0b D2
variable {g9 : Int} {l : List (Int × List Int × Int × Int × Int)} {j3 : List Int} {m_l c_l o5 n8 : Nat} {a_l n9 : Option Addr}
theorem a4H {a_s : Option Addr} {m_s c_s : Nat} {s : List Int} : Tr Tryz.prog 245 [.slice a_s m_s c_s, .slice a_l m_l c_l, .agg #[.int .i64 g9, .slice n9 o5 n8]] (fun w L => Ro w L eIs [.slice a_s m_s c_s] s ∧ Ro w L z8 [.slice a_l m_l c_l] l ∧ I64 g9 ∧ Ro w L eIs [.slice n9 o5 n8] j3) [] (κ := Unit) (fun k => True) (fun k => .bool (I0 s l (g9, j3))) (fun k => []) := by
 refine Tr.intro Tryz.func245 rfl (n := 48) rfl (by decide +kernel) bl (fr := [(0, .slice a_s m_s c_s), (1, .slice a_l m_l c_l), (2, .agg #[.int .i64 g9, .slice n9 o5 n8])]) rfl fun w L hR => ?_
 obtain ⟨hs, hl, D5, s3⟩ := hR
 obtain ⟨rfl, ls⟩ := hs.slen
 obtain ⟨rfl, ll⟩ := hl.slen
 obtain ⟨rfl, G6⟩ := s3.slen
 refine Ew Z2 (Est rfl (N.box (cs := [_, _]) rfl dc rfl) (fun b5 _ => (Eas rfl rfl (Eu (Eq_ (Eq_ (D.region (fun j => true) mixed (Dyp 0 rfl (Y.mv rfl) (Dyp 1 rfl (Y.mv rfl) (D.st 2 rfl rfl kr (fun _ => rfl) (N.call0 a1d rfl rfl rfl dc (fun w Lp hA => ⟨hA.ro hs, hA.ro hl⟩)) (fun _ _ => (Ent.b (fun q10 => ?_) (fun q10 => ?_)))))))))))))
 ·refine Dyp 3 rfl (Y.not (b := true) rfl) (Dyp 4 rfl (Y.mv rfl) (Dyp 5 rfl (Y.fld fo_Access_0 f8 dc rfl) (Dy 6 rfl (Y.ld1 f8 rfl ((Has.pt m0).sub (cs' := [_]) 0 rfl) rfl) (Dyp 7 rfl (Y.mv rfl) (Dyp 8 rfl (Y.len us_Methods rfl) (Dyp 9 rfl (Y.sub rfl rfl om om) (D.st 10 rfl rfl kr (fun _ => rfl) (N.call0 D4 rfl rfl rfl dc (fun w Lp hA => trivial)) (fun _ _ => (Ent.b (fun q18 => ?_) (fun q18 => ?_))))))))))
  ·have zz := O1 q18
   refine Dyp 11 rfl (Y.not (b := true) rfl) (Dyp 12 rfl (Y.pkf rfl rfl) (Dyp 13 rfl (Y.mv rfl) (Dyp 14 rfl (Y.fld fo_Access_1 ty_Is dc rfl) (Dy 15 rfl (Y.ld1 ty_Is rfl ((Has.pt m0).sub (cs' := [_]) 1 rfl) rfl) (Dyp 16 rfl (Y.len us_Is rfl) (Dyp 17 rfl (Y.mv rfl) (Dyp 18 rfl (Y.fld fo_Access_0 f8 dc rfl) (Dy 19 rfl (Y.ld1 f8 rfl ((Has.pt m0).sub (cs' := [_]) 0 rfl) rfl) ?_))))))))
   obtain ⟨eb28, eo28, ec28, ea28, er28, el28, eh28⟩ := hl.elem g9.toNat om
   obtain ⟨xa28_0, xc28_0, rfl, ei28_0, xh28_0, ei28_2, ei28_3, ei28_4⟩ := Ro.pMethod er28
   have := xh28_0.slen.2
   refine Dyp 20 rfl (Y.ix us_Methods ty_Method rfl ea28 rfl g9.toNat om om) (Dyp 21 rfl (Y.fld fo_Method_1 ty_Is dc rfl) (Dy 22 rfl (Y.ld1 ty_Is rfl ((eh28 _).sub (cs' := [_]) 1 rfl) rfl) (Dyp 23 rfl (Y.len us_Is rfl) (Dyp 24 rfl (Y.neq rfl rfl) (Ent.d (fun q32 => ?_) (fun q32 => ?_))))))
   ·refine Dyp 25 rfl (Y.pkf rfl rfl) (D.done kr (Et (E.ct rfl (Ew Z1 (Eas rfl rfl ?_)))))
    exact Eu (E.ret (E.thr (Fb rfl rfl (by grind [I0, H2, I7, d1, d2, t1, t2]))))
   ·refine Dyp 25 rfl (Y.pkf rfl rfl) (D.done kr (Et (E.cf rfl (E.skipc (Et (Eq_ (Ew Z1 (Eas rfl rfl (Eu (E.block (E.loop (κ := Nat) (fun g => g ≤ j3.length ∧ I7 j3 = I7 (j3.drop g)) (fun g => [(5, .pointer (some ⟨b5, 0, none⟩)), (7, .int .i64 (g : Int))]) (fun g => [pt b5 133 [.int .i64 g9, .slice n9 j3.length n8]]) (fun g => j3.length - g) 0 ⟨Nat.zero_le _, by simp⟩ ⟨rfl, rfl, trivial⟩ (.refl _) (fun g pg => ?_))))))))))))
    obtain ⟨pk, pa⟩ := pg
    refine Eq_ (Ew Z5 (Emv rfl rfl (Ey rfl ((Y.fld fo_Access_1 ty_Is dc rfl).yd) (Ey rfl (Y.ld1 ty_Is rfl ((Has.pt m0).sub (cs' := [_]) 1 rfl) rfl) (Ey rfl ((Y.len us_Is rfl).yd) (Ey rfl ((Y.lss rfl rfl).yd) (Ent.d (fun q38 => ?_) (fun q38 => ?_))))))))
    ·refine Eu (E.ct rfl (E.skipc (Et (Eq_ (E.block (Ew Z7 (Ey rfl ((Y.fld fo_Access_1 ty_Is dc rfl).yd) (Ey rfl (Y.ld1 ty_Is rfl ((Has.pt m0).sub (cs' := [_]) 1 rfl) rfl) (Emv rfl rfl ?_)))))))))
     obtain ⟨eb44, eo44, ea44, ei44, eh44⟩ := s3.elemI g om
     refine Ey rfl ((Y.ix us_Is f8 rfl ea44 rfl g rfl om).yd) (Ey rfl (Y.ld1 f8 rfl (eh44 _) rfl) (Est rfl (N.call0 D4 rfl rfl rfl dc (fun w Lp hA => trivial)) (fun _ _ => (Ent.b (fun q46 => ?_) (fun q46 => ?_)))))
     ·refine Ey rfl ((Y.not (b := true) rfl).yd) (Eu (E.cf rfl (E.skipc (E.bln (Et (Ez Z3 (Emv rfl rfl (Ey rfl ((Y.add rfl rfl om om).yd) (Eas rfl rfl ?_)))))))))
      exact Eu (E.again br (g + 1) ⟨rfl, rfl, trivial⟩ (.refl _) ⟨by omega, by grind [I7, d1, d2, t1, t2]⟩ om)
     ·refine Ey rfl ((Y.not (b := false) rfl).yd) (Eu (E.ct rfl (Ew Z1 (Eas rfl rfl ?_))))
      exact Eu (E.ret (E.blr (E.thr (E.thr (E.blr (E.thr (Fb rfl rfl (by grind [I0, H2, I7, d1, d2, t1, t2]))))))))
    ·refine Eu (E.cf rfl (E.exit (E.the (E.the (E.blh (Et (Ew Z1 (Eas rfl rfl ?_))))))))
     exact Eu (E.ret (Fb rfl rfl (by grind [I0, H2, I7, d1, d2, t1, t2])))
  ·refine Dyp 11 rfl (Y.not (b := false) rfl) (Dyp 12 rfl (Y.pkf rfl rfl) (Dyp 13 rfl (Y.mv rfl) (Dsk 14 rfl (Dsk 15 rfl (Dsk 16 rfl (Dsk 17 rfl (Dsk 18 rfl (Dsk 19 rfl (Dsk 20 rfl (Dsk 21 rfl (Dsk 22 rfl (Dsk 23 rfl (Dsk 24 rfl (Dyp 25 rfl (Y.pkt rfl rfl) (D.done kr (Et (E.ct rfl (Ew Z1 (Eas rfl rfl ?_)))))))))))))))))))
   exact Eu (E.ret (E.thr (Fb rfl rfl (by grind [I0, H2, I7, d1, d2, t1, t2]))))
 ·refine Dyp 3 rfl (Y.not (b := false) rfl) (Dyp 4 rfl (Y.mv rfl) (Dsk 5 rfl (Dsk 6 rfl (Dsk 7 rfl (Dsk 8 rfl (Dsk 9 rfl (Dsk 10 rfl (Dsk 11 rfl (Dyp 12 rfl (Y.pkt rfl rfl) (Dyp 13 rfl (Y.mv rfl) (Dsk 14 rfl (Dsk 15 rfl (Dsk 16 rfl (Dsk 17 rfl (Dsk 18 rfl (Dsk 19 rfl (Dsk 20 rfl (Dsk 21 rfl (Dsk 22 rfl (Dsk 23 rfl (Dsk 24 rfl (Dyp 25 rfl (Y.pkt rfl rfl) (D.done kr (Et (E.ct rfl (Ew Z1 (Eas rfl rfl ?_)))))))))))))))))))))))))))
  exact Eu (E.ret (E.thr (Fb rfl rfl (by grind [I0, H2, I7, d1, d2, t1, t2]))))
theorem a5I {a_facts : Option Addr} {m_facts c_facts : Nat} {d8 : List (Int × List Int)} (hma : 0 ≤ g9 ∧ g9.toNat < l.length) (hv : (atM l g9).2.1.length ≤ j3.length) (hif : ∀ f ∈ d8, f.1 = (atM l g9).1 → ∀ i ∈ (atM l g9).2.1, 0 ≤ i ∧ i < f.2.length) (hfl : d8.length ≤ 1048576) (hfe : ∀ f ∈ d8, f.2.length ≤ 1048576) : Tr Tryz.prog 120 [.slice a_l m_l c_l, .slice a_facts m_facts c_facts, .agg #[.int .i64 g9, .slice n9 o5 n8]] (fun w L => Ro w L z8 [.slice a_l m_l c_l] l ∧ Ro w L j9 [.slice a_facts m_facts c_facts] d8 ∧ I64 g9 ∧ Ro w L eIs [.slice n9 o5 n8] j3) [] (κ := Option Addr × Nat × Nat) (fun k => True) (fun k => .slice k.1 k.2.1 k.2.2) (fun k => [ow j9 [.slice k.1 k.2.1 k.2.2] (d8.filter (z6 (atM l g9) j3))]) := by
 refine Tr.intro Tryz.func120 rfl (n := 17) rfl (by decide +kernel) bl (fr := [(0, .slice a_l m_l c_l), (1, .slice a_facts m_facts c_facts), (2, .agg #[.int .i64 g9, .slice n9 o5 n8])]) rfl fun w L hR => ?_
 obtain ⟨hl, hfacts, D5, s3⟩ := hR
 obtain ⟨rfl, ll⟩ := hl.slen
 obtain ⟨rfl, lfacts⟩ := hfacts.slen
 obtain ⟨rfl, G6⟩ := s3.slen
 rw [H2 hma.2] at hv hif
 refine Ew Z2 (Est rfl (N.box (cs := [_, _]) rfl dc rfl) (fun b5 _ => (Eas rfl rfl (Ev Z7 (Emv rfl rfl (Ey rfl ((Y.fld fo_Access_0 f8 dc rfl).yd) (Ey rfl (Y.ld1 f8 rfl ((Has.pt m0).sub (cs' := [_]) 0 rfl) rfl) ?_)))))))
 obtain ⟨eb11, eo11, ec11, ea11, er11, el11, eh11⟩ := hl.elem g9.toNat om
 obtain ⟨xa11_0, xc11_0, rfl, ei11_0, xh11_0, ei11_2, ei11_3, ei11_4⟩ := Ro.pMethod er11
 have := xh11_0.slen.2
 refine Ey rfl ((Y.ix us_Methods ty_Method rfl ea11 rfl g9.toNat om om).yd) (Ey rfl (Y.ldS (cs := [_, _, _, _, _]) ty_Method rfl (eh11 _) rfl) (Est rfl (N.alloc ty_Method dc) (fun b7 _ => (Est rfl (N.sto (vs := [_, _, _, _, _]) (cs' := [_, _, _, _, _]) ty_Method rfl rfl rfl rfl rfl bl rfl) (fun _ _ => (Ev Z5 (Emv rfl rfl (Est rfl (N.call (a4c fo hfe) rfl rfl rfl dc rfl (fun w Lp hA => hA.ro hfacts)) (fun k14 _ => ?_)))))))))
 obtain ⟨a14, m14, c14⟩ := k14
 refine Ent.lenow m0 fun e14 l14 => ?_
 subst e14
 refine Ey rfl ((Y.fn (vs := [_, _]) rfl).yd) (Est rfl (N.call (pre := [_]) (a3x (del := (fun z => !z6 l[g9.toNat] j3 z)) (D_del := (fun z => (l[g9.toNat].2.1.length ≤ j3.length) ∧ (z.1 = l[g9.toNat].1 → ∀ i ∈ l[g9.toNat].2.1, 0 ≤ i ∧ i < z.2.length))) (by exact fun f hf => ⟨hv, hif f hf⟩)) rfl rfl rfl dc rfl (fun w Lp hA => FnP.ofFact (RR := fun w L => RoPt w L b7 [.int .i64 l[g9.toNat].1, .slice xa11_0 l[g9.toNat].2.1.length xc11_0, .int .i64 l[g9.toNat].2.2.1, .int .i64 l[g9.toNat].2.2.2.1, .int .i64 l[g9.toNat].2.2.2.2] ∧ I64 l[g9.toNat].1 ∧ Ro w L eIs [.slice xa11_0 l[g9.toNat].2.1.length xc11_0] l[g9.toNat].2.1 ∧ I64 l[g9.toNat].2.2.1 ∧ I64 l[g9.toNat].2.2.2.1 ∧ I64 l[g9.toNat].2.2.2.2 ∧ RoPt w L b5 [.int .i64 g9, .slice n9 j3.length n8] ∧ I64 g9 ∧ Ro w L eIs [.slice n9 j3.length n8] j3) (D := (fun z => (l[g9.toNat].2.1.length ≤ j3.length) ∧ (z.1 = l[g9.toNat].1 → ∀ i ∈ l[g9.toNat].2.1, 0 ≤ i ∧ i < z.2.length))) (fun hd => a3V hd.1 hd.2) (fun w' hk => ⟨(hA.pt m0).keep hk, ei11_0, (hA.ro xh11_0).keep hk, ei11_2, ei11_3, ei11_4, (hA.pt (mS m0)).keep hk, D5, (hA.ro s3).keep hk⟩))) (fun k16 _ => ?_))
 obtain ⟨a16, m16, c16⟩ := k16
 refine Ent.lenow m0 fun e16 l16 => ?_
 subst e16
 refine Eas rfl rfl (Eu (E.ret (Ent.cv (congrArg (ow j9 [_]) (show _ = d8.filter (z6 (atM l g9) j3) by rw [H2 hma.2]; exact a9k)) ?_)))
 exact Fg rfl rfl (_, _, _) rfl rfl
end Go.Proofs.YtdopeopehgdccaaGreat
