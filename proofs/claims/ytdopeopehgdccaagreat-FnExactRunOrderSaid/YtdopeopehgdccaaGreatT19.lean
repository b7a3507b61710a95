import Derived.Test.YtdopeopehgdccaaGreatBs
import Derived.Test.YtdopeopehgdccaaGreatT17
import Derived.Test.YtdopeopehgdccaaGreatT20
import Derived.Test.YtdopeopehgdccaaGreatT11
import Derived.Test.YtdopeopehgdccaaGreatT13
import Derived.Test.YtdopeopehgdccaaGreatT16
import Derived.Test.YtdopeopehgdccaaGreatBd
import Derived.Test.YtdopeopehgdccaaGreatDs
namespace Go.Proofs.YtdopeopehgdccaaGreat
open Go.RowKit
set_option linter.all false
set_option maxHeartbeats 2000000
attribute [local irreducible] Nop Yd Yp Ent Has Tr FnP FnP2 Src M5 V6 Y1 a0b D2
variable {f_g : FuncId} {v : Int} {d6 : List (Int × List Int)} {s l a : List (List Int)} {x t i8 : List Int} {f_c : List Value} {m_s c_s m_x c_x b_t m_t c_t m_l c_l m_a c_a m_b c_b u7 o6 s5 o0 : Nat} {a_s a_x a_t a_l a_a a_b o7 o1 : Option Addr}
theorem a1T {D_f : (List Int) → Prop} {f : (List Int) → Bool} (hD_f : ∀ x ∈ s, D_f x) : Tr Tryz.prog 240 [.slice a_s m_s c_s, .func (.func f_g) #[] f_c.toArray] (fun w L => Ro w L D0 [.slice a_s m_s c_s] s ∧ FnP Tryz.prog w L f_g f_c eIs a3a D_f f) [] (κ := Unit) (fun k => True) (fun k => .int .i64 (D3 f s)) (fun k => []) := by
 refine Tr.intro Tryz.func240 rfl (n := 19) rfl (by decide +kernel) bl (fr := [(0, .slice a_s m_s c_s), (1, .func (.func f_g) #[] f_c.toArray)]) rfl fun w L hR => ?_
 obtain ⟨hs, hf⟩ := hR
 obtain ⟨rfl, ls⟩ := hs.slen
 refine Ew Z1 (Eas rfl rfl (Eu (Eq_ (Ew Z3 (Emv rfl rfl (Ey rfl ((Y.len us_Iss rfl).yd) (Emv rfl rfl (Eu (E.block (E.loop (κ := Nat) (fun g => g ≤ s.length ∧ ∀ x ∈ s.take g, f x = false) (fun g => [(0, .slice a_s s.length c_s), (1, .func (.func f_g) #[] f_c.toArray), (7, .int .i64 (↑s.length : Int)), (8, .int .i64 (g : Int))]) (fun g => []) (fun g => s.length - g) 0 ⟨by omega, by simp⟩ ⟨rfl, rfl, rfl, rfl, trivial⟩ (.refl _) (fun g pg => ?_)))))))))))
 obtain ⟨pk, pa⟩ := pg
 refine Ew Z1 (Ey rfl ((Y.lss rfl rfl).yd) (Ent.d (fun q9 => ?_) (fun q9 => ?_)))
 ·refine Eu (Eq_ (E.ct rfl (E.skipc (Et (Eq_ (E.block (Ew Z2 (Emv rfl rfl (Eas rfl rfl (Ev Z6 (Emv rfl rfl (Emv rfl rfl (Emv rfl rfl ?_)))))))))))))
  obtain ⟨eb14, eo14, ec14, ea14, er14, el14, eh14⟩ := hs.elem g om
  obtain ⟨xa14, xc14, rfl⟩ := er14.sl
  have := er14.slen.2
  refine Ey rfl ((Y.ix us_Iss ty_Is rfl ea14 rfl g rfl om).yd) (Ey rfl (Y.ld1 ty_Is rfl (eh14 _) rfl) (Est rfl (N.fn (cs := [_]) hf rfl rfl rfl dc (fun w Lp hA => (hA.ro er14)) (hD_f _ (List.getElem_mem om))) (fun _ _ => (Ent.b (fun q16 => ?_) (fun q16 => ?_)))))
  ·refine Eu (E.ct rfl (Ew Z2 (Emv rfl rfl (Eas rfl rfl ?_))))
   exact Eu (E.ret (E.blr (E.thr (E.thr (E.blr (E.thr (Fg rfl rfl () (congrArg (Value.int .i64) (by first | exact M3 om pa q16 | exact J2 om pa)) rfl)))))))
  ·refine Eu (E.cf rfl (E.skipc (E.bln (Et (Ez Z2 (Ey rfl ((Y.add rfl rfl om om).yd) (Emv rfl rfl ?_)))))))
   exact Eu (E.again br (g + 1) rs (.refl _) ⟨by omega, S0 om pa q16⟩ om)
 ·refine Eu (Eq_ (E.cf rfl (E.exit (E.the (E.the (E.blh (Et (Ew Z1 (Eas rfl rfl ?_)))))))))
  exact Eu (E.ret (Fg rfl rfl () (congrArg (Value.int .i64) (by first | exact M3 om pa q16 | exact J2 om pa)) rfl))
theorem a3C {D_f : (List Int) → Prop} {f : (List Int) → Bool} (hD_f : ∀ x ∈ s, D_f x) : Tr Tryz.prog 293 [.slice a_s m_s c_s, .func (.func f_g) #[] f_c.toArray] (fun w L => Ro w L D0 [.slice a_s m_s c_s] s ∧ FnP Tryz.prog w L f_g f_c eIs a3a D_f f) [] (κ := Unit) (fun k => True) (fun k => .bool (s.any f)) (fun k => []) := by
 refine Tr.intro Tryz.func293 rfl (n := 9) rfl (by decide +kernel) bl (fr := [(0, .slice a_s m_s c_s), (1, .func (.func f_g) #[] f_c.toArray)]) rfl fun w L hR => ?_
 obtain ⟨hs, hf⟩ := hR
 obtain ⟨rfl, ls⟩ := hs.slen
 refine Ew Z1 (Eas rfl rfl (Ev Z5 (Emv rfl rfl (Emv rfl rfl (Est rfl (N.call0 (a1T (f := f) (D_f := D_f) hD_f) rfl rfl rfl dc (fun w Lp hA => ⟨hA.ro hs, hA.fn hf⟩)) (fun _ _ => (Ey rfl ((Y.geq rfl rfl).yd) (Eas rfl rfl ?_))))))))
 exact Eu (E.ret (Fb rfl rfl (by exact U9)))
theorem a3v : Tr Tryz.prog 294 [.slice a_x m_x c_x, .pointer (some ⟨b_t, 0, none⟩)] (fun w L => (Ro w L eIs [.slice a_x m_x c_x] x) ∧ RoPt w L b_t [.slice a_t m_t c_t] ∧ Ro w L eIs [.slice a_t m_t c_t] t) [] (κ := Unit) (fun k => True) (fun k => .bool (decide (x = t))) (fun k => []) := by
 refine Tr.intro Tryz.func294 rfl (n := 7) rfl (by decide +kernel) bl (fr := [(0, .slice a_x m_x c_x), (1, .pointer (some ⟨b_t, 0, none⟩))]) rfl fun w L hR => ?_
 obtain ⟨hx, hb_t, ht⟩ := hR
 obtain ⟨rfl, lx⟩ := hx.slen
 obtain ⟨rfl, lt⟩ := ht.slen
 refine Ew Z1 (Eas rfl rfl (Ev Z4 (Emv rfl rfl (Ey rfl (Y.ld1 ty_Is rfl (hb_t.has) rfl) (Est rfl (N.call0 a0l rfl rfl rfl dc (fun w Lp hA => ⟨hA.ro hx, hA.ro ht⟩)) (fun _ _ => (Eas rfl rfl ?_)))))))
 exact Eu (E.ret (Fg rfl rfl () rfl rfl))
theorem a5c : Tr Tryz.prog 239 [.slice a_l m_l c_l, .slice a_t m_t c_t] (fun w L => Ro w L D0 [.slice a_l m_l c_l] l ∧ Ro w L eIs [.slice a_t m_t c_t] t) [] (κ := Unit) (fun k => True) (fun k => .bool (I6 l t)) (fun k => []) := by
 refine Tr.intro Tryz.func239 rfl (n := 8) rfl (by decide +kernel) bl (fr := [(0, .slice a_l m_l c_l), (1, .slice a_t m_t c_t)]) rfl fun w L hR => ?_
 obtain ⟨hl, ht⟩ := hR
 obtain ⟨rfl, ll⟩ := hl.slen
 obtain ⟨rfl, lt⟩ := ht.slen
 refine Ew Z2 (Est rfl (N.box (cs := [_]) rfl dc rfl) (fun b3 _ => (Eas rfl rfl (Ev Z4 (Emv rfl rfl (Ey rfl ((Y.fn (vs := [_]) rfl).yd) (Est rfl (N.call0 (a3C (f := (fun x => decide (x = t))) (D_f := (fun _ => True)) (by intros; exact trivial)) rfl rfl rfl dc (fun w Lp hA => ⟨hA.ro hl, FnP.ofIs (D := (fun _ => True)) (fun hd => a3v) (fun w' hk => ⟨(hA.pt m0).keep hk, (hA.ro ht).keep hk⟩)⟩)) (fun _ _ => (Eas rfl rfl ?_)))))))))
 exact Eu (E.ret (Fb rfl rfl (by grind [I6, d1, d2, t1, t2])))
theorem a2K : Tr Tryz.prog 241 [.slice a_x m_x c_x, .pointer (some ⟨b_t, 0, none⟩)] (fun w L => (Ro w L eIs [.slice a_x m_x c_x] x) ∧ RoPt w L b_t [.slice a_t m_t c_t] ∧ Ro w L eIs [.slice a_t m_t c_t] t) [] (κ := Unit) (fun k => True) (fun k => .bool (decide (0 < C6 x t))) (fun k => []) := by
 refine Tr.intro Tryz.func241 rfl (n := 8) rfl (by decide +kernel) bl (fr := [(0, .slice a_x m_x c_x), (1, .pointer (some ⟨b_t, 0, none⟩))]) rfl fun w L hR => ?_
 obtain ⟨hx, hb_t, ht⟩ := hR
 obtain ⟨rfl, lx⟩ := hx.slen
 obtain ⟨rfl, lt⟩ := ht.slen
 refine Ew Z1 (Eas rfl rfl (Ev Z5 (Emv rfl rfl (Ey rfl (Y.ld1 ty_Is rfl (hb_t.has) rfl) (Est rfl (N.call0 a0a rfl rfl rfl dc (fun w Lp hA => ⟨hA.ro hx, hA.ro ht⟩)) (fun _ _ => (Ey rfl ((Y.gtr rfl rfl).yd) (Eas rfl rfl ?_))))))))
 exact Eu (E.ret (Fg rfl rfl () rfl rfl))
theorem a3w (hz : l.length ≤ 1000000000000) (ht : t.length ≤ 1048576) : Tr Tryz.prog 165 [.slice a_l m_l c_l, .slice a_t m_t c_t] (fun w L => Ro w L eIs [.slice a_t m_t c_t] t) [ow D0 [.slice a_l m_l c_l] l] (κ := Option Addr × Nat × Nat) (fun k => True) (fun k => .slice k.1 k.2.1 k.2.2) (fun k => [ow D0 [.slice k.1 k.2.1 k.2.2] (H8 l t)]) := by
 refine Tr.intro Tryz.func165 rfl (n := 23) rfl (by decide +kernel) bl (fr := [(0, .slice a_l m_l c_l), (1, .slice a_t m_t c_t)]) rfl fun w L hR => ?_
 have ht := hR
 obtain ⟨rfl, lt⟩ := ht.slen
 refine Ent.lenow m0 fun el ll => ?_
 subst el
 refine Ew Z2 (Est rfl (N.box (cs := [_]) rfl dc rfl) (fun b3 _ => (Eas rfl rfl (Eu (Eq_ (Ew Z3 (Emv rfl rfl (Ey rfl (Y.ld1 ty_Is rfl (Has.pt m0) rfl) (Est rfl (N.call0 a5c rfl rfl rfl dc (fun w Lp hA => ⟨hA.ow (mS m0), hA.ro ht⟩)) (fun _ _ => (Ent.b (fun q8 => ?_) (fun q8 => ?_))))))))))))
 ·refine Eu (E.ct rfl (Ew Z2 (Emv rfl rfl (Eas rfl rfl (Eu (E.ret (E.thr (Ent.p1 (Ent.cv (congrArg (ow D0 [_]) (show _ = H8 l t by grind [a4p, a4o])) ?_)))))))))
  exact Fg rfl rfl (_, _, _) rfl rfl
 ·refine Eu (E.cf rfl (E.skipc (Et (Ew Z4 (Emv rfl rfl (Ey rfl ((Y.fn (vs := [_]) rfl).yd) ?_))))))
  have ji := a1B (p := fun z => decide (0 < C6 z t)) (s := l)
  refine Est rfl (N.call0 (a1T (f := (fun x => decide (0 < C6 x t))) (D_f := (fun _ => True)) (by intros; exact trivial)) rfl rfl rfl dc (fun w Lp hA => ⟨hA.ow (mS m0), FnP.ofIs (D := (fun _ => True)) (fun hd => a2K) (fun w' hk => ⟨(hA.pt m0).keep hk, (hA.ro ht).keep hk⟩)⟩)) (fun _ _ => (Eas rfl rfl (Eu (Eq_ (Ew Z2 (Emv rfl rfl (Ey rfl ((Y.lss rfl rfl).yd) (Ent.d (fun q14 => ?_) (fun q14 => ?_)))))))))
  ·refine Eu (E.ct rfl (Ez Z3 (Emv rfl rfl (Ey rfl ((Y.len us_Iss rfl).yd) (Eas rfl rfl (Ev Z7 (Emv rfl rfl (Emv rfl rfl (Ey rfl (Y.ld1 ty_Is rfl (Has.pt m0) rfl) (Est rfl (N.call (a0I fc) rfl rfl rfl dc rfl (fun w Lp hA => hA.ro ht)) (fun k20 _ => ?_)))))))))))
   obtain ⟨a20, m20, c20⟩ := k20
   refine Ent.lenow m0 fun e20 l20 => ?_
   subst e20
   refine Est rfl (N.bsl (pvs := [_]) (cs := [_]) us_Iss ty_Is rfl dc dc (o8 rfl rfl) rfl dc) (fun b21 _ => (Ent.p1 (Ent.p1 (Ent.mkow (A := _ :: _) (Own.row1 (E := eIs) (e := tIs) Own.ow) rfl (Ent.p2 (Est rfl (N.call (pre := [_, _]) (a3G om (by simp) (by simp; omega)) rfl rfl rfl dc rfl (fun w Lp hA => trivial)) (fun k22 _ => ?_)))))))
   obtain ⟨a22, m22, c22⟩ := k22
   refine Ent.lenow m0 fun e22 l22 => ?_
   subst e22
   refine Eas rfl rfl (Eu (E.ret (Ent.cv (congrArg (ow D0 [_]) (show _ = H8 l t by grind [a4p, a4o])) ?_)))
   exact Fg rfl rfl (_, _, _) rfl rfl
  ·refine Eu (E.cf rfl (E.skipc (Et (Ew Z7 (Emv rfl rfl (Emv rfl rfl (Ey rfl (Y.ld1 ty_Is rfl (Has.pt m0) rfl) (Est rfl (N.call (a0I fc) rfl rfl rfl dc rfl (fun w Lp hA => hA.ro ht)) (fun k20 _ => ?_)))))))))
   obtain ⟨a20, m20, c20⟩ := k20
   refine Ent.lenow m0 fun e20 l20 => ?_
   subst e20
   refine Est rfl (N.bsl (pvs := [_]) (cs := [_]) us_Iss ty_Is rfl dc dc (o8 rfl rfl) rfl dc) (fun b21 _ => (Ent.p1 (Ent.p1 (Ent.mkow (A := _ :: _) (Own.row1 (E := eIs) (e := tIs) Own.ow) rfl (Ent.p2 (Est rfl (N.call (pre := [_, _]) (a3G om (by simp) (by simp; omega)) rfl rfl rfl dc rfl (fun w Lp hA => trivial)) (fun k22 _ => ?_)))))))
   obtain ⟨a22, m22, c22⟩ := k22
   refine Ent.lenow m0 fun e22 l22 => ?_
   subst e22
   refine Eas rfl rfl (Eu (E.ret (Ent.cv (congrArg (ow D0 [_]) (show _ = H8 l t by grind [a4p, a4o])) ?_)))
   exact Fg rfl rfl (_, _, _) rfl rfl
theorem a6C {a : List Int} {b : List Int} : Tr Tryz.prog 146 [.slice a_a m_a c_a, .slice a_b m_b c_b] (fun w L => Ro w L eIs [.slice a_a m_a c_a] a ∧ Ro w L eIs [.slice a_b m_b c_b] b) [] (κ := Unit) (fun k => True) (fun k => .bool (ltT a b)) (fun k => []) := by
 refine Tr.intro Tryz.func146 rfl (n := 41) rfl (by decide +kernel) bl (fr := [(0, .slice a_a m_a c_a), (1, .slice a_b m_b c_b)]) rfl fun w L hR => ?_
 obtain ⟨ha, hb⟩ := hR
 obtain ⟨rfl, la⟩ := ha.slen
 obtain ⟨rfl, lb⟩ := hb.slen
 refine Ew Z1 (Eas rfl rfl (Eu (Eq_ (Ew Z1 (Eas rfl rfl (Eu (E.block (E.loop (κ := Nat) (fun g => g ≤ a.length ∧ g ≤ b.length ∧ C6 a b = C6 (a.drop g) (b.drop g)) (fun g => [(0, .slice a_a a.length c_a), (1, .slice a_b b.length c_b), (5, .int .i64 (g : Int))]) (fun g => []) (fun g => a.length - g) 0 ⟨Nat.zero_le _, by simp⟩ ⟨rfl, rfl, rfl, trivial⟩ (.refl _) (fun g pg => ?_)))))))))
 obtain ⟨pk, pa⟩ := pg
 refine Eq_ (Ew Z10 (Emv rfl rfl (Emv rfl rfl (Ey rfl ((Y.len us_Is rfl).yd) (Ey rfl ((Y.lss rfl rfl).yd) (Ent.d (fun q9 => ?_) (fun q9 => ?_)))))))
 ·refine Emv rfl rfl (Emv rfl rfl (Emv rfl rfl (Ey rfl ((Y.len us_Is rfl).yd) (Ey rfl ((Y.lss rfl rfl).yd) (Ent.d (fun q14 => ?_) (fun q14 => ?_))))))
  ·refine Ey rfl ((Y.pkt rfl rfl).yd) (Eu (E.ct rfl (E.skipc (Et (Eq_ (E.block (Eq_ (D.region (fun j => true) mixed (Dyp 0 rfl (Y.mv rfl) (Dyp 1 rfl (Y.mv rfl) ?_))))))))))
   obtain ⟨eb20, eo20, ea20, ei20, eh20⟩ := ha.elemI g om
   refine Dyp 2 rfl (Y.ix us_Is f8 rfl ea20 rfl g rfl om) (Dy 3 rfl (Y.ld1 f8 rfl (eh20 _) rfl) (Dyp 4 rfl (Y.mv rfl) (Dyp 5 rfl (Y.mv rfl) ?_)))
   obtain ⟨eb24, eo24, ea24, ei24, eh24⟩ := hb.elemI g om
   refine Dyp 6 rfl (Y.ix us_Is f8 rfl ea24 rfl g rfl om) (Dy 7 rfl (Y.ld1 f8 rfl (eh24 _) rfl) (Dyp 8 rfl (Y.neq rfl rfl) (Ent.d (fun q26 => ?_) (fun q26 => ?_))))
   ·refine D.done kr (Et (E.ct rfl (Eq_ (D.region (fun j => true) mixed (Dyp 0 rfl (Y.mv rfl) (Dyp 1 rfl (Y.mv rfl) (Dyp 2 rfl (Y.ix us_Is f8 rfl ea20 rfl g rfl om) (Dy 3 rfl (Y.ld1 f8 rfl (eh20 _) rfl) (Dyp 4 rfl (Y.mv rfl) (Dyp 5 rfl (Y.mv rfl) (Dyp 6 rfl (Y.ix us_Is f8 rfl ea24 rfl g rfl om) (Dy 7 rfl (Y.ld1 f8 rfl (eh24 _) rfl) (Dyp 8 rfl (Y.lss rfl rfl) (Dyp 9 rfl (Y.as rfl) ?_))))))))))))))
    exact D.done kr (Et (E.ret (E.blr (E.thr (E.thr (E.blr (E.thr (Fb rfl rfl (by grind [ltT, C6, H4, d1, d2, t1, t2])))))))))
   ·refine D.done kr (Et (E.cf rfl (E.skipc (E.bln (Et (Ez Z3 (Emv rfl rfl (Ey rfl ((Y.add rfl rfl om om).yd) (Eas rfl rfl ?_)))))))))
    exact Eu (E.again br (g + 1) rs (.refl _) ⟨by omega, by grind [C6, H4, d1, d2, t1, t2]⟩ om)
  ·refine Ey rfl ((Y.pkt rfl rfl).yd) (Eu (E.cf rfl (E.exit (E.the (E.the (E.blh (Et (Ew Z6 (Emv rfl rfl (Ey rfl ((Y.len us_Is rfl).yd) (Emv rfl rfl (Ey rfl ((Y.len us_Is rfl).yd) (Ey rfl ((Y.lss rfl rfl).yd) (Eas rfl rfl ?_))))))))))))))
   exact Eu (E.ret (Fb rfl rfl (by grind [ltT, C6, H4, d1, d2, t1, t2])))
 ·refine Emv rfl rfl (Es rfl (Es rfl (Es rfl (Es rfl (Ey rfl ((Y.pkf rfl rfl).yd) (Eu (E.cf rfl (E.exit (E.the (E.the (E.blh (Et (Ew Z6 (Emv rfl rfl (Ey rfl ((Y.len us_Is rfl).yd) (Emv rfl rfl (Ey rfl ((Y.len us_Is rfl).yd) (Ey rfl ((Y.lss rfl rfl).yd) (Eas rfl rfl ?_)))))))))))))))))))
  exact Eu (E.ret (Fb rfl rfl (by grind [ltT, C6, H4, d1, d2, t1, t2])))
theorem a4M (hz : l.length ≤ 1000000000000) (hyl : ∀ x ∈ l, x.length ≤ 1048576) (ht : t.length ≤ 1048576) : Tr Tryz.prog 68 [.slice a_l m_l c_l, .slice a_t m_t c_t] (fun w L => Ro w L D0 [.slice a_l m_l c_l] l ∧ Ro w L eIs [.slice a_t m_t c_t] t) [] (κ := Option Addr × Nat × Nat) (fun k => True) (fun k => .slice k.1 k.2.1 k.2.2) (fun k => [ow D0 [.slice k.1 k.2.1 k.2.2] (H8 l t)]) := by
 refine Tr.intro Tryz.func68 rfl (n := 65) rfl (by decide +kernel) bl (fr := [(0, .slice a_l m_l c_l), (1, .slice a_t m_t c_t)]) rfl fun w L hR => ?_
 obtain ⟨hl, ht⟩ := hR
 obtain ⟨rfl, ll⟩ := hl.slen
 obtain ⟨rfl, lt⟩ := ht.slen
 refine Ew Z1 (Eas rfl rfl (Ev Z2 (Est rfl (N.bsl (pvs := []) (cs := []) us_Iss ty_Is rfl dc dc (o8 rfl rfl) rfl dc) (fun b9 _ => (Ent.drop (Eas rfl rfl (Ev Z1 (Eas rfl rfl (Eu (Eq_ (Ew Z1 (Eas rfl rfl (Eu (E.block (E.loop (κ := Nat) (fun g => g ≤ l.length ∧ True) (fun g => [(0, .slice a_l l.length c_l), (1, .slice a_t t.length c_t), (5, .slice (some ⟨b9, 0, none⟩) 0 0), (6, .bool ((l.take g).any fun x => decide (x = t))), (7, .int .i64 (g : Int))]) (fun g => []) (fun g => l.length - g) (0) ⟨Nat.zero_le _, by simp⟩ ⟨rfl, rfl, rfl, frB (by first | rfl | (simp; done) | grind [H8, y8, y9, B8, B9, I6, d1, d2, t1, t2]), rfl, trivial⟩ (.refl _) (fun g pg => ?_))))))))))))))))
 try dsimp only
 obtain ⟨pk, pa⟩ := pg
 refine Eq_ (Ew Z4 (Emv rfl rfl (Emv rfl rfl (Ey rfl ((Y.len us_Iss rfl).yd) (Ey rfl ((Y.lss rfl rfl).yd) (Ent.d (fun q13 => ?_) (fun q13 => ?_)))))))
 ·refine Eu (E.ct rfl (E.skipc (Et (Eq_ (E.block (Ez Z10 (Emv rfl rfl (Ent.b (fun q16 => ?_) (fun q16 => ?_)))))))))
  ·refine Emv rfl rfl (Es rfl (Es rfl (Es rfl (Es rfl (Es rfl (Es rfl (Ey rfl ((Y.pkt rfl rfl).yd) (Eas rfl rfl (En (E.bln (Et (Ez Z3 (Emv rfl rfl (Ey rfl ((Y.add rfl rfl om om).yd) (Eas rfl rfl ?_)))))))))))))))
   exact Eu (E.again br (g + 1) ⟨rfl, rfl, rfl, frB (by grind [H8, y8, y9, B8, B9, I6, d1, d2, t1, t2]), rfl, trivial⟩ (.refl _) ⟨oz, trivial⟩ oz)
  ·refine Emv rfl rfl (Emv rfl rfl (Emv rfl rfl ?_))
   obtain ⟨eb20, eo20, ec20, ea20, er20, el20, eh20⟩ := hl.elem g om
   obtain ⟨xa20, xc20, rfl⟩ := er20.sl
   have := er20.slen.2
   refine Ey rfl ((Y.ix us_Iss ty_Is rfl ea20 rfl g rfl om).yd) (Ey rfl (Y.ld1 ty_Is rfl (eh20 _) rfl) (Emv rfl rfl (Est rfl (N.call0 a2D rfl rfl rfl dc (fun w Lp hA => ⟨hA.ro er20, hA.ro ht⟩)) (fun _ _ => (Ey rfl ((Y.pkf rfl rfl).yd) (Eas rfl rfl (Ent.b (fun q6 => ?_) (fun q6 => ?_))))))))
   ·refine En (E.bln (Et (Ez Z3 (Emv rfl rfl (Ey rfl ((Y.add rfl rfl om om).yd) (Eas rfl rfl ?_))))))
    exact Eu (E.again br (g + 1) ⟨rfl, rfl, rfl, frB (by grind [H8, y8, y9, B8, B9, I6, d1, d2, t1, t2]), rfl, trivial⟩ (.refl _) ⟨oz, trivial⟩ oz)
   ·refine En (E.bln (Et (Ez Z3 (Emv rfl rfl (Ey rfl ((Y.add rfl rfl om om).yd) (Eas rfl rfl ?_))))))
    exact Eu (E.again br (g + 1) ⟨rfl, rfl, rfl, frB (by grind [H8, y8, y9, B8, B9, I6, d1, d2, t1, t2]), rfl, trivial⟩ (.refl _) ⟨oz, trivial⟩ oz)
 ·refine Eu (E.cf rfl (E.exit (E.the (E.the (E.blh (Et (Eq_ (Ew Z1 (Eas rfl rfl (Eu (E.block (Ent.mkow (A := []) (Own.nil (E := eIs) (e := tIs) (a := (some ⟨b9, 0, none⟩))) rfl (Ent.cv (congrArg (ow D0 [_]) (show [] = F6 (I6 l t) (ltT t) t (l.take 0) from by first | rfl | (simp; done) | grind [H8, y8, y9, B8, B9, I6, d1, d2, t1, t2])) (E.loop (κ := Nat × Option Addr × Nat × Nat) (fun g => g.1 ≤ l.length ∧ True) (fun g => [(0, .slice a_l l.length c_l), (1, .slice a_t t.length c_t), (5, .slice g.2.1 g.2.2.1 g.2.2.2), (6, .bool (I6 l t || (l.take g.1).any (ltT t))), (8, .int .i64 (↑g.1 : Int))]) (fun g => [ow D0 [.slice g.2.1 g.2.2.1 g.2.2.2] (F6 (I6 l t) (ltT t) t (l.take g.1))]) (fun g => l.length - g.1) (0, (some ⟨b9, 0, none⟩), 0, 0) ⟨Nat.zero_le _, by simp⟩ ⟨rfl, rfl, rfl, frB (by first | rfl | (simp; done) | grind [H8, y8, y9, B8, B9, I6, d1, d2, t1, t2]), rfl, trivial⟩ (.refl _) (fun g pg => ?_)))))))))))))))
  obtain ⟨g, aA1_0, mA1_0, cA1_0⟩ := g
  try dsimp only at pg
  try dsimp only
  obtain ⟨pk, pa⟩ := pg
  have jp := List.length_take_le g l
  have ji := a3K (h := I6 l t) (p := (ltT t)) (f := t) (l := l.take g)
  refine Ent.lenow m0 fun eaA1_0 laA1_0 => ?_
  subst eaA1_0
  refine Eq_ (Ew Z4 (Emv rfl rfl (Emv rfl rfl (Ey rfl ((Y.len us_Iss rfl).yd) (Ey rfl ((Y.lss rfl rfl).yd) (Ent.d (fun q28 => ?_) (fun q28 => ?_)))))))
  ·have jy1 := hyl l[g] (List.getElem_mem om)
   refine Eu (E.ct rfl (E.skipc (Et (Eq_ (E.block (Eq_ (Ew Z10 (Emv rfl rfl (Ent.b (fun q31 => ?_) (fun q31 => ?_))))))))))
   ·refine Ey rfl ((Y.not (b := true) rfl).yd) (Emv rfl rfl (Es rfl (Es rfl (Es rfl (Es rfl (Es rfl (Es rfl (Ey rfl ((Y.pkf rfl rfl).yd) (Eu (E.cf rfl (E.skipc (Et (Ez Z10 (Emv rfl rfl (Est rfl (N.bsl (pvs := []) (cs := []) us_Is f8 rfl dc dc (o8 rfl rfl) rfl dc) (fun b48 _ => (Ent.drop (Emv rfl rfl (Emv rfl rfl ?_)))))))))))))))))))
    obtain ⟨eb51, eo51, ec51, ea51, er51, el51, eh51⟩ := hl.elem g om
    obtain ⟨xa51, xc51, rfl⟩ := er51.sl
    have := er51.slen.2
    refine Ey rfl ((Y.ix us_Iss ty_Is rfl ea51 rfl g rfl om).yd) (Ey rfl (Y.ld1 ty_Is rfl (eh51 _) rfl) (Est rfl (N.pushR0 (E := Enc.int) Plain.int us_Is f8 rfl rfl rfl er51 bn bn dc) (fun p53 _ => (Est rfl (N.bsl (pvs := [_]) (cs := [_]) us_Iss ty_Is rfl dc dc (o8 rfl rfl) rfl dc) (fun b54 _ => (Ent.p1 (Ent.p1 (Ent.p2 (Est rfl (N.push (E := eIs) (ex := l[g]) us_Iss ty_Is rfl rfl rfl Own.ow rfl bn bn dc) (fun p55 _ => (Eas rfl rfl (En (E.bln (Et (Ez Z3 (Emv rfl rfl (Ey rfl ((Y.add rfl rfl om om).yd) (Eas rfl rfl (Eu (Ent.cv (congrArg (ow D0 [_]) (show (F6 (I6 l t) (ltT t) t (l.take g)) ++ [l[g]] = F6 (I6 l t) (ltT t) t (l.take (g + 1)) from by grind [H8, y8, y9, B8, B9, I6, d1, d2, t1, t2])) ?_))))))))))))))))))))
    exact E.again br (g + 1, p55.1, ((F6 (I6 l t) (ltT t) t (l.take g)).length + 1), p55.2) ⟨rfl, rfl, rfl, frB (by grind [H8, y8, y9, B8, B9, I6, d1, d2, t1, t2]), rfl, trivial⟩ (.refl _) ⟨oz, trivial⟩ oz
   ·refine Ey rfl ((Y.not (b := false) rfl).yd) (Emv rfl rfl (Emv rfl rfl (Emv rfl rfl (Emv rfl rfl ?_))))
    obtain ⟨eb37, eo37, ec37, ea37, er37, el37, eh37⟩ := hl.elem g om
    obtain ⟨xa37, xc37, rfl⟩ := er37.sl
    have := er37.slen.2
    refine Ey rfl ((Y.ix us_Iss ty_Is rfl ea37 rfl g rfl om).yd) (Ey rfl (Y.ld1 ty_Is rfl (eh37 _) rfl) (Est rfl (N.call0 a6C rfl rfl rfl dc (fun w Lp hA => ⟨hA.ro ht, hA.ro er37⟩)) (fun _ _ => (Ent.b (fun q39 => ?_) (fun q39 => ?_)))))
    ·refine Ey rfl ((Y.pkt rfl rfl).yd) (Eu (E.ct rfl (Ew Z7 (Emv rfl rfl (Est rfl (N.bsl (pvs := []) (cs := []) us_Is f8 rfl dc dc (o8 rfl rfl) rfl dc) (fun b42 _ => (Ent.drop (Emv rfl rfl (Est rfl (N.pushR0 (E := Enc.int) Plain.int us_Is f8 rfl rfl rfl ht bn bn dc) (fun p44 _ => (Est rfl (N.bsl (pvs := [_]) (cs := [_]) us_Iss ty_Is rfl dc dc (o8 rfl rfl) rfl dc) (fun b45 _ => (Ent.p1 (Ent.p1 (Ent.p2 (Est rfl (N.push (E := eIs) (ex := t) us_Iss ty_Is rfl rfl rfl Own.ow rfl bn bn dc) (fun p46 _ => (Eas rfl rfl (Eu (Ez Z1 (Eas rfl rfl (Eu (Ez Z10 (Emv rfl rfl (Est rfl (N.bsl (pvs := []) (cs := []) us_Is f8 rfl dc dc (o8 rfl rfl) rfl dc) (fun b48 _ => (Ent.drop (Emv rfl rfl (Emv rfl rfl (Ey rfl ((Y.ix us_Iss ty_Is rfl ea37 rfl g rfl om).yd) (Ey rfl (Y.ld1 ty_Is rfl (eh37 _) rfl) (Est rfl (N.pushR0 (E := Enc.int) Plain.int us_Is f8 rfl rfl rfl er37 bn bn dc) (fun p53 _ => (Est rfl (N.bsl (pvs := [_]) (cs := [_]) us_Iss ty_Is rfl dc dc (o8 rfl rfl) rfl dc) (fun b54 _ => (Ent.p1 (Ent.p1 (Ent.p2 (Est rfl (N.push (E := eIs) (ex := l[g]) us_Iss ty_Is rfl rfl rfl Own.ow rfl bn bn dc) (fun p55 _ => (Eas rfl rfl (En (E.bln (Et (Ez Z3 (Emv rfl rfl (Ey rfl ((Y.add rfl rfl om om).yd) (Eas rfl rfl (Eu (Ent.cv (congrArg (ow D0 [_]) (show ((F6 (I6 l t) (ltT t) t (l.take g)) ++ [t]) ++ [l[g]] = F6 (I6 l t) (ltT t) t (l.take (g + 1)) from by grind [H8, y8, y9, B8, B9, I6, d1, d2, t1, t2])) ?_))))))))))))))))))))))))))))))))))))))))))))))))))
     exact E.again br (g + 1, p55.1, (((F6 (I6 l t) (ltT t) t (l.take g)).length + 1) + 1), p55.2) ⟨rfl, rfl, rfl, frB (by grind [H8, y8, y9, B8, B9, I6, d1, d2, t1, t2]), rfl, trivial⟩ (.refl _) ⟨oz, trivial⟩ oz
    ·refine Ey rfl ((Y.pkt rfl rfl).yd) (Eu (E.cf rfl (E.skipc (Et (Ez Z10 (Emv rfl rfl (Est rfl (N.bsl (pvs := []) (cs := []) us_Is f8 rfl dc dc (o8 rfl rfl) rfl dc) (fun b48 _ => (Ent.drop (Emv rfl rfl (Emv rfl rfl (Ey rfl ((Y.ix us_Iss ty_Is rfl ea37 rfl g rfl om).yd) (Ey rfl (Y.ld1 ty_Is rfl (eh37 _) rfl) (Est rfl (N.pushR0 (E := Enc.int) Plain.int us_Is f8 rfl rfl rfl er37 bn bn dc) (fun p53 _ => (Est rfl (N.bsl (pvs := [_]) (cs := [_]) us_Iss ty_Is rfl dc dc (o8 rfl rfl) rfl dc) (fun b54 _ => (Ent.p1 (Ent.p1 (Ent.p2 (Est rfl (N.push (E := eIs) (ex := l[g]) us_Iss ty_Is rfl rfl rfl Own.ow rfl bn bn dc) (fun p55 _ => (Eas rfl rfl (En (E.bln (Et (Ez Z3 (Emv rfl rfl (Ey rfl ((Y.add rfl rfl om om).yd) (Eas rfl rfl (Eu (Ent.cv (congrArg (ow D0 [_]) (show (F6 (I6 l t) (ltT t) t (l.take g)) ++ [l[g]] = F6 (I6 l t) (ltT t) t (l.take (g + 1)) from by grind [H8, y8, y9, B8, B9, I6, d1, d2, t1, t2])) ?_))))))))))))))))))))))))))))))))
     exact E.again br (g + 1, p55.1, ((F6 (I6 l t) (ltT t) t (l.take g)).length + 1), p55.2) ⟨rfl, rfl, rfl, frB (by grind [H8, y8, y9, B8, B9, I6, d1, d2, t1, t2]), rfl, trivial⟩ (.refl _) ⟨oz, trivial⟩ oz
  ·refine Eu (E.cf rfl (E.exit (E.the (E.the (E.blh (Et (Eq_ (Ew Z2 (Emv rfl rfl (Ent.b (fun q56 => ?_) (fun q56 => ?_)))))))))))
   ·refine Ey rfl ((Y.not (b := true) rfl).yd) (Eu (E.cf rfl (E.skipc (Et (Ew Z2 (Emv rfl rfl (Eas rfl rfl (Eu (E.ret (Ent.cv (congrArg (ow D0 [_]) (show _ = H8 l t by grind [H8, y8, y9, B8, B9, I6, d1, d2, t1, t2])) ?_))))))))))
    exact Fg rfl rfl (_, _, _) rfl rfl
   ·refine Ey rfl ((Y.not (b := false) rfl).yd) (Eu (E.ct rfl (Ez Z7 (Emv rfl rfl (Est rfl (N.bsl (pvs := []) (cs := []) us_Is f8 rfl dc dc (o8 rfl rfl) rfl dc) (fun b59 _ => (Ent.drop (Emv rfl rfl (Est rfl (N.pushR0 (E := Enc.int) Plain.int us_Is f8 rfl rfl rfl ht bn bn dc) (fun p61 _ => (Est rfl (N.bsl (pvs := [_]) (cs := [_]) us_Iss ty_Is rfl dc dc (o8 rfl rfl) rfl dc) (fun b62 _ => (Ent.p1 (Ent.p1 (Ent.p2 (Est rfl (N.push (E := eIs) (ex := t) us_Iss ty_Is rfl rfl rfl Own.ow rfl bn bn dc) (fun p63 _ => (Eas rfl rfl (Ev Z2 (Emv rfl rfl (Eas rfl rfl (Eu (E.ret (Ent.cv (congrArg (ow D0 [_]) (show _ = H8 l t by grind [H8, y8, y9, B8, B9, I6, d1, d2, t1, t2])) ?_))))))))))))))))))))))))
    exact Fg rfl rfl (_, _, _) rfl rfl
theorem a4Z {l : List (List Int × List Int)} (hqh : i8.length ≤ 1048576) (hz : l.length ≤ 1000000000000) : Tr Tryz.prog 128 [.agg #[.slice o7 u7 o6, .slice o1 s5 o0], .slice a_l m_l c_l] (fun w L => Ro w L eIs [.slice o7 u7 o6] i8 ∧ Ro w L C3 [.slice o1 s5 o0] d6 ∧ Ro w L w8 [.slice a_l m_l c_l] l) [] (κ := Option Addr × Nat × Nat) (fun k => True) (fun k => .slice k.1 k.2.1 k.2.2) (fun k => [ow D0 [.slice k.1 k.2.1 k.2.2] (J8 i8 l)]) := by
 refine Tr.intro Tryz.func128 rfl (n := 22) rfl (by decide +kernel) bl (fr := [(0, .agg #[.slice o7 u7 o6, .slice o1 s5 o0]), (1, .slice a_l m_l c_l)]) rfl fun w L hR => ?_
 obtain ⟨x8, t8, hl⟩ := hR
 obtain ⟨rfl, P9⟩ := x8.slen
 obtain ⟨rfl, M9⟩ := t8.slen
 obtain ⟨rfl, ll⟩ := hl.slen
 have jv := Ro.i64B hl
 have jw := x8.i64
 refine Ew Z2 (Est rfl (N.box (cs := [_, _]) rfl dc rfl) (fun b2 _ => (Eas rfl rfl (Ev Z2 (Est rfl (N.bsl (pvs := []) (cs := []) us_Iss ty_Is rfl dc dc (o8 rfl rfl) rfl dc) (fun b8 _ => (Ent.drop (Eas rfl rfl (Eu (Eq_ (Ew Z3 (Emv rfl rfl (Ey rfl ((Y.len us_Bindings rfl).yd) (Emv rfl rfl (Eu (E.block (Ent.mkow (A := []) (Own.nil (E := eIs) (e := tIs) (a := (some ⟨b8, 0, none⟩))) rfl (Ent.cv (congrArg (ow D0 [_]) (show [] = J8 i8 (l.take 0) from by first | rfl | (simp; done) | grind [a0w, Y6, d1, d2, t1, t2])) (E.loop (κ := Nat × Option Addr × Nat × Nat) (fun g => g.1 ≤ l.length ∧ True) (fun g => [(2, .pointer (some ⟨b2, 0, none⟩)), (5, .slice g.2.1 g.2.2.1 g.2.2.2), (9, .slice a_l l.length c_l), (10, .int .i64 (↑l.length : Int)), (11, .int .i64 (↑g.1 : Int))]) (fun g => [ow D0 [.slice g.2.1 g.2.2.1 g.2.2.2] (J8 i8 (l.take g.1)), pt b2 61 [.slice o7 i8.length o6, .slice o1 d6.length o0]]) (fun g => l.length - g.1) (0, (some ⟨b8, 0, none⟩), 0, 0) ⟨Nat.zero_le _, by simp⟩ ⟨rfl, rfl, rfl, rfl, rfl, trivial⟩ (.refl _) (fun g pg => ?_))))))))))))))))))))
 obtain ⟨g, aA0_0, mA0_0, cA0_0⟩ := g
 try dsimp only at pg
 try dsimp only
 obtain ⟨pk, pa⟩ := pg
 have jp := List.length_take_le g l
 have jn := a5H (h := i8) (l := l.take g)
 have je := a7t (h := i8) (l := l.take g)
 refine Ent.lenow m0 fun eaA0_0 laA0_0 => ?_
 subst eaA0_0
 refine Ew Z1 (Ey rfl ((Y.lss rfl rfl).yd) (Ent.d (fun q12 => ?_) (fun q12 => ?_)))
 ·obtain ⟨eb13, eo13, ec13, ea13, er13, el13, eh13⟩ := hl.elem g om
  obtain ⟨xa13_0, xc13_0, xa13_1, xc13_1, rfl, xh13_0, xh13_1⟩ := Ro.pBinding er13
  have := xh13_0.slen.2
  have := xh13_1.slen.2
  refine Eu (Eq_ (E.ct rfl (E.skipc (Et (Eq_ (E.block (Ew Z4 (Ey rfl ((Y.ix us_Bindings ty_Binding rfl ea13 rfl g rfl om).yd) (Ey rfl (Y.ldS (cs := [_, _]) ty_Binding rfl (eh13 _) rfl) (Est rfl (N.alloc ty_Binding dc) (fun b7 _ => (Est rfl (N.sto (vs := [_, _]) (cs' := [_, _]) ty_Binding rfl rfl rfl rfl rfl bl rfl) (fun _ _ => (Eu (Ez Z6 (Emv rfl rfl (Ey rfl (Y.ldS (cs := [_, _]) ty_Query rfl (Has.pt (mS (mS m0))) rfl) (Ey rfl (Y.ldS (cs := [_, _]) ty_Binding rfl (Has.pt m0) rfl) (Est rfl (N.call (a5A (by first | omega | assumption | (simp; omega))) rfl rfl rfl dc rfl (fun w Lp hA => ⟨hA.ro x8, hA.ro t8, hA.ro xh13_0, hA.ro xh13_1⟩)) (fun k18 _ => ?_))))))))))))))))))))
  obtain ⟨a18, m18, c18⟩ := k18
  refine Ent.lenow m0 fun e18 l18 => ?_
  subst e18
  refine Ent.p2 (Est rfl (N.call (pre := [_]) (a3w (by first | omega | assumption | (simp; omega)) (by first | omega | assumption | (simp; omega))) rfl rfl rfl dc rfl (fun w Lp hA => hA.ow m0)) (fun k19 _ => ?_))
  obtain ⟨a19, m19, c19⟩ := k19
  refine Ent.lenow m0 fun e19 l19 => ?_
  subst e19
  refine Eas rfl rfl (En (E.bln (Et (Ez Z2 (Ey rfl ((Y.add rfl rfl om om).yd) (Emv rfl rfl (Eu (Ent.p1 (Ent.drop (Ent.p1 (Ent.drop (Ent.cv (congrArg (ow D0 [_]) (show H8 (J8 i8 (l.take g)) (i8.map (B7 l[g])) = J8 i8 (l.take (g + 1)) from by grind [a0w, Y6, d1, d2, t1, t2])) (Ent.p1 (Ent.p1 ?_))))))))))))))
  exact Ea (g + 1, a19, (H8 (J8 i8 (l.take g)) (i8.map (B7 l[g]))).length, c19) ⟨oz, trivial⟩
 ·refine Eu (Eq_ (E.cf rfl (E.exit (E.the (E.the (E.blh (Et (Ew Z2 (Emv rfl rfl (Eas rfl rfl (Eu (E.ret (Ent.cv (congrArg (ow D0 [_]) (show _ = J8 i8 l by grind [a0w, Y6, d1, d2, t1, t2])) ?_)))))))))))))
  exact Fg rfl rfl (_, _, _) rfl rfl
theorem a4D {l : List (List Int × List Int)} (hqh : i8.length ≤ 1048576) (hz : l.length ≤ 1000000000000) : Tr Tryz.prog 89 [.agg #[.slice o7 u7 o6, .slice o1 s5 o0], .slice a_l m_l c_l] (fun w L => Ro w L eIs [.slice o7 u7 o6] i8 ∧ Ro w L C3 [.slice o1 s5 o0] d6 ∧ Ro w L w8 [.slice a_l m_l c_l] l) [] (κ := Option Addr × Nat × Nat) (fun k => True) (fun k => .slice k.1 k.2.1 k.2.2) (fun k => [ow D0 [.slice k.1 k.2.1 k.2.2] (J8 i8 l)]) := by
 refine Tr.intro Tryz.func89 rfl (n := 41) rfl (by decide +kernel) bl (fr := [(0, .agg #[.slice o7 u7 o6, .slice o1 s5 o0]), (1, .slice a_l m_l c_l)]) rfl fun w L hR => ?_
 obtain ⟨x8, t8, hl⟩ := hR
 obtain ⟨rfl, P9⟩ := x8.slen
 obtain ⟨rfl, M9⟩ := t8.slen
 obtain ⟨rfl, ll⟩ := hl.slen
 have jv := Ro.i64B hl
 have jw := x8.i64
 refine Ew Z2 (Est rfl (N.box (cs := [_, _]) rfl dc rfl) (fun b2 _ => (Eas rfl rfl (Ev Z2 (Est rfl (N.bsl (pvs := []) (cs := []) us_Iss ty_Is rfl dc dc (o8 rfl rfl) rfl dc) (fun b9 _ => (Ent.drop (Eas rfl rfl (Eu (Eq_ (Ew Z1 (Eas rfl rfl (Eu (E.block (Ent.mkow (A := []) (Own.nil (E := eIs) (e := tIs) (a := (some ⟨b9, 0, none⟩))) rfl (Ent.cv (congrArg (ow D0 [_]) (show [] = J8 i8 (l.take 0) from by first | rfl | (simp; done) | grind [a0w, Y6, d1, d2, t1, t2])) (E.loop (κ := Nat × Option Addr × Nat × Nat) (fun g => g.1 ≤ l.length ∧ True) (fun g => [(1, .slice a_l l.length c_l), (2, .pointer (some ⟨b2, 0, none⟩)), (5, .slice g.2.1 g.2.2.1 g.2.2.2), (6, .int .i64 (↑g.1 : Int))]) (fun g => [ow D0 [.slice g.2.1 g.2.2.1 g.2.2.2] (J8 i8 (l.take g.1)), pt b2 61 [.slice o7 i8.length o6, .slice o1 d6.length o0]]) (fun g => l.length - g.1) (0, (some ⟨b9, 0, none⟩), 0, 0) ⟨Nat.zero_le _, by simp⟩ ⟨rfl, rfl, rfl, rfl, trivial⟩ (.refl _) (fun g pg => ?_))))))))))))))))))
 obtain ⟨g, aA0_0, mA0_0, cA0_0⟩ := g
 try dsimp only at pg
 try dsimp only
 obtain ⟨pk, pa⟩ := pg
 have jp := List.length_take_le g l
 have jn := a5H (h := i8) (l := l.take g)
 have je := a7t (h := i8) (l := l.take g)
 refine Ent.lenow m0 fun eaA0_0 laA0_0 => ?_
 subst eaA0_0
 refine Eq_ (Ew Z4 (Emv rfl rfl (Emv rfl rfl (Ey rfl ((Y.len us_Bindings rfl).yd) (Ey rfl ((Y.lss rfl rfl).yd) (Ent.d (fun q13 => ?_) (fun q13 => ?_)))))))
 ·refine Eu (E.ct rfl (E.skipc (Et (Eq_ (E.block (Ew Z2 (Est rfl (N.bsl (pvs := []) (cs := []) us_Is f8 rfl dc dc (o8 rfl rfl) rfl dc) (fun b16 _ => (Ent.drop (Eas rfl rfl (Eu (Eq_ (Ew Z1 (Eas rfl rfl (Eu (E.block (Ent.mkow (A := []) (Own.nil (E := Enc.int) (e := tI) (a := (some ⟨b16, 0, none⟩))) rfl (Ent.cv (congrArg (ow eIs [_]) (show [] = (i8.take 0).map (B7 l[g]) from by first | rfl | (simp; done) | grind [a0w, Y6, d1, d2, t1, t2])) (E.loop (κ := Nat × Option Addr × Nat × Nat) (fun h => h.1 ≤ i8.length ∧ True) (fun h => [(1, .slice a_l l.length c_l), (2, .pointer (some ⟨b2, 0, none⟩)), (5, .slice aA0_0 (J8 i8 (l.take g)).length cA0_0), (6, .int .i64 (g : Int)), (7, .slice h.2.1 h.2.2.1 h.2.2.2), (8, .int .i64 (↑h.1 : Int))]) (fun h => [ow eIs [.slice h.2.1 h.2.2.1 h.2.2.2] ((i8.take h.1).map (B7 l[g])), ow D0 [.slice aA0_0 (J8 i8 (l.take g)).length cA0_0] (J8 i8 (l.take g)), pt b2 61 [.slice o7 i8.length o6, .slice o1 d6.length o0]]) (fun h => i8.length - h.1) (0, (some ⟨b16, 0, none⟩), 0, 0) ⟨Nat.zero_le _, by simp⟩ ⟨rfl, rfl, rfl, rfl, rfl, rfl, trivial⟩ (.refl _) (fun h ph => ?_))))))))))))))))))))
  obtain ⟨h, aA1_0, mA1_0, cA1_0⟩ := h
  try dsimp only at ph
  try dsimp only
  obtain ⟨pk, pa⟩ := ph
  refine Ent.lenow m0 fun eaA1_0 laA1_0 => ?_
  subst eaA1_0
  refine Eq_ (Ew Z5 (Emv rfl rfl (Ey rfl ((Y.fld fo_Query_0 ty_Is dc rfl).yd) (Ey rfl (Y.ld1 ty_Is rfl ((Has.pt (mS (mS m0))).sub (cs' := [_]) 0 rfl) rfl) (Ey rfl ((Y.len us_Is rfl).yd) (Ey rfl ((Y.lss rfl rfl).yd) (Ent.d (fun q21 => ?_) (fun q21 => ?_))))))))
  ·have jx := a2m (b := l[g]) (jw i8[h] (List.getElem_mem om)) (jv l[g] (List.getElem_mem om)).2
   refine Eu (E.ct rfl (E.skipc (Et (Eq_ (E.block (D.region (fun j => !(Nat.beq j 12)) mixed (Dyp 0 rfl (Y.mv rfl) (Dyp 1 rfl (Y.mv rfl) (Dyp 2 rfl (Y.mv rfl) ?_)))))))))
   obtain ⟨eb27, eo27, ec27, ea27, er27, el27, eh27⟩ := hl.elem g om
   obtain ⟨xa27_0, xc27_0, xa27_1, xc27_1, rfl, xh27_0, xh27_1⟩ := Ro.pBinding er27
   have := xh27_0.slen.2
   have := xh27_1.slen.2
   refine Dyp 3 rfl (Y.ix us_Bindings ty_Binding rfl ea27 rfl g rfl om) (Dy 4 rfl (Y.ldS (cs := [_, _]) ty_Binding rfl (eh27 _) rfl) (Dyp 5 rfl (Y.fld fo_Query_0 ty_Is dc rfl) (Dy 6 rfl (Y.ld1 ty_Is rfl ((Has.pt (mS (mS m0))).sub (cs' := [_]) 0 rfl) rfl) (Dyp 7 rfl (Y.mv rfl) ?_))))
   obtain ⟨eb32, eo32, ea32, ei32, eh32⟩ := x8.elemI h om
   refine Dyp 8 rfl (Y.ix us_Is f8 rfl ea32 rfl h rfl om) (Dy 9 rfl (Y.ld1 f8 rfl (eh32 _) rfl) (D.st 10 rfl rfl kr (fun _ => rfl) (N.call0 a0Q rfl rfl rfl dc (fun w Lp hA => ⟨hA.ro xh27_0, hA.ro xh27_1⟩)) (fun _ _ => (D.st 11 rfl rfl kr (fun _ => rfl) (N.bsl (pvs := [_]) (cs := [_]) us_Is f8 rfl dc dc (o8 rfl rfl) rfl dc) (fun b35 _ => (Ent.p1 (D.st 12 rfl rfl kr (fun h => by cases h) (N.push (E := Enc.int) (ex := B7 l[g] i8[h]) us_Is f8 rfl rfl rfl (Own.int i6) rfl bn bn dc) (fun p36 _ => (Dyp 13 rfl (Y.as rfl) (D.done kr (E.bln (Et (Ez Z3 (Emv rfl rfl (Ey rfl ((Y.add rfl rfl om om).yd) (Eas rfl rfl (Eu (Ent.cv (congrArg (ow eIs [_]) (show ((i8.take h).map (B7 l[g])) ++ [B7 l[g] i8[h]] = (i8.take (h + 1)).map (B7 l[g]) from by grind [a0w, Y6, d1, d2, t1, t2])) (Ent.p2 (Ent.p2 (Ent.p2 ?_)))))))))))))))))))))
   exact Ea (h + 1, p36.1, (((i8.take h).map (B7 l[g])).length + 1), p36.2) ⟨oz, trivial⟩
  ·refine Eu (E.cf rfl (E.exit (E.the (E.the (E.blh (Et (Ez Z4 (Emv rfl rfl (Emv rfl rfl (Est rfl (N.call (a4M (by first | omega | assumption | (simp; omega)) (fun x hx => Nat.le_trans (je x hx) hqh) (by first | omega | assumption | (simp; omega))) rfl rfl rfl dc rfl (fun w Lp hA => ⟨hA.ow (mS m0), hA.ow m0⟩)) (fun k39 _ => ?_)))))))))))
   obtain ⟨a39, m39, c39⟩ := k39
   refine Ent.lenow m0 fun e39 l39 => ?_
   subst e39
   refine Eas rfl rfl (En (E.bln (Et (Ez Z3 (Emv rfl rfl (Ey rfl ((Y.add rfl rfl om om).yd) (Eas rfl rfl (Eu (Ent.p1 (Ent.drop (Ent.p1 (Ent.drop (Ent.cv (congrArg (ow D0 [_]) (show H8 (J8 i8 (l.take g)) ((i8.take h).map (B7 l[g])) = J8 i8 (l.take (g + 1)) from by grind [a0w, Y6, d1, d2, t1, t2])) (Ent.p1 (Ent.p1 ?_)))))))))))))))
   exact Ea (g + 1, a39, (H8 (J8 i8 (l.take g)) ((i8.take h).map (B7 l[g]))).length, c39) ⟨oz, trivial⟩
 ·refine Eu (E.cf rfl (E.exit (E.the (E.the (E.blh (Et (Ew Z2 (Emv rfl rfl (Eas rfl rfl (Eu (E.ret (Ent.cv (congrArg (ow D0 [_]) (show _ = J8 i8 l by grind [a0w, Y6, d1, d2, t1, t2])) ?_))))))))))))
  exact Fg rfl rfl (_, _, _) rfl rfl
theorem a4b : Tr Tryz.prog 26 [.slice a_a m_a c_a, .int .i64 v] (fun w L => 0 ≤ v ∧ v + ((j8 C1 a : Nat) : Int) ≤ 4611686018427387904) [ow D0 [.slice a_a m_a c_a] a] (κ := Unit) (fun k => True) (fun k => .int .i64 (v + (j8 C1 a : Nat))) (fun k => [ow D0 [.slice a_a m_a c_a] (mkL C1 W9 a v)]) := by
 refine Tr.intro Tryz.func26 rfl (n := 19) rfl (by decide +kernel) bl (fr := [(0, .slice a_a m_a c_a), (1, .int .i64 v)]) rfl fun w L hR => ?_
 obtain ⟨as0, as1⟩ := hR
 refine Ent.lenow m0 fun ea la => ?_
 subst ea
 refine Ew Z1 (Eas rfl rfl (Eu (Eq_ (Ew Z1 (Eas rfl rfl (Eu (E.block (E.loop (κ := Nat) (fun g => g ≤ a.length) (fun g => [(0, .slice a_a a.length c_a), (1, .int .i64 (v + (j8 C1 (a.take g) : Nat))), (5, .int .i64 (g : Int))]) (fun g => [ow D0 [.slice a_a a.length c_a] (mkL C1 W9 (a.take g) v ++ a.drop g)]) (fun g => a.length - g) 0 (Nat.zero_le _) ⟨rfl, frI (by simp [j8]), rfl, trivial⟩ (.refl _) (fun g pg => ?_)))))))))
 have u1 := F0 (t := C1) (l := a) (g := g)
 have u2 := F0 (t := C1) (l := a) (g := g + 1)
 have hlen : (mkL C1 W9 (a.take g) v ++ a.drop g).length = a.length := by rw [List.length_append, T7, ← List.length_append, List.take_append_drop]
 refine Eq_ (Ew Z4 (Emv rfl rfl (Emv rfl rfl (Ey rfl ((Y.len us_Iss rfl).yd) (Ey rfl ((Y.lss rfl rfl).yd) (Ent.d (fun q9 => ?_) (fun q9 => ?_)))))))
 ·have u3 := E8 (t := C1) (show g < a.length by omega)
  have u4 : C1 a[g] = j8 v7 a[g] := rfl
  refine Eu (E.ct rfl (E.skipc (Et (Eq_ (E.block (Ez Z7 (Emv rfl rfl (Emv rfl rfl (Ent.adr m0 om fun ab14 ae14 => (Ent.open (x := a[g]) g (a1O (show g < a.length by omega)) fun ce14 => (Ent.p1 (Ent.osl fun oa14_0 om14_0 oc14_0 oe14 on14_0 => ?_))))))))))))
  subst oe14
  subst on14_0
  refine Ey rfl ((Y.ix us_Iss ty_Is rfl ae14 rfl g rfl om).yd) (Ey rfl (Y.ld1 ty_Is rfl (Has.hole ae14 (mS m0)) rfl) (Emv rfl rfl (Est rfl (N.call (pre := [_]) M0 rfl rfl rfl dc rfl (fun w Lp hA => ⟨(by first | assumption | omega), (by first | assumption | omega)⟩)) (fun _ _ => (Eas rfl rfl (En (E.bln (Et (Ez Z3 (Emv rfl rfl (Ey rfl ((Y.add rfl rfl om om).yd) (Eas rfl rfl (Eu (Ent.p1 (Ent.shut Own.ow rfl ?_)))))))))))))))
  exact E.again br (g + 1) ⟨rfl, frI om, rfl, trivial⟩ (a1s (a1r (c := C1) (m := W9) (show g < a.length by omega) rfl)) om om
 ·refine Eu (E.cf rfl (E.exit (E.the (E.the (E.blh (Et (Ew Z2 (Emv rfl rfl (Eas rfl rfl (Eu (E.ret (Ent.cv (congrArg (ow D0 [_]) (show mkL C1 W9 (a.take g) v ++ a.drop g = mkL C1 W9 a v from by first | exact U6 om | (rw [G9 om]))) ?_))))))))))))
  exact Fg rfl rfl () (by rw [show (v + (j8 C1 a : Nat)) = (v + (j8 C1 (a.take g) : Nat)) from (by first | exact U6 om | (rw [G9 om]))]; try rfl) rfl
theorem a3Y (hz : mkL C1 W9 a v = a) : Tr Tryz.prog 27 [.slice a_a m_a c_a, .int .i64 v] (fun w L => Ro w L D0 [.slice a_a m_a c_a] a ∧ 0 ≤ v ∧ v + ((j8 C1 a : Nat) : Int) ≤ 4611686018427387904) [] (κ := Unit) (fun k => True) (fun k => .int .i64 (v + (j8 C1 a : Nat))) (fun k => []) := by
 refine Tr.intro Tryz.func27 rfl (n := 21) rfl (by decide +kernel) bl (fr := [(0, .slice a_a m_a c_a), (1, .int .i64 v)]) rfl fun w L hR => ?_
 obtain ⟨ha, as0, as1⟩ := hR
 obtain ⟨rfl, la⟩ := ha.slen
 refine Ew Z1 (Eas rfl rfl (Eu (Eq_ (Ew Z1 (Eas rfl rfl (Eu (E.block (E.loop (κ := Nat) (fun g => g ≤ a.length) (fun g => [(0, .slice a_a a.length c_a), (1, .int .i64 (v + (j8 C1 (a.take g) : Nat))), (5, .int .i64 (g : Int))]) (fun g => []) (fun g => a.length - g) 0 (Nat.zero_le _) ⟨rfl, frI (by simp [j8]), rfl, trivial⟩ (.refl _) (fun g pg => ?_)))))))))
 have u1 := F0 (t := C1) (l := a) (g := g)
 have u2 := F0 (t := C1) (l := a) (g := g + 1)
 refine Eq_ (Ew Z4 (Emv rfl rfl (Emv rfl rfl (Ey rfl ((Y.len us_Iss rfl).yd) (Ey rfl ((Y.lss rfl rfl).yd) (Ent.d (fun q9 => ?_) (fun q9 => ?_)))))))
 ·have u3 := E8 (t := C1) (show g < a.length by omega)
  have u4 : C1 a[g] = j8 v7 a[g] := rfl
  refine Eu (E.ct rfl (E.skipc (Et (Eq_ (E.block (Ew Z7 (Emv rfl rfl (Emv rfl rfl ?_))))))))
  obtain ⟨eb14, eo14, ec14, ea14, er14, el14, eh14⟩ := ha.elem g om
  obtain ⟨xa14, xc14, rfl⟩ := er14.sl
  have := er14.slen.2
  refine Ey rfl ((Y.ix us_Iss ty_Is rfl ea14 rfl g rfl om).yd) (Ey rfl (Y.ld1 ty_Is rfl (eh14 _) rfl) (Emv rfl rfl (Est rfl (N.call0 (a0A (a1P hz (show g < a.length by omega))) rfl rfl rfl dc (fun w Lp hA => ⟨hA.ro er14, (by first | assumption | omega), (by first | assumption | omega)⟩)) (fun _ _ => (Eas rfl rfl (Ev Z2 (Emv rfl rfl (Ey rfl ((Y.lss rfl rfl).yd) (Ent.d (fun q19 => ?_) (fun q19 => ?_))))))))))
  ·exact absurd q19 om
  ·refine Eu (E.cf rfl (E.skipc (E.bln (Et (Ez Z3 (Emv rfl rfl (Ey rfl ((Y.add rfl rfl om om).yd) (Eas rfl rfl ?_))))))))
   exact Eu (E.again br (g + 1) ⟨rfl, frI om, rfl, trivial⟩ (.refl _) om om)
 ·refine Eu (E.cf rfl (E.exit (E.the (E.the (E.blh (Et (Ew Z2 (Emv rfl rfl (Eas rfl rfl ?_)))))))))
  exact Eu (E.ret (Fg rfl rfl () (congrArg (Value.int .i64) (by rw [G9 om])) rfl))
theorem a5w {b : List (List Int)} : Tr Tryz.prog 17 [.slice a_a m_a c_a, .slice a_b m_b c_b] (fun w L => Ro w L D0 [.slice a_a m_a c_a] a ∧ Ro w L D0 [.slice a_b m_b c_b] b) [] (κ := Unit) (fun k => True) (fun k => .bool (decide (a = b))) (fun k => []) := by
 refine Tr.intro Tryz.func17 rfl (n := 27) rfl (by decide +kernel) bl (fr := [(0, .slice a_a m_a c_a), (1, .slice a_b m_b c_b)]) rfl fun w L hR => ?_
 obtain ⟨ha, hb⟩ := hR
 obtain ⟨rfl, la⟩ := ha.slen
 obtain ⟨rfl, lb⟩ := hb.slen
 refine Ew Z1 (Eas rfl rfl (Eu (Eq_ (Ew Z5 (Emv rfl rfl (Ey rfl ((Y.len us_Iss rfl).yd) (Emv rfl rfl (Ey rfl ((Y.len us_Iss rfl).yd) (Ey rfl ((Y.neq rfl rfl).yd) (Ent.d (fun q10 => ?_) (fun q10 => ?_)))))))))))
 ·refine Eu (E.ct rfl (Ew Z1 (Eas rfl rfl ?_)))
  exact Eu (E.ret (E.thr (Fb rfl rfl (by exact Y9 q10))))
 ·refine Eu (E.cf rfl (E.skipc (Et (Eq_ (Ew Z1 (Eas rfl rfl (Eu (E.block (E.loop (κ := Nat) (fun g => g ≤ a.length ∧ a.take g = b.take g) (fun g => [(0, .slice a_a a.length c_a), (1, .slice a_b b.length c_b), (5, .int .i64 (g : Int))]) (fun g => []) (fun g => a.length - g) 0 ⟨by omega, by simp⟩ ⟨rfl, rfl, rfl, trivial⟩ (.refl _) (fun g pg => ?_))))))))))
  obtain ⟨pk, pa⟩ := pg
  refine Eq_ (Ew Z4 (Emv rfl rfl (Emv rfl rfl (Ey rfl ((Y.len us_Iss rfl).yd) (Ey rfl ((Y.lss rfl rfl).yd) (Ent.d (fun q14 => ?_) (fun q14 => ?_)))))))
  ·refine Eu (E.ct rfl (E.skipc (Et (Eq_ (E.block (Eq_ (D.region (fun j => true) mixed (Dyp 0 rfl (Y.mv rfl) (Dyp 1 rfl (Y.mv rfl) ?_)))))))))
   obtain ⟨eb19, eo19, ec19, ea19, er19, el19, eh19⟩ := ha.elem g om
   obtain ⟨xa19, xc19, rfl⟩ := er19.sl
   have := er19.slen.2
   refine Dyp 2 rfl (Y.ix us_Iss ty_Is rfl ea19 rfl g rfl om) (Dy 3 rfl (Y.ld1 ty_Is rfl (eh19 _) rfl) (Dyp 4 rfl (Y.mv rfl) (Dyp 5 rfl (Y.mv rfl) ?_)))
   obtain ⟨eb23, eo23, ec23, ea23, er23, el23, eh23⟩ := hb.elem g om
   obtain ⟨xa23, xc23, rfl⟩ := er23.sl
   have := er23.slen.2
   refine Dyp 6 rfl (Y.ix us_Iss ty_Is rfl ea23 rfl g rfl om) (Dy 7 rfl (Y.ld1 ty_Is rfl (eh23 _) rfl) (D.st 8 rfl rfl kr (fun _ => rfl) (N.call0 Q3 rfl rfl rfl dc (fun w Lp hA => ⟨hA.ro er19, hA.ro er23⟩)) (fun _ _ => (Ent.b (fun q25 => ?_) (fun q25 => ?_)))))
   ·refine Dyp 9 rfl (Y.not (b := true) rfl) (D.done kr (Et (E.cf rfl (E.skipc (E.bln (Et (Ez Z3 (Emv rfl rfl (Ey rfl ((Y.add rfl rfl om om).yd) (Eas rfl rfl ?_))))))))))
    exact Eu (E.again br (g + 1) rs (.refl _) ⟨by omega, S5 om om pa (of_decide_eq_true q25)⟩ om)
   ·refine Dyp 9 rfl (Y.not (b := false) rfl) (D.done kr (Et (E.ct rfl (Ew Z1 (Eas rfl rfl ?_)))))
    exact Eu (E.ret (E.blr (E.thr (E.thr (E.blr (E.thr (Fb rfl rfl (by exact a0c (show g < a.length by omega) (show g < b.length by omega) (of_decide_eq_false q25)))))))))
  ·refine Eu (E.cf rfl (E.exit (E.the (E.the (E.blh (Et (Ew Z1 (Eas rfl rfl ?_))))))))
   exact Eu (E.ret (Fb rfl rfl (by exact X0 (show a.length ≤ g by omega) (show b.length ≤ g by omega) pa)))
end Go.Proofs.YtdopeopehgdccaaGreat
