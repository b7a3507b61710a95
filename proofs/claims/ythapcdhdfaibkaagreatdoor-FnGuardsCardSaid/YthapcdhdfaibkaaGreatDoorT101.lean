import Derived.Test.YthapcdhdfaibkaaGreatDoorT100
import Derived.Test.YthapcdhdfaibkaaGreatDoorT73
import Derived.Test.YthapcdhdfaibkaaGreatDoorT92
import Derived.Test.YthapcdhdfaibkaaGreatDoorT33
section
namespace Go.Proofs.YthapcdhdfaibkaaGreatDoor
open Go.RowKit
set_option linter.all false
set_option maxHeartbeats 2000000
attribute [local irreducible] Nop Yd Yp Ent Has Tr FnP FnP2 Src
variable {s : List (List Int × List Int)} {m_s c_s : Nat} {a_s : Option Addr}
theorem a5S {f_g : FuncId} {f_c : List Value} {f : (List Int × List Int) → Bool} {σ : Type} {RR : World → List Nat → Prop} {D : σ → (List Int × List Int) → Prop} {S : σ → HP} {st : σ → (List Int × List Int) → σ} {s0 : σ} (hst : b4I RR) (hf : FnS Tryz.prog f_g f_c RR B7 a0P D f S st) (hD : ∀ j (h : j < s.length), D ((s.take j).foldl st s0) s[j]) : Tr Tryz.prog 194 [.slice a_s m_s c_s, .func (.func f_g) #[] f_c.toArray] (fun w L => Ro w L s9 [.slice a_s m_s c_s] s ∧ RR w L) [S s0] (κ := Unit) (fun k => True) (fun k => .int .i64 (J0 f s)) (fun k => [S ((s.take (a6f f s)).foldl st s0)]) := by
 refine Ti2 Tryz.func194 19 rfl fun w L hR => ?_
 obtain ⟨hs, hrr⟩ := hR
 obtain ⟨rfl, ls⟩ := hs.slen
 refine Ew Z1<|Ei rfl ?_
 refine Eu<|Eq_<|Ew Z3<|Em rfl ?_
 refine Yln us_Bindings rfl ?_
 refine Em rfl ?_
 refine Eu<|E.block<|Lo (κ := Nat) (fun g => g ≤ s.length ∧ ∀ x ∈ s.take g, f x = false) (fun g => [(0, .slice a_s s.length c_s), (1, .func (.func f_g) #[] f_c.toArray), (7, .int .i64 (↑s.length : Int)), (8, .int .i64 (g : Int))]) (fun g => [S<|(s.take g).foldl st s0]) (fun g => s.length - g) 0 ⟨by omega, by simp⟩<|fun g pg => ?_
 obtain ⟨pk, pa⟩ := pg
 refine Ew Z1<|Ylt rfl<|l3 (fun q9 => ?_)<|fun q9 => ?_
 ·refine Eu<|Eq_<|Ct<|Eq_<|E.block<|Ew Z2<|Em rfl ?_
  refine Ei rfl ?_
  refine Ev Z6<|Em rfl ?_
  refine Em rfl ?_
  refine Em rfl ?_
  obtain ⟨eb14, eo14, ec14, ea14, er14, el14, eh14⟩ := hs.elem g om
  obtain ⟨xa14_0, xc14_0, xa14_1, xc14_1, rfl, xh14_0, xh14_1⟩ := a0K er14
  have := xh14_0.slen.2
  have := xh14_1.slen.2
  refine Ix us_Bindings ty_Binding rfl ea14 g rfl om ?_
  refine Ey rfl (k7 (cs := [_, _]) ty_Binding rfl (eh14 _) rfl) ?_
  refine Est rfl (b7S (cs := [_, _]) hf hst hrr rfl rfl rfl dc (fun w Lp hA => a7N (x := s[g]) (hA.ro xh14_0)<|hA.ro xh14_1)<|hD g om)<|fun _ _ => Ent.b (fun q16 => ?_)<|fun q16 => ?_
  ·refine Eu<|r6 rfl<|Ew Z2<|Em rfl ?_
   refine Ei rfl ?_
   refine g9 (congrArg S<|b6W om pa q16) ?_
   exact Eu<|E.ret<|u6<|i9<|i9<|u6<|i9<|Fg rfl rfl () (congrArg (Value.int .i64) (by exact Q4 om pa q16)) rfl
  ·refine Eu<|r7 rfl<|v8<|o6<|Et<|Ez Z2<|Yad rfl om om ?_
   refine Em rfl ?_
   refine g9 (congrArg S<|b0t om) ?_
   exact Eu<|t7 br (g + 1) rs (.refl _) ⟨by omega, U7 om pa q16⟩ om
 ·refine Eu<|Eq_<|r7 rfl<|E.exit<|l4<|l4<|w8<|Et<|Ew Z1<|Ei rfl ?_
  refine g9 (congrArg S<|b5R om pa) ?_
  exact Eu<|E.ret<|Fg rfl rfl () (congrArg (Value.int .i64) (by exact P1 om pa)) rfl
theorem a5H {del_g : FuncId} {del_c : List Value} {del : (List Int × List Int) → Bool} {σ : Type} {RR : World → List Nat → Prop} {D : σ → (List Int × List Int) → Prop} {S : σ → HP} {st : σ → (List Int × List Int) → σ} {s0 : σ} (hst : b4I RR) (hf : FnS Tryz.prog del_g del_c RR B7 a0P D del S st) (hD : ∀ j (h : j < s.length), D ((s.take j).foldl st s0) s[j]) : Tr Tryz.prog 74 [.slice a_s m_s c_s, .func (.func del_g) #[] del_c.toArray] (fun w L => RR w L) [ow s9 [.slice a_s m_s c_s] s, S s0] (κ := SL) (fun k => True) (fun k => .slice k.1 k.2.1 k.2.2) (fun k => [ow s9 [.slice k.1 k.2.1 k.2.2] (s.filter (fun x => !del x)), S (s.foldl st s0)]) := by
 refine Ti2 Tryz.func74 42 rfl fun w L hR => ?_
 have hdel := hR
 refine r8 m0 ?_
 rintro rfl ls
 refine Ew Z1<|Ei rfl ?_
 refine Ev Z4<|Em rfl ?_
 refine Em rfl ?_
 refine f5 ?_
 refine Est rfl (N.call (a5S hst hf hD) rfl rfl rfl dc rfl<|fun w Lp hA => ⟨hA.ow m0, hst _ _ _ _ _ _ hA hdel⟩)<|fun _ _ => ?_
 show Ent _ _ _ _ (S _ :: ow s9 _ _ :: []) _
 refine f5 ?_
 refine Ei rfl ?_
 have hrg := a0G (p := del) (s := s)
 refine Eu<|Eq_<|Ew Z2<|Em rfl ?_
 refine Yeq rfl<|l3 (fun q12 => ?_)<|fun q12 => ?_
 ·refine Eu<|r6 rfl<|Ew Z2<|Em rfl ?_
  refine Ei rfl ?_
  refine Eu<|E.ret<|i9<|g9 (congrArg (ow s9 [_]) (show _ = s.filter (fun x => !del x) from (a5l om).symm)) ?_
  refine f5 ?_
  refine g9 (congrArg S<|b5e om) ?_
  refine f5 ?_
  exact Fg rfl rfl (_, _, _) rfl rfl
 ·obtain ⟨i0, hi0⟩ : ∃ i0 : Nat, J0 del s = (i0 : Int) := ⟨(J0 del s).toNat, by omega⟩
  obtain ⟨f1, f2, f3, f4⟩ := a4s hi0
  refine f5 ?_
  refine g9 (congrArg S<|b5B hi0) ?_
  refine f5 ?_
  refine Eu<|Cf<|Eq_<|Ew Z3<|Em rfl ?_
  refine Yad rfl om om ?_
  refine Ei rfl ?_
  refine Eu<|E.block<|a3H fun cs hcs => ?_
  replace hcs : cs.length = s.length * 2 := hcs
  show Ent _ _ _ _ (row tBinding 2 a_s s.length c_s cs :: _) _
  refine a3F m0 fun hms => ?_
  refine a2R m0 om fun sb hsb _ => ?_
  subst hsb
  refine f5 ?_
  have hsp : s = s.take i0 ++ ([s[i0]] ++ s.drop (i0 + 1)) := by
   rw [List.singleton_append, ← List.drop_eq_getElem_cons f1, List.take_append_drop]
  refine g9 (congrArg (els B7 cs) hsp) ?_
  refine a1G fun ka kb hab hka => ?_
  refine f5 ?_
  refine a1G fun kb1 kb2 hb12 hkb => ?_
  subst hb12
  refine Ent.drop ?_
  replace hka : ka.length = i0 * 2 := by rw [hka, List.length_take, Nat.min_eq_left om]; rfl
  replace hkb : kb1.length = 2 := hkb
  have hinit := a9h (k := 2) hcs f1 hab hka hkb
  refine f5 ?_
  refine g9 (congrArg (els B7 ka) f4.symm) ?_
  refine f5 ?_
  refine E.loop (κ := Nat × Nat × List Value × List Value × List Value) (fun g => DfI 2 s.length g.2.1 g.1 g.2.2.1 g.2.2.2.1 g.2.2.2.2 ∧ g.2.1 = ((s.take g.1).filter (fun x => !del x)).length) (fun g => [(0, .slice (some ⟨sb, 0, none⟩) s.length c_s), (1, .func (.func del_g) #[] del_c.toArray), (5, .int .i64 (g.2.1 : Int)), (6, .int .i64 (g.1 : Int))]) (fun g => [els B7 g.2.2.2.2<|s.drop g.1, els B7 g.2.2.2.1<|(s.take g.1).filter (fun x => !del x), row tBinding 2 (some ⟨sb, 0, none⟩) s.length c_s g.2.2.1, S<|(s.take g.1).foldl st s0]) (fun g => s.length - g.1) (i0 + 1, i0, cs, ka, kb2) ⟨hinit, by rw [f4, List.length_take, Nat.min_eq_left om]⟩ ⟨rfl, rfl, frI hi0, frI om, trivial⟩ (.refl _)<|fun g pg => ?_
  obtain ⟨j, i, cur, kc, rc⟩ := g
  try dsimp only at pg
  obtain ⟨hI, hi⟩ := pg
  try dsimp only
  have hlt := hI.lt
  have hle := hI.le
  refine Eq_<|Ew Z4<|Em rfl ?_
  refine Em rfl ?_
  refine Yln us_Bindings rfl ?_
  refine Ylt rfl<|l3 (fun q19 => ?_)<|fun q19 => ?_
  ·have hj : j < s.length := by omega
   have hd : s.drop j = [s[j]] ++ s.drop (j + 1) := by rw [List.drop_eq_getElem_cons hj]; rfl
   refine g9 (congrArg (els B7 rc) hd) ?_
   refine a1G fun c1 c2 hc hc1 => ?_
   subst hc
   replace hc1 : c1.length = 2 := hc1
   refine a2h m0 fun h1e => ?_
   refine Eu<|Ct<|Eq_<|E.block<|Ew Z6<|Em rfl ?_
   refine Em rfl ?_
   refine Ix us_Bindings ty_Binding rfl rfl j rfl hj ?_
   refine Ey rfl (k7 (cs := c1) ty_Binding rfl (show Has _ _ _ sb (0 + j * 2) c1 from by rw [Nat.zero_add]; exact a2S (mS<|mS<|mS m0) j (rest := c2) hI.r1) hc1) ?_
   refine Est rfl (N.alloc ty_Binding dc)<|fun b7 _ => ?_
   refine Est rfl (a8d (vs := c1) (cs' := c1) ty_Binding rfl rfl rfl hc1 (List.all_eq_true.2 h1e) bl (by simp))<|fun _ _ => ?_
   refine Ev Z4<|Em rfl ?_
   refine Ey rfl (k7 (cs := c1) ty_Binding rfl (Has.pt m0) hc1) ?_
   refine y7 ?_
   refine Est rfl (b7S (cs := c1) hf hst hdel rfl rfl rfl dc (fun w Lp hA => hA.els1<|mS m0)<|hD j hj)<|fun _ _ => g9 (congrArg S<|b0t hj)<|y7<|y7<|y7<|y7<|y7<|Ent.b (fun q28 => ?_)<|fun q28 => ?_
   ·refine Yno true rfl ?_
    refine Eu<|r7 rfl<|v8<|o6<|Et<|Ez Z3<|Em rfl ?_
    refine Yad rfl om om ?_
    refine Ei rfl ?_
    have hK : (s.take (j + 1)).filter (fun x => !del x) = (s.take j).filter (fun x => !del x) := by rw [K9 hj, if_neg (by simp [q28])]
    refine Eu<|Ent.drop ?_
    refine Ent.drop ?_
    refine f5 ?_
    refine g9 (congrArg (els B7 kc) hK.symm) ?_
    refine f5 ?_
    exact Ea (j + 1, i, cur, kc, c2) ⟨hI.skip hj hc1, by rw [hK]; exact hi⟩
   ·refine Yno false rfl ?_
    refine Eu<|r6 rfl<|Ew Z5<|Em rfl ?_
    refine Em rfl ?_
    refine Ey rfl (k7 (cs := c1) ty_Binding rfl (Has.pt m0) hc1) ?_
    refine Ix us_Bindings ty_Binding rfl rfl i rfl om ?_
    refine s4 ?_
    refine Est rfl (b3o (i := i) (vs := c1) ty_Binding rfl (Nat.zero_add _) rfl rfl hc1 h1e om rfl)<|fun _ _ => ?_
    refine Eu<|Ez Z3<|Em rfl ?_
    refine Yad rfl om om ?_
    refine Ei rfl ?_
    refine En<|o6<|Et<|Ez Z3<|Em rfl ?_
    refine Yad rfl om om ?_
    refine Ei rfl ?_
    have hK : (s.take (j + 1)).filter (fun x => !del x) = (s.take j).filter (fun x => !del x) ++ [s[j]] := by rw [K9 hj, if_pos (by simp [q28])]
    refine Eu<|f5 ?_
    refine Ent.drop ?_
    refine f5 ?_
    refine a4G ?_
    refine a9g ?_
    refine g9 (congrArg (els B7<|kc ++ c1) hK.symm) ?_
    refine i8 ?_
    exact Ea (j + 1, i + 1, cur.take (i * 2) ++ c1 ++ cur.drop (i * 2 + 2), kc ++ c1, c2) ⟨hI.put hj hc1, by rw [hK, List.length_append, ← hi]; rfl⟩
  ·obtain rfl : j = s.length := by omega
   refine Ent.drop ?_
   refine Eu<|r7 rfl<|E.exit<|l4<|l4<|w8<|Et<|Ew Z4<|Em rfl ?_
   refine Em rfl ?_
   refine Ey rfl ((a0t (l := i) us_Bindings ty_Binding rfl rfl om om).yd) ?_
   refine f5 ?_
   refine Est rfl (b4X (p := i) (q := s.length - i) us_Bindings ty_Binding (by simp [Value.oneCell']) rfl rfl om om om rfl)<|fun _ _ => ?_
   refine Ev Z4<|Em rfl ?_
   refine Em rfl ?_
   refine Ey rfl ((a3Q (h := i) us_Bindings ty_Binding rfl rfl om).yd) ?_
   refine Ei rfl ?_
   refine g9 (congrArg (row tBinding 2 (some ⟨sb, 0, none⟩) i c_s) hI.k1) ?_
   refine Eu<|E.ret<|a2p (E := B7) hi mx ?_
   refine g9 (congrArg (ow s9 [_]) (show _ = s.filter (fun x => !del x) from by rw [List.take_length])) ?_
   refine f5 ?_
   refine g9 (congrArg S (show _ = s.foldl st s0 from by rw [List.take_length])) ?_
   refine f5 ?_
   exact Fg rfl rfl (_, _, _) rfl rfl
end Go.Proofs.YthapcdhdfaibkaaGreatDoor
end
section
namespace Go.Proofs.YthapcdhdfaibkaaGreatDoor
open Go.RowKit
set_option linter.all false
set_option maxHeartbeats 8000000
attribute [local irreducible] Nop Yd Yp Ent Has Tr FnP FnP2 Src M5 U1 V6 W3 G3 m7 rbN r5 J6 S2 a0q
theorem a8k {a_s : Option Addr} {m_s c_s : Nat} {s : List Int} {a_l : Option Addr} {m_l c_l : Nat} {l : List (Int × List Int × Int × Int × Int)} {w3 : Option Addr} {B9 w4 : Nat} {c6 : List Int} {t8 : Option Addr} {B3 u4 : Nat} {a6 : List IL} {F8 : Option Addr} {L7 F9 : Nat} {d8 : List IL} {a_facts : Option Addr} {m_facts c_facts : Nat} {d6 : List IL} (hz : O1 (fun x => x.2.length) a6 ≤ 1048576) (hn : O1 (fun x => x.2.length) d8 ≤ 1048576) : Tr Tryz.prog 8 [.slice a_s m_s c_s, .slice a_l m_l c_l, .agg #[.slice w3 B9 w4, .slice t8 B3 u4, .slice F8 L7 F9], .slice a_facts m_facts c_facts] (fun w L => Ro w L eIs [.slice a_s m_s c_s] s ∧ Ro w L G0 [.slice a_l m_l c_l] l ∧ Ro w L eIs [.slice w3 B9 w4] c6 ∧ Ro w L B1 [.slice t8 B3 u4] a6 ∧ Ro w L B1 [.slice F8 L7 F9] d8 ∧ Ro w L s5 [.slice a_facts m_facts c_facts] d6) [] (κ := (SL) × (SL)) (fun k => True) (fun k => .tuple #[.slice k.1.1 k.1.2.1 k.1.2.2, .slice k.2.1 k.2.2.1 k.2.2.2, .bool (rgB s l ((c6, a6), d8) d6)]) (fun k => [ow H3 [.slice k.1.1 k.1.2.1 k.1.2.2] (rgA s l ((c6, a6), d8) d6), ow z6 [.slice k.2.1 k.2.2.1 k.2.2.2] (rgL s l ((c6, a6), d8) d6)]) := by
 refine Ti4 Tryz.func8 63 rfl fun w L hR => ?_
 obtain ⟨hs, hl, s8, r9, H7, hfacts⟩ := hR
 obtain ⟨rfl, ls⟩ := hs.slen
 obtain ⟨rfl, ll⟩ := hl.slen
 obtain ⟨rfl, R3⟩ := s8.slen
 obtain ⟨rfl, Q3⟩ := r9.slen
 obtain ⟨rfl, a1r⟩ := H7.slen
 obtain ⟨rfl, lfacts⟩ := hfacts.slen
 refine Ew Z6<|Est rfl (N.box (cs := [_]) rfl dc rfl)<|fun b5 _ => Est rfl (N.box (cs := [_, _, _]) rfl dc rfl)<|fun b6 _ => Est rfl (N.box (cs := [_]) rfl dc rfl)<|fun b7 _ => Ei rfl<|Ei rfl<|Ei rfl<|Ev Z12<|Em rfl<|Ey rfl (B4 ty_Methods rfl (Has.pt<|mS<|mS m0) rfl)<|Ey rfl (k7 (cs := [_, _, _]) ty_Guarded rfl (Has.pt<|mS m0) rfl)<|Est rfl (N.call (a2s fo fo) rfl rfl rfl dc rfl<|fun w Lp hA => ⟨hA.ro hs, hA.ro hl, hA.ro s8, hA.ro r9, hA.ro H7⟩)<|fun k22 _ => ?_
 obtain ⟨⟨a22_0, m22_0, c22_0⟩, ⟨a22_1, m22_1, c22_1⟩⟩ := k22
 refine r8 m0 ?_
 rintro rfl l22_0
 refine r8 (mS m0) ?_
 rintro rfl l22_1
 refine Em rfl<|Ey rfl ((Y.ext rfl rfl).yd)<|Ey rfl ((Y.ext rfl rfl).yd)<|Ey rfl ((Y.ext rfl rfl).yd)<|Est rfl (N.alloc ty_Is dc)<|fun b12 _ => Ei rfl<|Est rfl (Ns [_] ty_Is rfl)<|fun _ _ => Ei rfl<|Ent.b (fun q13 => ?_)<|fun q13 => ?_
 ·refine Eu<|Eq_<|Ew Z8<|Em rfl<|Yno true rfl<|Em rfl<|Em rfl<|Ey rfl (B4 ty_Facts rfl (Has.pt<|mS<|mS<|mS m0) rfl)<|E0 rfl a3c rfl (fun hA => ⟨hA.ro hs, hA.ro hfacts⟩)<|Ent.b (fun q31 => ?_)<|fun q31 => ?_
  ·have jf : F1 s d6 = true := q31
   have jall := a1q (g := ((c6, a6), d8)) q13
   have jq := J7 (P6 jall.2.1).1
   have jin := a9z (g := ((c6, a6), d8)) q13 jf
   refine Yno true rfl<|Ypf rfl<|Eu<|Cf<|Ew Z8<|Ey rfl (B4 ty_Methods rfl (Has.pt<|mS<|mS<|mS<|mS<|mS m0) rfl)<|Ey rfl ((C2 fo_Guarded_0 ty_Query dc rfl).yd)<|Ey rfl (k7 (cs := [_, _]) ty_Query rfl ((Has.pt<|mS<|mS<|mS<|mS m0).sub (cs' := [_, _]) 0 rfl) rfl)<|Em rfl<|Ey rfl ((Y.fn (vs := [_, _]) rfl).yd)<|Est rfl (N.call (a8j rfl (a3n (g := ((c6, a6), d8)) q13) jf) rfl rfl rfl dc rfl<|fun w Lp hA => ⟨hA.ro hl, hA.ro s8, hA.ro r9, hA.ow<|mS m0, (hA.pt<|mS<|mS<|mS<|mS<|mS m0), (hA.ro hl), (hA.pt<|mS<|mS<|mS m0), (hA.ro hfacts)⟩)<|fun k39 _ => ?_
   obtain ⟨⟨a39_0, m39_0, c39_0⟩, ⟨a39_1, m39_1, c39_1⟩, ⟨a39_2, m39_2, c39_2⟩⟩ := k39
   refine r8 m0 ?_
   rintro rfl l39_0
   refine r8 (mS m0) ?_
   rintro rfl l39_1
   refine r8 (mS<|mS m0) ?_
   rintro rfl l39_2
   refine Est rfl (N.alloc ty_Run dc)<|fun b14 _ => Est rfl (Ns [_, _, _, _] ty_Run rfl)<|fun _ _ => Ev Z6<|Ey rfl ((C2 fo_Guarded_0 ty_Query dc rfl).yd)<|Ey rfl (k7 (cs := [_, _]) ty_Query rfl ((Has.pt<|mS<|mS<|mS<|mS<|mS<|mS<|mS<|mS m0).sub (cs' := [_, _]) 0 rfl) rfl)<|Lz fo_Run_2 ty_Facts rfl m0 rfl<|El rfl (a2u jq.1 jq.2.2<|fun a _ => a7R jin.2.1) rfl (fun hA => ⟨hA.ro s8, hA.ro r9, hA.ow<|mS<|mS<|mS m0⟩)<|fun a44 c44 l44 => Ei rfl<|Eu<|Eq_<|Ew Z4<|Lf fo_Guarded_1 ty_Atoms rfl (Hs (Has.pt<|mS<|mS<|mS<|mS<|mS<|mS<|mS<|mS<|mS m0) 2 rfl)<|Yln us_Atoms rfl<|Em rfl<|Eu<|E.block<|g9 (congrArg (ow s9 [_]) (show _ = (rgI s l ((c6, a6), d8) d6 0).1 from by rfl))<|a4G<|g9 (congrArg (ow z6 [_]) (show _ = (rgI s l ((c6, a6), d8) d6 0).2 from by rfl))<|Lo (κ := Nat × Option Addr × Nat × Nat × SL) (fun g => g.1 ≤ d8.length ∧ True) (fun g => [(5, .pointer<|some ⟨b5, 0, none⟩), (6, .pointer<|some ⟨b6, 0, none⟩), (7, .pointer<|some ⟨b7, 0, none⟩), (12, .pointer<|some ⟨b12, 0, none⟩), (14, .pointer<|some ⟨b14, 0, none⟩), (15, .slice g.2.1 g.2.2.1 g.2.2.2.1), (46, .slice F8 d8.length F9), (47, .int .i64 (↑d8.length : Int)), (48, .int .i64 (↑g.1 : Int))]) (fun g => [ow z6 [.slice g.2.2.2.2.1 g.2.2.2.2.2.1 g.2.2.2.2.2.2]<|(rgI s l ((c6, a6), d8) d6 g.1).2, ow s9 [.slice g.2.1 g.2.2.1 g.2.2.2.1]<|(rgI s l ((c6, a6), d8) d6 g.1).1, pt b14 102 [.slice a39_0 ((X2 (fun a => m6 l d6 a) l (c6, a6)<|I9 s l ((c6, a6), d8)).1).length c39_0, .slice g.2.2.2.2.1 g.2.2.2.2.2.1 g.2.2.2.2.2.2, .slice a39_2 ((X2 (fun a => m6 l d6 a) l (c6, a6)<|I9 s l ((c6, a6), d8)).2.2.1).length c39_2, .int .i64<|(X2 (fun a => m6 l d6 a) l (c6, a6)<|I9 s l ((c6, a6), d8)).2.2.2], ow H3 [.slice a39_0 ((X2 (fun a => m6 l d6 a) l (c6, a6)<|I9 s l ((c6, a6), d8)).1).length c39_0]<|(X2 (fun a => m6 l d6 a) l (c6, a6)<|I9 s l ((c6, a6), d8)).1, ow s5 [.slice a39_2 ((X2 (fun a => m6 l d6 a) l (c6, a6)<|I9 s l ((c6, a6), d8)).2.2.1).length c39_2]<|(X2 (fun a => m6 l d6 a) l (c6, a6)<|I9 s l ((c6, a6), d8)).2.2.1, pt b12 24 [.slice a22_1 (B2 s l ((c6, a6), d8)).length c22_1], ow M7 [.slice a22_0 (I9 s l ((c6, a6), d8)).length c22_0]<|I9 s l ((c6, a6), d8), ow eIs [.slice a22_1 (B2 s l ((c6, a6), d8)).length c22_1]<|B2 s l ((c6, a6), d8), pt b7 31 [.slice a_facts d6.length c_facts], pt b6 30 [.slice w3 c6.length w4, .slice t8 a6.length u4, .slice F8 d8.length F9], pt b5 25 [.slice a_l l.length c_l]]) (fun g => d8.length - g.1) (0, a44, (H6 a6<|(X2 (fun a => m6 l d6 a) l (c6, a6)<|I9 s l ((c6, a6), d8)).2.2.1).length, c44, a39_1, ((X2 (fun a => m6 l d6 a) l (c6, a6)<|I9 s l ((c6, a6), d8)).2.1).length, c39_1) ⟨Nat.zero_le _, by simp⟩<|fun g pg => ?_
   obtain ⟨g, aA0_0, mA0_0, cA0_0, aA0_1, mA0_1, cA0_1⟩ := g
   try dsimp only at pg
   try dsimp only
   obtain ⟨pk, pa⟩ := pg
   have jle := b5F (g := ((c6, a6), d8)) q13 jf (show g ≤ d8.length by omega)
   refine r8 (mS m0) ?_
   rintro rfl laA0_0
   refine r8 m0 ?_
   rintro rfl laA0_1
   refine Ew Z1<|Ylt rfl<|l3 (fun q49 => ?_)<|fun q49 => ?_
   ·refine Eu<|Eq_<|Ct<|Eq_<|E.block<|Ew Z7<|Em rfl ?_
    obtain ⟨eb51, eo51, ec51, ea51, er51, el51, eh51⟩ := H7.elem g om
    obtain ⟨xa51_0, xc51_0, rfl, ei51_0, xh51_0⟩ := L5 er51
    have := xh51_0.slen.2
    refine Ix us_Atoms ty_Atom rfl ea51 g rfl om<|Ey rfl (k7 (cs := [_, _]) ty_Atom rfl (eh51 _) rfl)<|Est rfl (N.alloc i7 dc)<|fun b16 _ => Est rfl (N.alloc ty_Atom dc)<|fun b17 _ => f5<|Est rfl (Ns [_] i7 rfl)<|fun _ _ => f5<|Est rfl (Ns [_, _] ty_Atom rfl)<|fun _ _ => Eu<|Ez Z4<|Em rfl ?_
    have jn64 : I64 d8[g].1 := b5a (g := ((c6, a6), d8)) q13 (show g < d8.length by omega) ls
    have jac := b6l (g := ((c6, a6), d8)) q13 jf (show g < d8.length by omega)
    have jmt := a5C (g := ((c6, a6), d8)) q13 (show g < d8.length by omega)
    have jk : 0 ≤ (g : Int) ∧ (g : Int).toNat < (B2 s l ((c6, a6), d8)).length := ⟨by omega, by rw [jmt.2]; show (g : Int).toNat < d8.length; omega⟩
    have jnt : d8[g].2.length ≤ 1048576 := Nat.le_trans ((P6 jall.2.1).2 _ (List.getElem_mem (show g < d8.length by omega))) dc
    have ji3 : (atM l (at0 (B2 s l ((c6, a6), d8)) (g : Int))).2.1.length ≤ 1000 := by rw [S1 jac.2.1.2]; exact Nat.le_trans ((a0H jall.1).1 _ (List.getElem_mem _)) dc
    refine Ey rfl ((Y.fn (vs := [_, _, _, _, _, _]) rfl).yd)<|i8<|s4<|b4n (F := (fun z : SL => [pt b14 102 [.slice a39_0 ((X2 (fun a => m6 l d6 a) l (c6, a6)<|I9 s l ((c6, a6), d8)).1).length c39_0, .slice z.1 z.2.1 z.2.2, .slice a39_2 ((X2 (fun a => m6 l d6 a) l (c6, a6)<|I9 s l ((c6, a6), d8)).2.2.1).length c39_2, .int .i64<|(X2 (fun a => m6 l d6 a) l (c6, a6)<|I9 s l ((c6, a6), d8)).2.2.2], ow z6 [.slice z.1 z.2.1 z.2.2]<|(rgI s l ((c6, a6), d8) d6 g).2])) (aA0_1, ((rgI s l ((c6, a6), d8) d6 g).2).length, cA0_1) rfl<|a4G ?_
    have hstab : b4I (fun w L => RoPt w L b5 [.slice a_l l.length c_l] ∧ Ro w L G0 [.slice a_l l.length c_l] l ∧ RoPt w L b12 [.slice a22_1 (B2 s l ((c6, a6), d8)).length c22_1] ∧ Ro w L eIs [.slice a22_1 (B2 s l ((c6, a6), d8)).length c22_1] (B2 s l ((c6, a6), d8)) ∧ RoPt w L b16 [.int .i64 (g : Int)] ∧ RoPt w L b17 [.int .i64 d8[g].1, .slice xa51_0 d8[g].2.length xc51_0] ∧ Ro w L eIs [.slice xa51_0 d8[g].2.length xc51_0] d8[g].2 ∧ RoPt w L b7 [.slice a_facts d6.length c_facts] ∧ Ro w L s5 [.slice a_facts d6.length c_facts] d6) := by intro w0 L0 pre rest w Lp hA h; obtain ⟨h1, h2, h3, h4, h5, h6, h7, h8, h9⟩ := h; exact ⟨hA.rop h1, hA.ro h2, hA.rop h3, hA.ro h4, hA.rop h5, hA.rop h6, hA.ro h7, hA.rop h8, hA.ro h9⟩
    have hfs : FnS Tryz.prog 75 [.pointer (some ⟨b5, 0, none⟩), .pointer (some ⟨b12, 0, none⟩), .pointer (some ⟨b16, 0, none⟩), .pointer (some ⟨b17, 0, none⟩), .pointer (some ⟨b14, 0, none⟩), .pointer (some ⟨b7, 0, none⟩)] (fun w L => RoPt w L b5 [.slice a_l l.length c_l] ∧ Ro w L G0 [.slice a_l l.length c_l] l ∧ RoPt w L b12 [.slice a22_1 (B2 s l ((c6, a6), d8)).length c22_1] ∧ Ro w L eIs [.slice a22_1 (B2 s l ((c6, a6), d8)).length c22_1] (B2 s l ((c6, a6), d8)) ∧ RoPt w L b16 [.int .i64 (g : Int)] ∧ RoPt w L b17 [.int .i64 d8[g].1, .slice xa51_0 d8[g].2.length xc51_0] ∧ Ro w L eIs [.slice xa51_0 d8[g].2.length xc51_0] d8[g].2 ∧ RoPt w L b7 [.slice a_facts d6.length c_facts] ∧ Ro w L s5 [.slice a_facts d6.length c_facts] d6) B7 a0P (fun lg b => S8 s l (a4v l (at0 (B2 s l ((c6, a6), d8)) (g : Int)) d8[g] b) = true ∧ lg.length ≤ 1000000000) (gP l d6 (at0 (B2 s l ((c6, a6), d8)) (g : Int)) d8[g]) (fun lg : List Acs => hpx (fun z : SL => [pt b14 102 [.slice a39_0 ((X2 (fun a => m6 l d6 a) l (c6, a6) (I9 s l ((c6, a6), d8))).1).length c39_0, .slice z.1 z.2.1 z.2.2, .slice a39_2 ((X2 (fun a => m6 l d6 a) l (c6, a6) (I9 s l ((c6, a6), d8))).2.2.1).length c39_2, .int .i64 ((X2 (fun a => m6 l d6 a) l (c6, a6) (I9 s l ((c6, a6), d8))).2.2.2)], ow z6 [.slice z.1 z.2.1 z.2.2] lg])) (gL l (at0 (B2 s l ((c6, a6), d8)) (g : Int)) d8[g]) := b1L fun hd => c1o (fun z => b7t (a6Q (i0 := (g : Int)) (methods := (B2 s l ((c6, a6), d8))) (Y8 := d8[g].1) (R2 := d8[g].2) jk hd.1 jf jac.2.2 ji3 jnt hd.2 jn64) (fun w L h => ⟨h.1.1, h.1.2, h.2⟩)) (fun z => List.Perm.swap _ _ _) (fun _ => rfl)
    have hDD : ∀ j (h : j < ((rgI s l ((c6, a6), d8) d6 g).1).length), (fun lg b => S8 s l (a4v l (at0 (B2 s l ((c6, a6), d8)) (g : Int)) d8[g] b) = true ∧ lg.length ≤ 1000000000) ((((rgI s l ((c6, a6), d8) d6 g).1).take j).foldl (gL l (at0 (B2 s l ((c6, a6), d8)) (g : Int)) d8[g]) ((rgI s l ((c6, a6), d8) d6 g).2)) ((rgI s l ((c6, a6), d8) d6 g).1)[j] := fun j hj => ⟨jac.1 _ (List.getElem_mem hj), Nat.le_trans a4W (by have := List.length_take_le j ((rgI s l ((c6, a6), d8) d6 g).1); have := jle.1; have := jle.2; omega)⟩
    refine Est rfl (N.call (a5H (s0 := (rgI s l ((c6, a6), d8) d6 g).2) hstab hfs hDD) rfl rfl rfl dc rfl<|fun w Lp hA => ⟨hA.pt<|mS<|mS<|mS<|mS<|mS<|mS<|mS<|mS<|mS m0, hA.ro hl, hA.pt<|mS<|mS<|mS<|mS m0, hA.ow<|mS<|mS<|mS<|mS<|mS<|mS m0, hA.pt<|mS m0, hA.pt m0, hA.ro xh51_0, hA.pt<|mS<|mS<|mS<|mS<|mS<|mS<|mS m0, hA.ro hfacts⟩)<|fun k55 _ => f5<|b3q fun z55 => Ei rfl<|En<|o6<|Et<|Ez Z2<|Yad rfl om om<|Em rfl<|Eu<|a4G<|Ent.drop<|a4G<|Ent.drop<|i8<|g9 (congrArg (ow s9 [_]) (show _ = (rgI s l ((c6, a6), d8) d6<|g + 1).1 from by first | exact b1O (g := ((c6, a6), d8)) om | exact b1N (g := ((c6, a6), d8)) om))<|i8<|g9 (congrArg (ow z6 [_]) (show _ = (rgI s l ((c6, a6), d8) d6<|g + 1).2 from by first | exact b1O (g := ((c6, a6), d8)) om | exact b1N (g := ((c6, a6), d8)) om))<|I2<|I2<|I2<|I2<|I2<|I2<|I2<|I2<|I2<|I2<|I2 ?_
    exact Ea (g + 1, k55.1, k55.2.1, k55.2.2, z55.1, z55.2.1, z55.2.2) ⟨oz, trivial⟩
   ·refine Eu<|Eq_<|r7 rfl<|E.exit<|l4<|l4<|w8<|Et<|Eq_<|D.region (fun j => true) mixed<|Dyp 0 rfl (C2 fo_Guarded_0 ty_Query dc rfl)<|Dy 1 rfl (k7 (cs := [_, _]) ty_Query rfl ((Has.pt<|mS<|mS<|mS<|mS<|mS<|mS<|mS<|mS<|mS m0).sub (cs' := [_, _]) 0 rfl) rfl)<|Dm 2 rfl<|Df 4 5 fo_Run_1 ty_Accesss rfl (Hz (mS<|mS m0) 1 rfl)<|Dl 3 rfl (a1V (Nat.le_trans jq.2.1 dc)<|Nat.le_trans jle.1 dc) rfl (fun hA => ⟨hA.ro s8, hA.ro r9, hA.ow<|mS m0⟩)<|fun a60 c60 l60 => Dyp 6 rfl (G7 rfl)<|Dyp 7 rfl (G7 rfl)<|Dyp 8 rfl (G7 rfl)<|n9 kr<|Et<|E.ret<|f5<|g9 (congrArg (ow z6 [_]) (show _ = rgL s l ((c6, a6), d8) d6 by first | exact (M9 (g := ((c6, a6), d8)) q13 jf (show g = d8.length by omega)).1 | exact (M9 (g := ((c6, a6), d8)) q13 jf (show g = d8.length by omega)).2.1 | exact (M9 (g := ((c6, a6), d8)) q13 jf (show g = d8.length by omega)).2.2 | exact (M9 (g := ((c6, a6), d8)) q13 jf (show g = d8.length by omega)).1.symm | exact (M9 (g := ((c6, a6), d8)) q13 jf (show g = d8.length by omega)).2.1.symm | exact (M9 (g := ((c6, a6), d8)) q13 jf (show g = d8.length by omega)).2.2.symm))<|f5<|g9 (congrArg (ow H3 [_]) (show _ = rgA s l ((c6, a6), d8) d6 by first | exact (M9 (g := ((c6, a6), d8)) q13 jf (show g = d8.length by omega)).1 | exact (M9 (g := ((c6, a6), d8)) q13 jf (show g = d8.length by omega)).2.1 | exact (M9 (g := ((c6, a6), d8)) q13 jf (show g = d8.length by omega)).2.2 | exact (M9 (g := ((c6, a6), d8)) q13 jf (show g = d8.length by omega)).1.symm | exact (M9 (g := ((c6, a6), d8)) q13 jf (show g = d8.length by omega)).2.1.symm | exact (M9 (g := ((c6, a6), d8)) q13 jf (show g = d8.length by omega)).2.2.symm))<|f5<|f5 ?_
    exact a2A br rfl rfl rfl rfl ((_, _, _), (_, _, _)) trivial (by rw [show (rgB s l ((c6, a6), d8) d6) = (true) from (by first | exact (M9 (g := ((c6, a6), d8)) q13 jf (show g = d8.length by omega)).1 | exact (M9 (g := ((c6, a6), d8)) q13 jf (show g = d8.length by omega)).2.1 | exact (M9 (g := ((c6, a6), d8)) q13 jf (show g = d8.length by omega)).2.2 | exact (M9 (g := ((c6, a6), d8)) q13 jf (show g = d8.length by omega)).1.symm | exact (M9 (g := ((c6, a6), d8)) q13 jf (show g = d8.length by omega)).2.1.symm | exact (M9 (g := ((c6, a6), d8)) q13 jf (show g = d8.length by omega)).2.2.symm)]; try rfl) (J := _) (.refl _)<|.inl rfl
  ·refine Yno false rfl<|Ypf rfl<|Eu<|r6 rfl<|Ew Z3<|Ei rfl<|Ei rfl<|Ei rfl<|Eu<|E.ret<|i9<|l6 (A := []) (Own.nil (E := T3) (e := tAccess) (a := none)) rfl<|g9 (congrArg (ow z6 [_]) (show _ = rgL s l ((c6, a6), d8) d6 by first | exact (F7<|N6 (l := l) (g := ((c6, a6), d8)) q31).1 | exact (F7<|N6 (l := l) (g := ((c6, a6), d8)) q31).2.1 | exact (F7<|N6 (l := l) (g := ((c6, a6), d8)) q31).2.2 | exact (F7<|N6 (l := l) (g := ((c6, a6), d8)) q31).1.symm | exact (F7<|N6 (l := l) (g := ((c6, a6), d8)) q31).2.1.symm | exact (F7<|N6 (l := l) (g := ((c6, a6), d8)) q31).2.2.symm))<|l6 (A := []) (Own.nil (E := eIs) (e := tIs) (a := none)) rfl<|g9 (congrArg (ow H3 [_]) (show _ = rgA s l ((c6, a6), d8) d6 by first | exact (F7<|N6 (l := l) (g := ((c6, a6), d8)) q31).1 | exact (F7<|N6 (l := l) (g := ((c6, a6), d8)) q31).2.1 | exact (F7<|N6 (l := l) (g := ((c6, a6), d8)) q31).2.2 | exact (F7<|N6 (l := l) (g := ((c6, a6), d8)) q31).1.symm | exact (F7<|N6 (l := l) (g := ((c6, a6), d8)) q31).2.1.symm | exact (F7<|N6 (l := l) (g := ((c6, a6), d8)) q31).2.2.symm))<|f5<|f5 ?_
   exact a2A br rfl rfl rfl rfl ((none, 0, 0), (none, 0, 0)) trivial (by rw [show (rgB s l ((c6, a6), d8) d6) = (false) from (by first | exact (F7<|N6 (l := l) (g := ((c6, a6), d8)) q31).1 | exact (F7<|N6 (l := l) (g := ((c6, a6), d8)) q31).2.1 | exact (F7<|N6 (l := l) (g := ((c6, a6), d8)) q31).2.2 | exact (F7<|N6 (l := l) (g := ((c6, a6), d8)) q31).1.symm | exact (F7<|N6 (l := l) (g := ((c6, a6), d8)) q31).2.1.symm | exact (F7<|N6 (l := l) (g := ((c6, a6), d8)) q31).2.2.symm)]; try rfl) (J := _) (.refl _)<|.inl rfl
 ·refine Eu<|Eq_<|Ew Z8<|Em rfl<|Yno false rfl<|Em rfl<|Es rfl<|Es rfl<|Es rfl<|Es rfl<|Ypt rfl<|Eu<|r6 rfl<|Ew Z3<|Ei rfl<|Ei rfl<|Ei rfl<|Eu<|E.ret<|i9<|l6 (A := []) (Own.nil (E := T3) (e := tAccess) (a := none)) rfl<|g9 (congrArg (ow z6 [_]) (show _ = rgL s l ((c6, a6), d8) d6 by first | exact (F7<|M8 (g := ((c6, a6), d8)) q13).1 | exact (F7<|M8 (g := ((c6, a6), d8)) q13).2.1 | exact (F7<|M8 (g := ((c6, a6), d8)) q13).2.2 | exact (F7<|M8 (g := ((c6, a6), d8)) q13).1.symm | exact (F7<|M8 (g := ((c6, a6), d8)) q13).2.1.symm | exact (F7<|M8 (g := ((c6, a6), d8)) q13).2.2.symm))<|l6 (A := []) (Own.nil (E := eIs) (e := tIs) (a := none)) rfl<|g9 (congrArg (ow H3 [_]) (show _ = rgA s l ((c6, a6), d8) d6 by first | exact (F7<|M8 (g := ((c6, a6), d8)) q13).1 | exact (F7<|M8 (g := ((c6, a6), d8)) q13).2.1 | exact (F7<|M8 (g := ((c6, a6), d8)) q13).2.2 | exact (F7<|M8 (g := ((c6, a6), d8)) q13).1.symm | exact (F7<|M8 (g := ((c6, a6), d8)) q13).2.1.symm | exact (F7<|M8 (g := ((c6, a6), d8)) q13).2.2.symm))<|f5<|f5 ?_
  exact a2A br rfl rfl rfl rfl ((none, 0, 0), (none, 0, 0)) trivial (by rw [show (rgB s l ((c6, a6), d8) d6) = (false) from (by first | exact (F7<|M8 (g := ((c6, a6), d8)) q13).1 | exact (F7<|M8 (g := ((c6, a6), d8)) q13).2.1 | exact (F7<|M8 (g := ((c6, a6), d8)) q13).2.2 | exact (F7<|M8 (g := ((c6, a6), d8)) q13).1.symm | exact (F7<|M8 (g := ((c6, a6), d8)) q13).2.1.symm | exact (F7<|M8 (g := ((c6, a6), d8)) q13).2.2.symm)]; try rfl) (J := _) (.refl _)<|.inl rfl
end Go.Proofs.YthapcdhdfaibkaaGreatDoor
end
