import Derived.Test.YthapcdhdfaibkaaGreatDoorT37
import Derived.Test.YthapcdhdfaibkaaGreatDoorT30
import Derived.Test.YthapcdhdfaibkaaGreatDoorT120
namespace Go.Proofs.YthapcdhdfaibkaaGreatDoor
open Go.RowKit
set_option linter.all false
set_option maxHeartbeats 2000000
attribute [local irreducible] Nop Yd Yp Ent Has Tr FnP FnP2 Src o2 c8 N0 a0b E6
variable {r_Rounds : Int} {l : List (Int × List Int × Int × Int × Int)} {w7 l3 a8 : List (Int × List Int)} {d8 : List Int} {m_l c_l R6 I9 P1 H4 Y2 O8 m_facts c_facts : Nat} {a_l J0 H5 O9 a_facts : Option Addr}
theorem a3N {u7 : Int} {z8 : Option Addr} {B4 z7 : Nat} {w9 : List Int} (hya : w9.length ≤ 1048576) : Tr Tryz.prog 164 [.agg #[.int .i64 u7, .slice z8 B4 z7]] (fun w L => I64 u7 ∧ Ro w L eIs [.slice z8 B4 z7] w9) [] (κ := Option Addr × Nat × Nat) (fun k => True) (fun k => .agg #[.int .i64 u7, .slice k.1 k.2.1 k.2.2]) (fun k => [ow eIs [.slice k.1 k.2.1 k.2.2] w9]) := by
 refine Tr.intro Tryz.func164 rfl (n := 9) rfl (by decide +kernel) bl (fr := [(0, .agg #[.int .i64 u7, .slice z8 B4 z7])]) rfl fun w L hR => ?_
 obtain ⟨P2, C4⟩ := hR
 obtain ⟨rfl, W8⟩ := C4.slen
 refine Ew Z2 (Est rfl (N.box (cs := [_, _]) rfl dc rfl) (fun b1 _ => (Est rfl (N.alloc ty_Access dc) (fun b2 _ => (Eu (Eq_ (D.region (fun j => !(Nat.beq j 6)) mixed (Dyp 0 rfl (f5 fo_Access_0 f9 dc rfl) (Dy 1 rfl (g9 f9 rfl (Hz (mS m0) 0 rfl) rfl) (Dyp 2 rfl (f5 fo_Access_1 ty_Is dc rfl) (Dy 3 rfl (g9 ty_Is rfl (Hz (mS m0) 1 rfl) rfl) (t6 4 rfl rfl kr (fun _ => rfl) (N.call (a5Y fc) rfl rfl rfl dc rfl (fun w Lp hA => hA.ro C4)) (fun k7 _ => ?_)))))))))))))
 obtain ⟨a7, m7, c7⟩ := k7
 refine d7 m0 fun e7 l7 => ?_
 subst e7
 refine Dyp 5 rfl (I2 (pvs := [_, _]) (cs := [_, _]) ty_Access a6Z rfl rfl) (d9 (t6 6 rfl rfl kr (fun h => by cases h) (Ns [_, _] ty_Access rfl) (fun _ _ => (r9 kr (Et (E.ret (d9 ?_)))))))
 exact O2 br rfl rfl (mS m0) ty_Access rfl (_, _, _) trivial rfl (J := _) (.refl _) (.inl rfl)
theorem b0X {l : List (Int × List Int)} (hz : l.length ≤ 2097152) (hyl : ∀ x ∈ l, x.2.length ≤ 1048576) : Tr Tryz.prog 83 [.slice a_l m_l c_l] (fun w L => Ro w L w5 [.slice a_l m_l c_l] l) [] (κ := Option Addr × Nat × Nat) (fun k => True) (fun k => .slice k.1 k.2.1 k.2.2) (fun k => [ow w5 [.slice k.1 k.2.1 k.2.2] l]) := by
 refine Tr.intro Tryz.func83 rfl (n := 27) rfl (by decide +kernel) bl (fr := [(0, .slice a_l m_l c_l)]) rfl fun w L hR => ?_
 have hl := hR
 obtain ⟨rfl, ll⟩ := hl.slen
 refine Ew Z1 (Ei rfl (Ev Z2 (Est rfl (Nb [] [] us_Accesss ty_Access rfl rfl) (fun b5 _ => (Ent.drop (Ei rfl (Eu (Eq_ (Ew Z1 (Ei rfl (Eu (E.block (u9 (A := []) (Own.nil (E := F6) (e := tAccess) (a := (some ⟨b5, 0, none⟩))) rfl (j4 (congrArg (ow w5 [_]) (show [] = l.take 0 from by first | rfl | (simp; done) | grind [d1, d2, t1, t2])) (E.loop (κ := Nat × Option Addr × Nat × Nat) (fun g => g.1 ≤ l.length ∧ True) (fun g => [(0, .slice a_l l.length c_l), (3, .slice g.2.1 g.2.2.1 g.2.2.2), (4, .int .i64 (↑g.1 : Int))]) (fun g => [ow w5 [.slice g.2.1 g.2.2.1 g.2.2.2] (l.take g.1)]) (fun g => l.length - g.1) (0, (some ⟨b5, 0, none⟩), 0, 0) ⟨Nat.zero_le _, by simp⟩ ⟨rfl, rfl, rfl, trivial⟩ (.refl _) (fun g pg => ?_))))))))))))))))
 obtain ⟨g, aA0_0, mA0_0, cA0_0⟩ := g
 try dsimp only at pg
 try dsimp only
 obtain ⟨pk, pa⟩ := pg
 have jp := List.length_take_le g l
 refine d7 m0 fun eaA0_0 laA0_0 => ?_
 subst eaA0_0
 refine Eq_ (Ew Z4 (Em rfl (Em rfl (Ey rfl ((Y.len us_Accesss rfl).yd) (Ey rfl ((Y.lss rfl rfl).yd) (o3 (fun q9 => ?_) (fun q9 => ?_)))))))
 ·refine Eu (n8 rfl (i7 (Et (Eq_ (E.block (D.region (fun j => !(Nat.beq j 13)) mixed (Dyp 0 rfl (i8 rfl) (Dyp 1 rfl (i8 rfl) (Dyp 2 rfl (i8 rfl) ?_)))))))))
  obtain ⟨eb15, eo15, ec15, ea15, er15, el15, eh15⟩ := hl.elem g om
  obtain ⟨xa15_0, xc15_0, rfl, ei15_0, xh15_0⟩ := a2n er15
  have := xh15_0.slen.2
  refine Dyp 3 rfl (v8 us_Accesss ty_Access rfl ea15 rfl g rfl om) (Dyp 4 rfl (f5 fo_Access_0 f9 dc rfl) (Dy 5 rfl (g9 f9 rfl ((eh15 _).sub (cs' := [_]) 0 rfl) rfl) (Dyp 6 rfl (i8 rfl) (Dyp 7 rfl (i8 rfl) (Dyp 8 rfl (v8 us_Accesss ty_Access rfl ea15 rfl g rfl om) (Dyp 9 rfl (f5 fo_Access_1 ty_Is dc rfl) (Dy 10 rfl (g9 ty_Is rfl ((eh15 _).sub (cs' := [_]) 1 rfl) rfl) (t6 11 rfl rfl kr (fun _ => rfl) (N.call (a2Q (hyl _ (List.getElem_mem om))) rfl rfl rfl dc rfl (fun w Lp hA => ⟨ei15_0, hA.ro xh15_0⟩)) (fun k23 _ => ?_)))))))))
  obtain ⟨a23, m23, c23⟩ := k23
  refine d7 m0 fun e23 l23 => ?_
  subst e23
  refine t6 12 rfl rfl kr (fun _ => rfl) (Nb [_] [_, _] us_Accesss ty_Access rfl rfl) (fun b24 _ => (d9 (d9 (j8 (t6 13 rfl rfl kr (fun h => by cases h) (C7 (E := F6) (ex := l[g]) us_Accesss ty_Access rfl rfl rfl (a1k (x := l[g]) ei15_0 Own.ow) rfl bn bn dc) (fun p25 _ => (Dyp 14 rfl (C2 rfl) (r9 kr (s9 (Et (Ez Z3 (Em rfl (Ey rfl ((Y.add rfl rfl om om).yd) (Ei rfl (Eu (j4 (congrArg (ow w5 [_]) (show (l.take g) ++ [l[g]] = l.take (g + 1) from by grind [d1, d2, t1, t2])) ?_))))))))))))))))
  exact Ea (g + 1, p25.1, ((l.take g).length + 1), p25.2) ⟨oz, trivial⟩
 ·refine Eu (o0 rfl (E.exit (q1 (q1 (y4 (Et (Ew Z2 (Em rfl (Ei rfl (Eu (E.ret (j4 (congrArg (ow w5 [_]) (show _ = l by grind [d1, d2, t1, t2])) ?_))))))))))))
  exact Fg rfl rfl (_, _, _) rfl rfl
theorem a0M (za : w7.length ≤ 1048576) (zb : ∀ f ∈ w7, f.2.length ≤ 1048576) (zc : d8.length ≤ 1048576) (zd : l3.length ≤ 1048576) (ze : ∀ a ∈ l3, a.2.length ≤ 1048576) : Tr Tryz.prog 278 [.agg #[.slice J0 R6 I9, .slice H5 P1 H4, .slice O9 Y2 O8, .int .i64 r_Rounds]] (fun w L => Ro w L m8 [.slice J0 R6 I9] w7 ∧ Ro w L eIs [.slice H5 P1 H4] d8 ∧ Ro w L w5 [.slice O9 Y2 O8] l3 ∧ I64 r_Rounds) [] (κ := (Option Addr × Nat × Nat) × (Option Addr × Nat × Nat) × (Option Addr × Nat × Nat)) (fun k => True) (fun k => .agg #[.slice k.1.1 k.1.2.1 k.1.2.2, .slice k.2.1.1 k.2.1.2.1 k.2.1.2.2, .slice k.2.2.1 k.2.2.2.1 k.2.2.2.2, .int .i64 r_Rounds]) (fun k => [ow m8 [.slice k.1.1 k.1.2.1 k.1.2.2] w7, ow eIs [.slice k.2.1.1 k.2.1.2.1 k.2.1.2.2] d8, ow w5 [.slice k.2.2.1 k.2.2.2.1 k.2.2.2.2] l3]) := by
 refine Tr.intro Tryz.func278 rfl (n := 19) rfl (by decide +kernel) bl (fr := [(0, .agg #[.slice J0 R6 I9, .slice H5 P1 H4, .slice O9 Y2 O8, .int .i64 r_Rounds])]) rfl fun w L hR => ?_
 obtain ⟨J4, E9, S4, i6r_Rounds⟩ := hR
 obtain ⟨rfl, a6a⟩ := J4.slen
 obtain ⟨rfl, a4Q⟩ := E9.slen
 obtain ⟨rfl, a8Z⟩ := S4.slen
 refine Ew Z2 (Est rfl (N.box (cs := [_, _, _, _]) rfl dc rfl) (fun b1 _ => (Est rfl (N.alloc ty_Reached dc) (fun b2 _ => (Eu (Eq_ (a7q (κ := Nat × Option Addr × Nat × (Option Addr × Nat)) (fun _ => True) (fun kM => [(1, .pointer (some ⟨b1, 0, none⟩)), (2, .pointer (some ⟨b2, 0, none⟩)), (3, .pointer (some ⟨kM.1, 0, none⟩))]) (fun kM => [pt kM.1 90 [.slice kM.2.1 (w7).length kM.2.2.1, .slice kM.2.2.2.1 d8.length kM.2.2.2.2, .slice none 0 0, .int .i64 r_Rounds], ow eIs [.slice kM.2.2.2.1 d8.length kM.2.2.2.2] d8, ow m8 [.slice kM.2.1 (w7).length kM.2.2.1] w7, pt b2 90 [.slice none 0 0, .slice none 0 0, .slice none 0 0, .int .i64 0], pt b1 90 [.slice J0 w7.length I9, .slice H5 d8.length H4, .slice O9 l3.length O8, .int .i64 r_Rounds]]) ?_ (fun kM _ => ?_))))))))
 ·refine D.region (fun j => !(Nat.beq j 11)) mixed (Dyp 0 rfl (f5 fo_Reached_0 ty_Facts dc rfl) (Dy 1 rfl (g9 ty_Facts rfl (Hz (mS m0) 0 rfl) rfl) (Dyp 4 rfl (f5 fo_Reached_1 ty_Is dc rfl) (Dy 5 rfl (g9 ty_Is rfl (Hz (mS m0) 1 rfl) rfl) (Dyp 7 rfl (f5 fo_Reached_3 f9 dc rfl) (Dy 8 rfl (g9 f9 rfl (Hz (mS m0) 3 rfl) rfl) (b8T (i := 2) (j := 3) (l := 10) kr ?_ ?_ ?_)))))))
  ·refine a1c 2 rfl rfl (fun _ => rfl) (N.call (a0N fo zb) rfl rfl rfl dc rfl (fun w Lp hA => hA.ro J4)) (fun k6 _ => ?_)
   obtain ⟨a6, m6, c6⟩ := k6
   refine d7 m0 fun e6 l6 => ?_
   subst e6
   refine a3Y (i := 3) (j := 10) kr ?_ ?_
   ·refine a1c 3 rfl rfl (fun _ => rfl) (Nb [] [] us_Is f9 rfl rfl) (fun b7 _ => (Ent.drop (a3Y (i := 6) (j := 10) kr ?_ ?_)))
    ·refine a1c 6 rfl rfl (fun _ => rfl) (W1 (E := Enc.int) Plain.int us_Is f9 rfl rfl rfl E9 bn bn dc) (fun p10 _ => (Dyp 9 rfl (I2 (pvs := [_, _, _]) (cs := [_, _, _, _]) ty_Reached pl_Reached rfl rfl) (t6 10 rfl rfl kr (fun _ => rfl) (N.alloc ty_Reached dc) (fun b3 _ => (t6 11 rfl rfl kr (fun h => by cases h) (Ns [_, _, _, _] ty_Reached rfl) (fun _ _ => (r9 kr (j9 (j9 (j9 (j9 (j9 ?_))))))))))))
     exact a0v (b3, a6, c6, p10) trivial ⟨rfl, rfl, rfl, trivial⟩ (.refl _)
    ·refine a1c 10 rfl rfl (fun _ => rfl) (N.alloc ty_Reached dc) (fun b3 _ => (t6 6 rfl rfl kr (fun _ => rfl) (W1 (E := Enc.int) Plain.int us_Is f9 rfl rfl rfl E9 bn bn dc) (fun p10 _ => (Dyp 9 rfl (I2 (pvs := [_, _, _]) (cs := [_, _, _, _]) ty_Reached pl_Reached rfl rfl) (d9 (t6 11 rfl rfl kr (fun h => by cases h) (Ns [_, _, _, _] ty_Reached rfl) (fun _ _ => (r9 kr (j9 (j9 (j9 (j9 (j9 ?_)))))))))))))
     exact a0v (b3, a6, c6, p10) trivial ⟨rfl, rfl, rfl, trivial⟩ (.refl _)
   ·refine a1c 10 rfl rfl (fun _ => rfl) (N.alloc ty_Reached dc) (fun b3 _ => (t6 3 rfl rfl kr (fun _ => rfl) (Nb [] [] us_Is f9 rfl rfl) (fun b7 _ => (Ent.drop (t6 6 rfl rfl kr (fun _ => rfl) (W1 (E := Enc.int) Plain.int us_Is f9 rfl rfl rfl E9 bn bn dc) (fun p10 _ => (Dyp 9 rfl (I2 (pvs := [_, _, _]) (cs := [_, _, _, _]) ty_Reached pl_Reached rfl rfl) (d9 (t6 11 rfl rfl kr (fun h => by cases h) (Ns [_, _, _, _] ty_Reached rfl) (fun _ _ => (r9 kr (j9 (j9 (j9 (j9 (j9 ?_))))))))))))))))
    exact a0v (b3, a6, c6, p10) trivial ⟨rfl, rfl, rfl, trivial⟩ (.refl _)
  ·refine a1c 3 rfl rfl (fun _ => rfl) (Nb [] [] us_Is f9 rfl rfl) (fun b7 _ => (Ent.drop (a3Y (i := 2) (j := 10) kr ?_ ?_)))
   ·refine a1c 2 rfl rfl (fun _ => rfl) (N.call (a0N fo zb) rfl rfl rfl dc rfl (fun w Lp hA => hA.ro J4)) (fun k6 _ => ?_)
    obtain ⟨a6, m6, c6⟩ := k6
    refine d7 m0 fun e6 l6 => ?_
    subst e6
    refine a3Y (i := 6) (j := 10) kr ?_ ?_
    ·refine a1c 6 rfl rfl (fun _ => rfl) (W1 (E := Enc.int) Plain.int us_Is f9 rfl rfl rfl E9 bn bn dc) (fun p10 _ => (Dyp 9 rfl (I2 (pvs := [_, _, _]) (cs := [_, _, _, _]) ty_Reached pl_Reached rfl rfl) (t6 10 rfl rfl kr (fun _ => rfl) (N.alloc ty_Reached dc) (fun b3 _ => (t6 11 rfl rfl kr (fun h => by cases h) (Ns [_, _, _, _] ty_Reached rfl) (fun _ _ => (r9 kr (j9 (j9 (j9 (j9 (j9 ?_))))))))))))
     exact a0v (b3, a6, c6, p10) trivial ⟨rfl, rfl, rfl, trivial⟩ (.refl _)
    ·refine a1c 10 rfl rfl (fun _ => rfl) (N.alloc ty_Reached dc) (fun b3 _ => (t6 6 rfl rfl kr (fun _ => rfl) (W1 (E := Enc.int) Plain.int us_Is f9 rfl rfl rfl E9 bn bn dc) (fun p10 _ => (Dyp 9 rfl (I2 (pvs := [_, _, _]) (cs := [_, _, _, _]) ty_Reached pl_Reached rfl rfl) (d9 (t6 11 rfl rfl kr (fun h => by cases h) (Ns [_, _, _, _] ty_Reached rfl) (fun _ _ => (r9 kr (j9 (j9 (j9 (j9 (j9 ?_)))))))))))))
     exact a0v (b3, a6, c6, p10) trivial ⟨rfl, rfl, rfl, trivial⟩ (.refl _)
   ·refine a1c 10 rfl rfl (fun _ => rfl) (N.alloc ty_Reached dc) (fun b3 _ => (t6 2 rfl rfl kr (fun _ => rfl) (N.call (a0N fo zb) rfl rfl rfl dc rfl (fun w Lp hA => hA.ro J4)) (fun k6 _ => ?_)))
    obtain ⟨a6, m6, c6⟩ := k6
    refine d7 m0 fun e6 l6 => ?_
    subst e6
    refine t6 6 rfl rfl kr (fun _ => rfl) (W1 (E := Enc.int) Plain.int us_Is f9 rfl rfl rfl E9 bn bn dc) (fun p10 _ => (Dyp 9 rfl (I2 (pvs := [_, _, _]) (cs := [_, _, _, _]) ty_Reached pl_Reached rfl rfl) (j8 (t6 11 rfl rfl kr (fun h => by cases h) (Ns [_, _, _, _] ty_Reached rfl) (fun _ _ => (r9 kr (j9 (j9 (j9 (j9 (j9 ?_)))))))))))
    exact a0v (b3, a6, c6, p10) trivial ⟨rfl, rfl, rfl, trivial⟩ (.refl _)
  ·refine a1c 10 rfl rfl (fun _ => rfl) (N.alloc ty_Reached dc) (fun b3 _ => (a3Y (i := 2) (j := 3) kr ?_ ?_))
   ·refine a1c 2 rfl rfl (fun _ => rfl) (N.call (a0N fo zb) rfl rfl rfl dc rfl (fun w Lp hA => hA.ro J4)) (fun k6 _ => ?_)
    obtain ⟨a6, m6, c6⟩ := k6
    refine d7 m0 fun e6 l6 => ?_
    subst e6
    refine t6 3 rfl rfl kr (fun _ => rfl) (Nb [] [] us_Is f9 rfl rfl) (fun b7 _ => (Ent.drop (t6 6 rfl rfl kr (fun _ => rfl) (W1 (E := Enc.int) Plain.int us_Is f9 rfl rfl rfl E9 bn bn dc) (fun p10 _ => (Dyp 9 rfl (I2 (pvs := [_, _, _]) (cs := [_, _, _, _]) ty_Reached pl_Reached rfl rfl) (j8 (t6 11 rfl rfl kr (fun h => by cases h) (Ns [_, _, _, _] ty_Reached rfl) (fun _ _ => (r9 kr (j9 (j9 (j9 (j9 (j9 ?_))))))))))))))
    exact a0v (b3, a6, c6, p10) trivial ⟨rfl, rfl, rfl, trivial⟩ (.refl _)
   ·refine a1c 3 rfl rfl (fun _ => rfl) (Nb [] [] us_Is f9 rfl rfl) (fun b7 _ => (Ent.drop (t6 2 rfl rfl kr (fun _ => rfl) (N.call (a0N fo zb) rfl rfl rfl dc rfl (fun w Lp hA => hA.ro J4)) (fun k6 _ => ?_))))
    obtain ⟨a6, m6, c6⟩ := k6
    refine d7 m0 fun e6 l6 => ?_
    subst e6
    refine t6 6 rfl rfl kr (fun _ => rfl) (W1 (E := Enc.int) Plain.int us_Is f9 rfl rfl rfl E9 bn bn dc) (fun p10 _ => (Dyp 9 rfl (I2 (pvs := [_, _, _]) (cs := [_, _, _, _]) ty_Reached pl_Reached rfl rfl) (j8 (t6 11 rfl rfl kr (fun h => by cases h) (Ns [_, _, _, _] ty_Reached rfl) (fun _ _ => (r9 kr (j9 (j9 (j9 (j9 (j9 ?_)))))))))))
    exact a0v (b3, a6, c6, p10) trivial ⟨rfl, rfl, rfl, trivial⟩ (.refl _)
 ·obtain ⟨b3, a6, c6, p10⟩ := kM
  try dsimp only
  refine Et (Ew Z5 (Ey rfl ((f5 fo_Reached_2 ty_Accesss dc rfl).yd) (Ey rfl (g9 ty_Accesss rfl (Hz (mS (mS (mS (mS m0)))) 2 rfl) rfl) (Est rfl (N.call (b0X fo ze) rfl rfl rfl dc rfl (fun w Lp hA => hA.ro S4)) (fun k16 _ => ?_)))))
  obtain ⟨a16, m16, c16⟩ := k16
  refine d7 m0 fun e16 l16 => ?_
  subst e16
  refine Ey rfl ((f5 fo_Reached_2 ty_Accesss dc rfl).yd) (d9 (Est rfl (Ns [_, _, _, _] ty_Accesss rfl) (fun _ _ => (Ev Z2 (Ey rfl (o6 (cs := [_, _, _, _]) ty_Reached rfl (Has.pt m0) rfl) (j9 (Est rfl (Ns [_, _, _, _] ty_Reached rfl) (fun _ _ => (Eu (E.ret (j8 (o4 (j9 (j8 (j8 (j8 ?_))))))))))))))))
  exact O2 br rfl rfl (mS (mS (mS m0))) ty_Reached rfl ((_, _, _), (_, _, _), (_, _, _)) trivial rfl (J := _) (.refl _) (.inl rfl)
theorem b0D (hok : ∃ s, B3 s l = true ∧ D7 s a8 = true) (hrv : O6 d8 = true) (za : w7.length ≤ 1048576) (zb : ∀ f ∈ w7, f.2.length ≤ 1048576) (zd : l3.length ≤ 1048576) (hn : 0 ≤ r_Rounds ∧ r_Rounds ≤ 1000) (hle : ∀ a ∈ l3, a.2.length ≤ 1048576) : Tr Tryz.prog 279 [.slice a_l m_l c_l, .slice a_facts m_facts c_facts, .agg #[.slice J0 R6 I9, .slice H5 P1 H4, .slice O9 Y2 O8, .int .i64 r_Rounds]] (fun w L => Ro w L F5 [.slice a_l m_l c_l] l ∧ Ro w L m8 [.slice a_facts m_facts c_facts] a8 ∧ Ro w L m8 [.slice J0 R6 I9] w7 ∧ Ro w L eIs [.slice H5 P1 H4] d8 ∧ Ro w L w5 [.slice O9 Y2 O8] l3 ∧ I64 r_Rounds) [] (κ := (Option Addr × Nat × Nat) × (Option Addr × Nat × Nat) × (Option Addr × Nat × Nat)) (fun k => True) (fun k => .tuple #[.agg #[.slice k.1.1 k.1.2.1 k.1.2.2, .slice k.2.1.1 k.2.1.2.1 k.2.1.2.2, .slice k.2.2.1 k.2.2.2.1 k.2.2.2.2, .int .i64 ((M7 l a8 (w7, d8, l3, r_Rounds)).2.2.2)], .bool (decide (0 < (c8 d8 l3 l 0).length))]) (fun k => [ow m8 [.slice k.1.1 k.1.2.1 k.1.2.2] ((M7 l a8 (w7, d8, l3, r_Rounds)).1), ow eIs [.slice k.2.1.1 k.2.1.2.1 k.2.1.2.2] ((M7 l a8 (w7, d8, l3, r_Rounds)).2.1), ow w5 [.slice k.2.2.1 k.2.2.2.1 k.2.2.2.2] ((M7 l a8 (w7, d8, l3, r_Rounds)).2.2.1)]) := by
 refine Tr.intro Tryz.func279 rfl (n := 94) rfl (by decide +kernel) bl (fr := [(0, .slice a_l m_l c_l), (1, .slice a_facts m_facts c_facts), (2, .agg #[.slice J0 R6 I9, .slice H5 P1 H4, .slice O9 Y2 O8, .int .i64 r_Rounds])]) rfl fun w L hR => ?_
 obtain ⟨hl, hfacts, J4, E9, S4, i6r_Rounds⟩ := hR
 obtain ⟨rfl, ll⟩ := hl.slen
 obtain ⟨rfl, lfacts⟩ := hfacts.slen
 obtain ⟨rfl, a6a⟩ := J4.slen
 obtain ⟨rfl, a4Q⟩ := E9.slen
 obtain ⟨rfl, a8Z⟩ := S4.slen
 obtain ⟨s0, hm0, hf0⟩ := hok
 obtain ⟨hm1, hm2⟩ := a2s hm0
 have hv := V2 hrv
 obtain ⟨hfl, hfo⟩ := J5 hf0
 have hel : ∀ f ∈ a8, f.2.length ≤ 1048576 := fun f hf => Nat.le_trans (H3 (hfo f hf)) dc
 have ho := a2J (j5 := d8) (log := l3) (i := 0) hv (l := l) hm1
 have zc : d8.length ≤ 1048576 := by omega
 have ze : ∀ a ∈ l3, a.2.length ≤ 1048576 := hle
 refine Ew Z3 (Est rfl (N.box (cs := [_, _, _, _]) rfl dc rfl) (fun b5 _ => (Est rfl (N.alloc ty_Reached dc) (fun b6 _ => (Ei rfl (Ev Z4 (Ey rfl (o6 (cs := [_, _, _, _]) ty_Reached rfl (Has.pt (mS m0)) rfl) (Est rfl (N.call (a0M fo fo fo fo fo) rfl rfl rfl dc rfl (fun w Lp hA => ⟨hA.ro J4, hA.ro E9, hA.ro S4, i6r_Rounds⟩)) (fun k15 _ => ?_)))))))))
 obtain ⟨⟨a15_0, m15_0, c15_0⟩, ⟨a15_1, m15_1, c15_1⟩, ⟨a15_2, m15_2, c15_2⟩⟩ := k15
 refine d7 m0 fun e15_0 l15_0 => ?_
 subst e15_0
 refine d7 (mS m0) fun e15_1 l15_1 => ?_
 subst e15_1
 refine d7 (mS (mS m0)) fun e15_2 l15_2 => ?_
 subst e15_2
 refine Est rfl (N.alloc ty_Reached dc) (fun b8 _ => (Est rfl (Ns [_, _, _, _] ty_Reached rfl) (fun _ _ => (Ev Z4 (Em rfl (Ey rfl (o6 (cs := [_, _, _, _]) ty_Reached rfl (Has.pt (mS (mS (mS (mS (mS m0)))))) rfl) (Est rfl (N.call (a3J hv hm1 hm2) rfl rfl rfl dc rfl (fun w Lp hA => ⟨hA.ro hl, hA.ro J4, hA.ro E9, hA.ro S4, i6r_Rounds⟩)) (fun k18 _ => ?_))))))))
 obtain ⟨a18, m18, c18⟩ := k18
 refine d7 m0 fun e18 l18 => ?_
 subst e18
 refine Ei rfl (Eu (Eq_ (Ew Z1 (Ei rfl (Eu (E.block (j8 (j4 (congrArg (ow m8 [_]) (show w7 = ((c8 d8 l3 l 0).take 0).foldl (U4 l a8) w7 from by first | rfl | (simp; done) | grind [M7, O0, a4X, d1, d2, t1, t2])) (o4 (j4 (congrArg (ow eIs [_]) (show d8 = ((c8 d8 l3 l 0).take 0).foldl (U3 l a8) d8 from by first | rfl | (simp; done) | grind [M7, O0, a4X, d1, d2, t1, t2])) (j9 (j4 (congrArg (ow w5 [_]) (show l3 = l3 ++ (c8 d8 l3 l 0).take 0 from by first | rfl | (simp; done) | grind [M7, O0, a4X, d1, d2, t1, t2])) (o4 (a2P (E.loop (κ := Nat × Option Addr × Nat × Nat × Option Addr × Nat × Nat × Option Addr × Nat × Nat) (fun g => g.1 ≤ (c8 d8 l3 l 0).length ∧ True) (fun g => [(0, .slice a_l l.length c_l), (1, .slice a_facts a8.length c_facts), (5, .pointer (some ⟨b5, 0, none⟩)), (6, .pointer (some ⟨b6, 0, none⟩)), (8, .pointer (some ⟨b8, 0, none⟩)), (9, .slice a18 (c8 d8 l3 l 0).length c18), (10, .int .i64 (↑g.1 : Int))]) (fun g => [owd tAccess F6 a18 ((c8 d8 l3 l 0).length) c18 (c8 d8 l3 l 0) g.1, ow w5 [.slice g.2.2.2.2.2.2.2.1 g.2.2.2.2.2.2.2.2.1 g.2.2.2.2.2.2.2.2.2] (l3 ++ (c8 d8 l3 l 0).take g.1), ow eIs [.slice g.2.2.2.2.1 g.2.2.2.2.2.1 g.2.2.2.2.2.2.1] (((c8 d8 l3 l 0).take g.1).foldl (U3 l a8) d8), ow m8 [.slice g.2.1 g.2.2.1 g.2.2.2.1] (((c8 d8 l3 l 0).take g.1).foldl (U4 l a8) w7), pt b8 90 [.slice g.2.1 g.2.2.1 g.2.2.2.1, .slice g.2.2.2.2.1 g.2.2.2.2.2.1 g.2.2.2.2.2.2.1, .slice g.2.2.2.2.2.2.2.1 g.2.2.2.2.2.2.2.2.1 g.2.2.2.2.2.2.2.2.2, .int .i64 r_Rounds], pt b6 90 [.slice none 0 0, .slice none 0 0, .slice none 0 0, .int .i64 0], pt b5 90 [.slice J0 w7.length I9, .slice H5 d8.length H4, .slice O9 l3.length O8, .int .i64 r_Rounds]]) (fun g => (c8 d8 l3 l 0).length - g.1) (0, a15_0, (w7).length, c15_0, a15_1, (d8).length, c15_1, a15_2, (l3).length, c15_2) ⟨Nat.zero_le _, by simp⟩ ⟨rfl, rfl, rfl, rfl, rfl, rfl, rfl, trivial⟩ (.refl _) (fun g pg => ?_))))))))))))))))
 obtain ⟨g, aA0_0, mA0_0, cA0_0, aA0_1, mA0_1, cA0_1, aA0_2, mA0_2, cA0_2⟩ := g
 try dsimp only at pg
 try dsimp only
 obtain ⟨pk, pa⟩ := pg
 have jf := b5r (l := l) (a8 := a8) (o := (c8 d8 l3 l 0).take g) (F := w7)
 have jt := List.length_take_le g (c8 d8 l3 l 0)
 have jm := Nat.mul_le_mul (show ((c8 d8 l3 l 0).take g).length ≤ 5000 by omega) hfl
 have jw := a9L (l := l) (a8 := a8) (a5I hf0) (o := (c8 d8 l3 l 0).take g) hrv
 have jv := V2 jw.2
 have je := b6I (l := l) (o := (c8 d8 l3 l 0).take g) (F := w7) (n := 1048576) zb hel
 refine d7 (mS (mS (mS m0))) fun eaA0_0 laA0_0 => ?_
 subst eaA0_0
 refine d7 (mS (mS m0)) fun eaA0_1 laA0_1 => ?_
 subst eaA0_1
 refine d7 (mS m0) fun eaA0_2 laA0_2 => ?_
 subst eaA0_2
 refine Eq_ (Ew Z4 (Em rfl (Em rfl (Ey rfl ((Y.len us_Accesss rfl).yd) (Ey rfl ((Y.lss rfl rfl).yd) (o3 (fun q22 => ?_) (fun q22 => ?_)))))))
 ·refine Eu (n8 rfl (i7 (Et (Eq_ (E.block (Eq_ (D.region (fun j => !(Nat.beq j 7) && !(Nat.beq j 9)) mixed (Dyp 0 rfl (f5 fo_Reached_2 ty_Accesss dc rfl) (Dy 1 rfl (g9 ty_Accesss rfl (Hz (mS (mS (mS (mS m0)))) 2 rfl) rfl) (Dyp 2 rfl (i8 rfl) (Dyp 3 rfl (i8 rfl) (a2b m0 om fun ab29 ae29 => (a2N (j := g) om fun ce29 => (d9 (a5b fun oa29_1 om29_1 oc29_1 oe29 oi29_0 on29_1 => ?_)))))))))))))))
  subst oe29
  subst on29_1
  refine d7 m0 fun _ ol29_1 => (Dyp 4 rfl (v8 us_Accesss ty_Access rfl ae29 rfl g rfl om) (Dy 5 rfl (o6 (cs := [_, _]) ty_Access rfl (Has.owt ae29 (mS m0)) rfl) (t6 6 rfl rfl kr (fun _ => rfl) (Nb [_] [_, _] us_Accesss ty_Access rfl rfl) (fun b31 _ => (o4 (t6 7 rfl rfl kr (fun h => by cases h) (a7o (E := F6) (ex := (c8 d8 l3 l 0)[g]) (ce := [_, _]) us_Accesss ty_Access rfl rfl rfl rfl rfl rfl bn bn dc) (fun p32 _ => (Dyp 8 rfl (f5 fo_Reached_2 ty_Accesss dc rfl) (w6 (t6 9 rfl rfl kr (fun h => by cases h) (Ns [_, _, _, _] ty_Accesss rfl) (fun _ _ => (r9 kr (Et (Eq_ (D.region (fun j => true) mixed (Dyp 0 rfl (i8 rfl) (Dyp 1 rfl (i8 rfl) (Dyp 2 rfl (i8 rfl) (Dyp 3 rfl (v8 us_Accesss ty_Access rfl ae29 rfl g rfl om) (Dyp 4 rfl (f5 fo_Access_0 f9 dc rfl) (Dy 5 rfl (g9 f9 rfl ((Has.owt ae29 (mS (mS (mS m0)))).sub (cs' := [_]) 0 rfl) rfl) ?_)))))))))))))))))))))
  have zo := (a4b (j5 := d8) (log := l3) (l := l) (g := g) om).1
  obtain ⟨eb40, eo40, ec40, ea40, er40, el40, eh40⟩ := hl.elem (((c8 d8 l3 l 0)[g].1).toNat) om
  obtain ⟨mm, jmm⟩ : ∃ z, z = l[((c8 d8 l3 l 0)[g].1).toNat] := ⟨_, rfl⟩
  rw [← jmm] at er40
  obtain ⟨xa40_0, xc40_0, rfl, ei40_0, xh40_0, ei40_2, ei40_3, ei40_4⟩ := V6 er40
  have := xh40_0.slen.2
  refine Dyp 6 rfl (v8 us_Methods ty_Method rfl ea40 rfl (((c8 d8 l3 l 0)[g].1).toNat) om om) ?_
  have jat : atM l (c8 d8 l3 l 0)[g].1 = mm := by rw [D0 zo.2, jmm]
  refine Dy 7 rfl (o6 (cs := [_, _, _, _, _]) ty_Method rfl (eh40 _) rfl) (Dyp 8 rfl (i8 rfl) (Dyp 9 rfl (i8 rfl) (Dyp 10 rfl (v8 us_Accesss ty_Access rfl ae29 rfl g rfl om) (Dyp 11 rfl (f5 fo_Access_1 ty_Is dc rfl) (Dy 12 rfl (g9 ty_Is rfl ((Has.owt ae29 (mS (mS (mS m0)))).sub (cs' := [_]) 1 rfl) rfl) (Dyp 13 rfl (i8 rfl) (t6 14 rfl rfl kr (fun _ => rfl) (N.call (a2x (by have zz := (a4b (j5 := d8) (log := l3) (l := l) (g := g) om).2; rw [jat] at zz; exact Nat.le_of_eq zz.symm) (by have zy := b7u hm0 hf0 zo; rw [jat] at zy; exact zy) om hel) rfl rfl rfl dc rfl (fun w Lp hA => ⟨ei40_0, hA.ro xh40_0, ei40_2, ei40_3, ei40_4, hA.ow (mS (mS m0)), hA.ro hfacts⟩)) (fun k48 _ => ?_))))))))
  obtain ⟨a48, m48, c48⟩ := k48
  refine d7 m0 fun e48 l48 => ?_
  subst e48
  refine P3 (A := [_]) rfl fun wb1 Lb1 hB1 hA1 => ?_
  have hl := hA1.ro hl
  have hfacts := hA1.ro hfacts
  have xh40_0 := hA1.ro xh40_0
  have J4 := hA1.ro J4
  have E9 := hA1.ro E9
  have S4 := hA1.ro S4
  have eh40 := hB1.has eh40
  have rb1 : Ro wb1 Lb1 m8 [.slice a48 (a8.filter (v7 mm ((c8 d8 l3 l 0)[g].2))).length c48] (a8.filter (v7 mm ((c8 d8 l3 l 0)[g].2))) := hA1.ow m0
  refine Dyp 15 rfl (C2 rfl) (r9 kr (Et (Ew Z1 (Ei rfl (Eu (E.block (w6 (j4 (congrArg (ow m8 [_]) (show ((c8 d8 l3 l 0).take g).foldl (U4 l a8) w7 = ((a8.filter (v7 mm (c8 d8 l3 l 0)[g].2)).take 0).foldl w4 (((c8 d8 l3 l 0).take g).foldl (U4 l a8) w7) from by first | rfl | (simp; done) | grind [M7, O0, a4X, d1, d2, t1, t2])) (w6 (j4 (congrArg (ow eIs [_]) (show ((c8 d8 l3 l 0).take g).foldl (U3 l a8) d8 = ((a8.filter (v7 mm (c8 d8 l3 l 0)[g].2)).take 0).foldl pvI (((c8 d8 l3 l 0).take g).foldl (U3 l a8) d8) from by first | rfl | (simp; done) | grind [M7, O0, a4X, d1, d2, t1, t2])) (E.loop (κ := Nat × Option Addr × Nat × Nat × Option Addr × Nat × Nat) (fun h => h.1 ≤ (a8.filter (v7 mm (c8 d8 l3 l 0)[g].2)).length ∧ True) (fun h => [(0, .slice a_l l.length c_l), (1, .slice a_facts a8.length c_facts), (5, .pointer (some ⟨b5, 0, none⟩)), (6, .pointer (some ⟨b6, 0, none⟩)), (8, .pointer (some ⟨b8, 0, none⟩)), (9, .slice a18 (c8 d8 l3 l 0).length c18), (10, .int .i64 (g : Int)), (11, .slice a48 (a8.filter (v7 mm ((c8 d8 l3 l 0)[g].2))).length c48), (12, .int .i64 (↑h.1 : Int))]) (fun h => [ow eIs [.slice h.2.2.2.2.1 h.2.2.2.2.2.1 h.2.2.2.2.2.2] (((a8.filter (v7 mm (c8 d8 l3 l 0)[g].2)).take h.1).foldl pvI (((c8 d8 l3 l 0).take g).foldl (U3 l a8) d8)), ow m8 [.slice h.2.1 h.2.2.1 h.2.2.2.1] (((a8.filter (v7 mm (c8 d8 l3 l 0)[g].2)).take h.1).foldl w4 (((c8 d8 l3 l 0).take g).foldl (U4 l a8) w7)), pt b8 90 [.slice h.2.1 h.2.2.1 h.2.2.2.1, .slice h.2.2.2.2.1 h.2.2.2.2.2.1 h.2.2.2.2.2.2, .slice p32.1 ((l3 ++ (c8 d8 l3 l 0).take g).length + 1) p32.2, .int .i64 r_Rounds], hole tAccess F6 p32.1 ((l3 ++ (c8 d8 l3 l 0).take g).length + 1) p32.2 ((l3 ++ (c8 d8 l3 l 0).take g) ++ [(c8 d8 l3 l 0)[g]]) ((l3 ++ (c8 d8 l3 l 0).take g).length) [.int .i64 ((c8 d8 l3 l 0)[g].1), .slice oa29_1 ((c8 d8 l3 l 0)[g].2.length) oc29_1], ow eIs [.slice oa29_1 ((c8 d8 l3 l 0)[g].2.length) oc29_1] ((c8 d8 l3 l 0)[g].2), owt tAccess F6 a18 ((c8 d8 l3 l 0).length) c18 (c8 d8 l3 l 0) g [.int .i64 ((c8 d8 l3 l 0)[g].1), .slice oa29_1 ((c8 d8 l3 l 0)[g].2.length) oc29_1], pt b6 90 [.slice none 0 0, .slice none 0 0, .slice none 0 0, .int .i64 0], pt b5 90 [.slice J0 w7.length I9, .slice H5 d8.length H4, .slice O9 l3.length O8, .int .i64 r_Rounds]]) (fun h => (a8.filter (v7 mm (c8 d8 l3 l 0)[g].2)).length - h.1) (0, aA0_0, (((c8 d8 l3 l 0).take g).foldl (U4 l a8) w7).length, cA0_0, aA0_1, (((c8 d8 l3 l 0).take g).foldl (U3 l a8) d8).length, cA0_1) ⟨Nat.zero_le _, by simp⟩ ⟨rfl, rfl, rfl, rfl, rfl, rfl, rfl, rfl, rfl, trivial⟩ (.refl _) (fun h ph => ?_))))))))))))
  obtain ⟨h, aA1_0, mA1_0, cA1_0, aA1_1, mA1_1, cA1_1⟩ := h
  try dsimp only at ph
  try dsimp only
  obtain ⟨pk, pa⟩ := ph
  have jg := a2C (m := (a8.filter (v7 mm (c8 d8 l3 l 0)[g].2)).take h) (x := ((c8 d8 l3 l 0).take g).foldl (U4 l a8) w7)
  have jh := List.length_take_le h (a8.filter (v7 mm (c8 d8 l3 l 0)[g].2))
  have ji := List.length_filter_le (v7 mm (c8 d8 l3 l 0)[g].2) a8
  have jz := a7V (g := h) (fun f hf => hel f (List.mem_filter.1 hf).1 : ∀ f ∈ a8.filter (v7 mm (c8 d8 l3 l 0)[g].2), f.2.length ≤ 1048576) je
  have jx := a6B (m := (a8.filter (v7 mm (c8 d8 l3 l 0)[g].2)).take h) jw.2 (fun f hf => a5I hf0 f (List.mem_filter.1 (List.mem_of_mem_take hf)).1)
  have jy := V2 jx.2
  refine d7 (mS m0) fun eaA1_0 laA1_0 => ?_
  subst eaA1_0
  refine d7 m0 fun eaA1_1 laA1_1 => ?_
  subst eaA1_1
  refine Eq_ (Ew Z4 (Em rfl (Em rfl (Ey rfl ((Y.len us_Facts rfl).yd) (Ey rfl ((Y.lss rfl rfl).yd) (o3 (fun q52 => ?_) (fun q52 => ?_)))))))
  ·refine Eu (n8 rfl (i7 (Et (Eq_ (E.block (Eq_ (D.region (fun j => !(Nat.beq j 8)) mixed (Dyp 0 rfl (f5 fo_Reached_0 ty_Facts dc rfl) (Dy 1 rfl (g9 ty_Facts rfl (Hz (mS (mS m0)) 0 rfl) rfl) (Dyp 2 rfl (i8 rfl) (Dyp 3 rfl (i8 rfl) ?_)))))))))))
   obtain ⟨eb59, eo59, ec59, ea59, er59, el59, eh59⟩ := rb1.elem h om
   obtain ⟨xa59_0, xc59_0, rfl, ei59_0, xh59_0⟩ := K8 er59
   have := xh59_0.slen.2
   refine Dyp 4 rfl (v8 us_Facts ty_Fact rfl ea59 rfl h rfl om) (Dy 5 rfl (o6 (cs := [_, _]) ty_Fact rfl (eh59 _) rfl) (t6 6 rfl rfl kr (fun _ => rfl) (N.call (T9 om jz (hel _ (List.mem_filter.1 (List.getElem_mem om)).1)) rfl rfl rfl dc rfl (fun w Lp hA => ⟨hA.ow (mS m0), ei59_0, hA.ro xh59_0⟩)) (fun k61 _ => ?_)))
   obtain ⟨a61, m61, c61⟩ := k61
   refine d7 m0 fun e61 l61 => ?_
   subst e61
   refine Dyp 7 rfl (f5 fo_Reached_0 ty_Facts dc rfl) (o4 (t6 8 rfl rfl kr (fun h => by cases h) (Ns [_, _, _, _] ty_Facts rfl) (fun _ _ => (r9 kr (Et (Ew Z1 (Ei rfl (Eu (E.block (j8 (j4 (congrArg (ow eIs [_]) (show ((a8.filter (v7 mm (c8 d8 l3 l 0)[g].2)).take h).foldl pvI (((c8 d8 l3 l 0).take g).foldl (U3 l a8) d8) = ((a8.filter (v7 mm (c8 d8 l3 l 0)[g].2))[h].2.take 0).foldl E4 (((a8.filter (v7 mm (c8 d8 l3 l 0)[g].2)).take h).foldl pvI (((c8 d8 l3 l 0).take g).foldl (U3 l a8) d8)) from by first | rfl | (simp; done) | grind [M7, O0, a4X, d1, d2, t1, t2])) (E.loop (κ := Nat × Option Addr × Nat × Nat) (fun j => j.1 ≤ (a8.filter (v7 mm (c8 d8 l3 l 0)[g].2))[h].2.length ∧ True) (fun j => [(0, .slice a_l l.length c_l), (1, .slice a_facts a8.length c_facts), (5, .pointer (some ⟨b5, 0, none⟩)), (6, .pointer (some ⟨b6, 0, none⟩)), (8, .pointer (some ⟨b8, 0, none⟩)), (9, .slice a18 (c8 d8 l3 l 0).length c18), (10, .int .i64 (g : Int)), (11, .slice a48 (a8.filter (v7 mm ((c8 d8 l3 l 0)[g].2))).length c48), (12, .int .i64 (h : Int)), (13, .int .i64 (↑j.1 : Int))]) (fun j => [ow eIs [.slice j.2.1 j.2.2.1 j.2.2.2] (((a8.filter (v7 mm (c8 d8 l3 l 0)[g].2))[h].2.take j.1).foldl E4 (((a8.filter (v7 mm (c8 d8 l3 l 0)[g].2)).take h).foldl pvI (((c8 d8 l3 l 0).take g).foldl (U3 l a8) d8))), pt b8 90 [.slice a61 (w4 (((a8.filter (v7 mm (c8 d8 l3 l 0)[g].2)).take h).foldl w4 (((c8 d8 l3 l 0).take g).foldl (U4 l a8) w7)) (((a8.filter (v7 mm ((c8 d8 l3 l 0)[g].2)))[h].1), ((a8.filter (v7 mm ((c8 d8 l3 l 0)[g].2)))[h].2))).length c61, .slice j.2.1 j.2.2.1 j.2.2.2, .slice p32.1 ((l3 ++ (c8 d8 l3 l 0).take g).length + 1) p32.2, .int .i64 r_Rounds], ow m8 [.slice a61 (w4 (((a8.filter (v7 mm (c8 d8 l3 l 0)[g].2)).take h).foldl w4 (((c8 d8 l3 l 0).take g).foldl (U4 l a8) w7)) (((a8.filter (v7 mm ((c8 d8 l3 l 0)[g].2)))[h].1), ((a8.filter (v7 mm ((c8 d8 l3 l 0)[g].2)))[h].2))).length c61] (w4 (((a8.filter (v7 mm (c8 d8 l3 l 0)[g].2)).take h).foldl w4 (((c8 d8 l3 l 0).take g).foldl (U4 l a8) w7)) (((a8.filter (v7 mm ((c8 d8 l3 l 0)[g].2)))[h].1), ((a8.filter (v7 mm ((c8 d8 l3 l 0)[g].2)))[h].2))), ow m8 [.slice aA1_0 (((a8.filter (v7 mm (c8 d8 l3 l 0)[g].2)).take h).foldl w4 (((c8 d8 l3 l 0).take g).foldl (U4 l a8) w7)).length cA1_0] (((a8.filter (v7 mm (c8 d8 l3 l 0)[g].2)).take h).foldl w4 (((c8 d8 l3 l 0).take g).foldl (U4 l a8) w7)), hole tAccess F6 p32.1 ((l3 ++ (c8 d8 l3 l 0).take g).length + 1) p32.2 ((l3 ++ (c8 d8 l3 l 0).take g) ++ [(c8 d8 l3 l 0)[g]]) ((l3 ++ (c8 d8 l3 l 0).take g).length) [.int .i64 ((c8 d8 l3 l 0)[g].1), .slice oa29_1 ((c8 d8 l3 l 0)[g].2.length) oc29_1], ow eIs [.slice oa29_1 ((c8 d8 l3 l 0)[g].2.length) oc29_1] ((c8 d8 l3 l 0)[g].2), owt tAccess F6 a18 ((c8 d8 l3 l 0).length) c18 (c8 d8 l3 l 0) g [.int .i64 ((c8 d8 l3 l 0)[g].1), .slice oa29_1 ((c8 d8 l3 l 0)[g].2.length) oc29_1], pt b6 90 [.slice none 0 0, .slice none 0 0, .slice none 0 0, .int .i64 0], pt b5 90 [.slice J0 w7.length I9, .slice H5 d8.length H4, .slice O9 l3.length O8, .int .i64 r_Rounds]]) (fun j => (a8.filter (v7 mm (c8 d8 l3 l 0)[g].2))[h].2.length - j.1) (0, aA1_1, (((a8.filter (v7 mm (c8 d8 l3 l 0)[g].2)).take h).foldl pvI (((c8 d8 l3 l 0).take g).foldl (U3 l a8) d8)).length, cA1_1) ⟨Nat.zero_le _, by simp⟩ ⟨rfl, rfl, rfl, rfl, rfl, rfl, rfl, rfl, rfl, rfl, trivial⟩ (.refl _) (fun j pj => ?_)))))))))))))
   obtain ⟨j, aA2_0, mA2_0, cA2_0⟩ := j
   try dsimp only at pj
   try dsimp only
   obtain ⟨pk, pa⟩ := pj
   have jk := a4C (l := (a8.filter (v7 mm (c8 d8 l3 l 0)[g].2))[h].2.take j) (s := ((a8.filter (v7 mm (c8 d8 l3 l 0)[g].2)).take h).foldl pvI (((c8 d8 l3 l 0).take g).foldl (U3 l a8) d8))
   have jl := List.length_take_le j (a8.filter (v7 mm (c8 d8 l3 l 0)[g].2))[h].2
   have jn := hel _ (List.mem_filter.1 (List.getElem_mem (l := a8.filter (v7 mm (c8 d8 l3 l 0)[g].2)) (n := h) om)).1
   refine d7 m0 fun eaA2_0 laA2_0 => ?_
   subst eaA2_0
   refine Eq_ (Ew Z8 (Em rfl (Em rfl (Em rfl (Ey rfl ((v8 us_Facts ty_Fact rfl ea59 rfl h rfl om).yd) (Ey rfl ((f5 fo_Fact_1 ty_Is dc rfl).yd) (Ey rfl (g9 ty_Is rfl ((eh59 _).sub (cs' := [_]) 1 rfl) rfl) (Ey rfl ((Y.len us_Is rfl).yd) (Ey rfl ((Y.lss rfl rfl).yd) (o3 (fun q70 => ?_) (fun q70 => ?_)))))))))))
   ·refine Eu (n8 rfl (i7 (Et (Eq_ (E.block (D.region (fun j => !(Nat.beq j 10) && !(Nat.beq j 12)) mixed (Dyp 0 rfl (f5 fo_Reached_1 ty_Is dc rfl) (Dy 1 rfl (g9 ty_Is rfl (Hz (mS m0) 1 rfl) rfl) (Dyp 2 rfl (i8 rfl) (Dyp 3 rfl (i8 rfl) (Dyp 4 rfl (v8 us_Facts ty_Fact rfl ea59 rfl h rfl om) (Dyp 5 rfl (f5 fo_Fact_1 ty_Is dc rfl) (Dy 6 rfl (g9 ty_Is rfl ((eh59 _).sub (cs' := [_]) 1 rfl) rfl) (Dyp 7 rfl (i8 rfl) ?_))))))))))))))
    obtain ⟨eb81, eo81, ea81, ei81, eh81⟩ := xh59_0.elemI j om
    refine Dyp 8 rfl (v8 us_Is f9 rfl ea81 rfl j rfl om) (Dy 9 rfl (g9 f9 rfl (eh81 _) rfl) (t6 10 rfl rfl kr (fun h => by cases h) (N.call (pre := [_]) (a1h fo) rfl rfl rfl dc rfl (fun w Lp hA => ei81)) (fun k83 _ => ?_)))
    obtain ⟨a83, m83, c83⟩ := k83
    refine d7 m0 fun e83 l83 => ?_
    subst e83
    refine Dyp 11 rfl (f5 fo_Reached_1 ty_Is dc rfl) (d9 (t6 12 rfl rfl kr (fun h => by cases h) (Ns [_, _, _, _] ty_Is rfl) (fun _ _ => (r9 kr (s9 (Et (Ez Z3 (Em rfl (Ey rfl ((Y.add rfl rfl om om).yd) (Ei rfl (Eu (d9 (j4 (congrArg (ow eIs [_]) (show E4 (((a8.filter (v7 mm (c8 d8 l3 l 0)[g].2))[h].2.take j).foldl E4 (((a8.filter (v7 mm (c8 d8 l3 l 0)[g].2)).take h).foldl pvI (((c8 d8 l3 l 0).take g).foldl (U3 l a8) d8))) (((a8.filter (v7 mm ((c8 d8 l3 l 0)[g].2)))[h].2)[j]) = ((a8.filter (v7 mm (c8 d8 l3 l 0)[g].2))[h].2.take (j + 1)).foldl E4 (((a8.filter (v7 mm (c8 d8 l3 l 0)[g].2)).take h).foldl pvI (((c8 d8 l3 l 0).take g).foldl (U3 l a8) d8)) from by first | rfl | grind [d1, d2, t1, t2])) (D8 (D8 (D8 (D8 (D8 (D8 (D8 (D8 (D8 ?_))))))))))))))))))))))
    exact Ea (j + 1, a83, (E4 (((a8.filter (v7 mm (c8 d8 l3 l 0)[g].2))[h].2.take j).foldl E4 (((a8.filter (v7 mm (c8 d8 l3 l 0)[g].2)).take h).foldl pvI (((c8 d8 l3 l 0).take g).foldl (U3 l a8) d8))) (((a8.filter (v7 mm ((c8 d8 l3 l 0)[g].2)))[h].2)[j])).length, c83) ⟨oz, trivial⟩
   ·refine Eu (o0 rfl (E.exit (q1 (q1 (y4 (s9 (Et (Ez Z3 (Em rfl (Ey rfl ((Y.add rfl rfl om om).yd) (Ei rfl (Eu (o4 (Ent.drop (j8 (j4 (congrArg (ow m8 [_]) (show w4 (((a8.filter (v7 mm (c8 d8 l3 l 0)[g].2)).take h).foldl w4 (((c8 d8 l3 l 0).take g).foldl (U4 l a8) w7)) (((a8.filter (v7 mm ((c8 d8 l3 l 0)[g].2)))[h].1), ((a8.filter (v7 mm ((c8 d8 l3 l 0)[g].2)))[h].2)) = ((a8.filter (v7 mm (c8 d8 l3 l 0)[g].2)).take (h + 1)).foldl w4 (((c8 d8 l3 l 0).take g).foldl (U4 l a8) w7) from by first | rfl | grind [pvI, d1, d2, t1, t2])) (d9 (j4 (congrArg (ow eIs [_]) (show ((a8.filter (v7 mm (c8 d8 l3 l 0)[g].2))[h].2.take j).foldl E4 (((a8.filter (v7 mm (c8 d8 l3 l 0)[g].2)).take h).foldl pvI (((c8 d8 l3 l 0).take g).foldl (U3 l a8) d8)) = ((a8.filter (v7 mm (c8 d8 l3 l 0)[g].2)).take (h + 1)).foldl pvI (((c8 d8 l3 l 0).take g).foldl (U3 l a8) d8) from by first | rfl | grind [pvI, d1, d2, t1, t2])) (w8 (w8 (w8 (w8 (w8 (w8 (w8 (w8 ?_))))))))))))))))))))))))))
    exact Ea (h + 1, a61, (w4 (((a8.filter (v7 mm (c8 d8 l3 l 0)[g].2)).take h).foldl w4 (((c8 d8 l3 l 0).take g).foldl (U4 l a8) w7)) (((a8.filter (v7 mm ((c8 d8 l3 l 0)[g].2)))[h].1), ((a8.filter (v7 mm ((c8 d8 l3 l 0)[g].2)))[h].2))).length, c61, aA2_0, (((a8.filter (v7 mm (c8 d8 l3 l 0)[g].2))[h].2.take j).foldl E4 (((a8.filter (v7 mm (c8 d8 l3 l 0)[g].2)).take h).foldl pvI (((c8 d8 l3 l 0).take g).foldl (U3 l a8) d8))).length, cA2_0) ⟨oz, trivial⟩
  ·refine Eu (o0 rfl (E.exit (q1 (q1 (y4 (s9 (Et (Ez Z3 (Em rfl (Ey rfl ((Y.add rfl rfl om om).yd) (Ei rfl ?_)))))))))))
   have jr := a9Z (f := U4 l a8) (b := w7) (show g < (c8 d8 l3 l 0).length by omega)
   have js := a9Z (f := U3 l a8) (b := d8) (show g < (c8 d8 l3 l 0).length by omega)
   refine Eu (j9 (j9 (a4S (a1k (x := (c8 d8 l3 l 0)[g]) oi29_0 Own.ow) rfl rfl (j9 (a1F (o4 (j4 (congrArg (ow m8 [_]) (show ((a8.filter (v7 mm (c8 d8 l3 l 0)[g].2)).take h).foldl w4 (((c8 d8 l3 l 0).take g).foldl (U4 l a8) w7) = ((c8 d8 l3 l 0).take (g + 1)).foldl (U4 l a8) w7 from by grind [U4, U3, M5, d1, d2, t1, t2])) (o4 (j4 (congrArg (ow eIs [_]) (show ((a8.filter (v7 mm (c8 d8 l3 l 0)[g].2)).take h).foldl pvI (((c8 d8 l3 l 0).take g).foldl (U3 l a8) d8) = ((c8 d8 l3 l 0).take (g + 1)).foldl (U3 l a8) d8 from by grind [U4, U3, M5, d1, d2, t1, t2])) (o4 (j4 (congrArg (ow w5 [_]) (show (l3 ++ (c8 d8 l3 l 0).take g) ++ [(c8 d8 l3 l 0)[g]] = l3 ++ (c8 d8 l3 l 0).take (g + 1) from by grind [U4, U3, M5, d1, d2, t1, t2])) (B1 (B1 (B1 (w6 (w6 (w6 (B1 ?_))))))))))))))))))
   exact x6 hB1 (g + 1, aA1_0, (((a8.filter (v7 mm (c8 d8 l3 l 0)[g].2)).take h).foldl w4 (((c8 d8 l3 l 0).take g).foldl (U4 l a8) w7)).length, cA1_0, aA1_1, (((a8.filter (v7 mm (c8 d8 l3 l 0)[g].2)).take h).foldl pvI (((c8 d8 l3 l 0).take g).foldl (U3 l a8) d8)).length, cA1_1, p32.1, ((l3 ++ (c8 d8 l3 l 0).take g).length + 1), p32.2) rs (.refl _) ⟨oz, trivial⟩ oz
 ·refine Eu (o0 rfl (E.exit (q1 (q1 (y4 (Et (Eq_ (Ew Z3 (Em rfl (Ey rfl ((Y.len us_Accesss rfl).yd) (Ey rfl ((Y.eql rfl rfl).yd) (o3 (fun q87 => ?_) (fun q87 => ?_)))))))))))))
  ·refine Eu (n8 rfl (Ew Z3 (Ey rfl (o6 (cs := [_, _, _, _]) ty_Reached rfl (Has.pt (mS (mS (mS (mS m0))))) rfl) (w6 (Est rfl (Ns [_, _, _, _] ty_Reached rfl) (fun _ _ => (Ei rfl (Eu (E.ret (n0 (j8 (j4 (congrArg (ow w5 [_]) (show _ = (M7 l a8 (w7, d8, l3, r_Rounds)).2.2.1 by first | exact W3 (by assumption) | exact W4 (by assumption) | exact a2q om | exact a2t om | exact a2r om | exact (W3 (by assumption)).symm | exact (W4 (by assumption)).symm | exact decide_eq_false om | exact decide_eq_true om | (simp; done) | grind)) (o4 (j4 (congrArg (ow eIs [_]) (show _ = (M7 l a8 (w7, d8, l3, r_Rounds)).2.1 by first | exact W3 (by assumption) | exact W4 (by assumption) | exact a2q om | exact a2t om | exact a2r om | exact (W3 (by assumption)).symm | exact (W4 (by assumption)).symm | exact decide_eq_false om | exact decide_eq_true om | (simp; done) | grind)) (j9 (j4 (congrArg (ow m8 [_]) (show _ = (M7 l a8 (w7, d8, l3, r_Rounds)).1 by first | exact W3 (by assumption) | exact W4 (by assumption) | exact a2q om | exact a2t om | exact a2r om | exact (W3 (by assumption)).symm | exact (W4 (by assumption)).symm | exact decide_eq_false om | exact decide_eq_true om | (simp; done) | grind)) (j8 (j8 (j8 ?_)))))))))))))))))))
   exact a1d br rfl rfl rfl (mS (mS (mS m0))) ty_Reached rfl ((_, _, _), (_, _, _), (_, _, _)) trivial (by rw [show ((M7 l a8 (w7, d8, l3, r_Rounds)).2.2.2) = (r_Rounds) from (by first | exact W3 (by assumption) | exact W4 (by assumption) | exact a2q om | exact a2t om | exact a2r om | exact (W3 (by assumption)).symm | exact (W4 (by assumption)).symm | exact decide_eq_false om | exact decide_eq_true om | (simp; done) | grind)]; rw [show (decide (0 < (c8 d8 l3 l 0).length)) = (false) from (by first | exact W3 (by assumption) | exact W4 (by assumption) | exact a2q om | exact a2t om | exact a2r om | exact (W3 (by assumption)).symm | exact (W4 (by assumption)).symm | exact decide_eq_false om | exact decide_eq_true om | (simp; done) | grind)]; try rfl) (J := _) (.refl _) (.inl rfl)
  ·refine Eu (o0 rfl (i7 (Et (Ew Z5 (Ey rfl ((f5 fo_Reached_3 f9 dc rfl).yd) (Ey rfl (g9 f9 rfl ((Has.pt (mS (mS (mS (mS (mS (mS m0))))))).sub (cs' := [_]) 3 rfl) rfl) (Ey rfl ((Y.add rfl rfl om om).yd) (Ey rfl ((f5 fo_Reached_3 f9 dc rfl).yd) (j9 (Est rfl (Ns [_, _, _, _] f9 rfl) (fun _ _ => (Ev Z3 (Ey rfl (o6 (cs := [_, _, _, _]) ty_Reached rfl (Has.pt m0) rfl) (w6 (Est rfl (Ns [_, _, _, _] ty_Reached rfl) (fun _ _ => (Ei rfl (Eu (E.ret (o4 (j4 (congrArg (ow w5 [_]) (show _ = (M7 l a8 (w7, d8, l3, r_Rounds)).2.2.1 by first | exact W3 (by assumption) | exact W4 (by assumption) | exact a2q om | exact a2t om | exact a2r om | exact (W3 (by assumption)).symm | exact (W4 (by assumption)).symm | exact decide_eq_false om | exact decide_eq_true om | (simp; done) | grind)) (j9 (j4 (congrArg (ow eIs [_]) (show _ = (M7 l a8 (w7, d8, l3, r_Rounds)).2.1 by first | exact W3 (by assumption) | exact W4 (by assumption) | exact a2q om | exact a2t om | exact a2r om | exact (W3 (by assumption)).symm | exact (W4 (by assumption)).symm | exact decide_eq_false om | exact decide_eq_true om | (simp; done) | grind)) (w6 (j4 (congrArg (ow m8 [_]) (show _ = (M7 l a8 (w7, d8, l3, r_Rounds)).1 by first | exact W3 (by assumption) | exact W4 (by assumption) | exact a2q om | exact a2t om | exact a2r om | exact (W3 (by assumption)).symm | exact (W4 (by assumption)).symm | exact decide_eq_false om | exact decide_eq_true om | (simp; done) | grind)) (j8 (j8 (j8 ?_))))))))))))))))))))))))))))
   exact a1d br rfl rfl rfl (mS (mS (mS m0))) ty_Reached rfl ((_, _, _), (_, _, _), (_, _, _)) trivial (by rw [show ((M7 l a8 (w7, d8, l3, r_Rounds)).2.2.2) = ((r_Rounds + 1)) from (by first | exact W3 (by assumption) | exact W4 (by assumption) | exact a2q om | exact a2t om | exact a2r om | exact (W3 (by assumption)).symm | exact (W4 (by assumption)).symm | exact decide_eq_false om | exact decide_eq_true om | (simp; done) | grind)]; rw [show (decide (0 < (c8 d8 l3 l 0).length)) = (true) from (by first | exact W3 (by assumption) | exact W4 (by assumption) | exact a2q om | exact a2t om | exact a2r om | exact (W3 (by assumption)).symm | exact (W4 (by assumption)).symm | exact decide_eq_false om | exact decide_eq_true om | (simp; done) | grind)]; try rfl) (J := _) (.refl _) (.inl rfl)
theorem a7T {a_s : Option Addr} {m_s c_s : Nat} {s : List Int} (za : w7.length ≤ 1048576) (zb : ∀ f ∈ w7, f.2.length ≤ 1048576) (zc : d8.length ≤ 1048576) (zd : l3.length ≤ 1048576) (ze : ∀ a ∈ l3, a.2.length ≤ 1048576) : Tr Tryz.prog 174 [.slice a_s m_s c_s, .slice a_l m_l c_l, .slice a_facts m_facts c_facts, .agg #[.slice J0 R6 I9, .slice H5 P1 H4, .slice O9 Y2 O8, .int .i64 r_Rounds]] (fun w L => Ro w L eIs [.slice a_s m_s c_s] s ∧ Ro w L F5 [.slice a_l m_l c_l] l ∧ Ro w L m8 [.slice a_facts m_facts c_facts] a8 ∧ Ro w L m8 [.slice J0 R6 I9] w7 ∧ Ro w L eIs [.slice H5 P1 H4] d8 ∧ Ro w L w5 [.slice O9 Y2 O8] l3 ∧ I64 r_Rounds) [] (κ := (Option Addr × Nat × Nat) × (Option Addr × Nat × Nat) × (Option Addr × Nat × Nat)) (fun k => True) (fun k => .tuple #[.agg #[.slice k.1.1 k.1.2.1 k.1.2.2, .slice k.2.1.1 k.2.1.2.1 k.2.1.2.2, .slice k.2.2.1 k.2.2.2.1 k.2.2.2.2, .int .i64 ((C8 s l a8 (w7, d8, l3, r_Rounds)).2.2.2)], .bool (H7 s l a8 (w7, d8, l3, r_Rounds))]) (fun k => [ow m8 [.slice k.1.1 k.1.2.1 k.1.2.2] ((C8 s l a8 (w7, d8, l3, r_Rounds)).1), ow eIs [.slice k.2.1.1 k.2.1.2.1 k.2.1.2.2] ((C8 s l a8 (w7, d8, l3, r_Rounds)).2.1), ow w5 [.slice k.2.2.1 k.2.2.2.1 k.2.2.2.2] ((C8 s l a8 (w7, d8, l3, r_Rounds)).2.2.1)]) := by
 refine Tr.intro Tryz.func174 rfl (n := 52) rfl (by decide +kernel) bl (fr := [(0, .slice a_s m_s c_s), (1, .slice a_l m_l c_l), (2, .slice a_facts m_facts c_facts), (3, .agg #[.slice J0 R6 I9, .slice H5 P1 H4, .slice O9 Y2 O8, .int .i64 r_Rounds])]) rfl fun w L hR => ?_
 obtain ⟨hs, hl, hfacts, J4, E9, S4, i6r_Rounds⟩ := hR
 obtain ⟨rfl, ls⟩ := hs.slen
 obtain ⟨rfl, ll⟩ := hl.slen
 obtain ⟨rfl, lfacts⟩ := hfacts.slen
 obtain ⟨rfl, a6a⟩ := J4.slen
 obtain ⟨rfl, a4Q⟩ := E9.slen
 obtain ⟨rfl, a8Z⟩ := S4.slen
 refine Ew Z3 (Est rfl (N.box (cs := [_, _, _, _]) rfl dc rfl) (fun b7 _ => (Est rfl (N.alloc ty_Reached dc) (fun b8 _ => (Ei rfl (Eu (Eq_ (Ew Z29 (Em rfl (Em rfl (Est rfl (l0 a1g rfl rfl rfl dc (fun w Lp hA => ⟨hA.ro hs, hA.ro hl⟩)) (fun _ _ => (Ent.b (fun q14 => ?_) (fun q14 => ?_))))))))))))))
 ·refine Ey rfl ((Y.not (b := true) rfl).yd) (Em rfl (Em rfl (Em rfl (Est rfl (l0 S2 rfl rfl rfl dc (fun w Lp hA => ⟨hA.ro hs, hA.ro hfacts⟩)) (fun _ _ => (Ent.b (fun q19 => ?_) (fun q19 => ?_)))))))
  ·refine Ey rfl ((Y.not (b := true) rfl).yd) (Ey rfl ((t7 rfl rfl).yd) (Em rfl (Ey rfl ((f5 fo_Reached_1 ty_Is dc rfl).yd) (Ey rfl (g9 ty_Is rfl (Hz (mS m0) 1 rfl) rfl) (Est rfl (l0 a8L rfl rfl rfl dc (fun w Lp hA => hA.ro E9)) (fun _ _ => (Ent.b (fun q25 => ?_) (fun q25 => ?_))))))))
   ·refine Ey rfl ((Y.not (b := true) rfl).yd) (Ey rfl ((t7 rfl rfl).yd) (Em rfl (Em rfl (Ey rfl ((f5 fo_Reached_0 ty_Facts dc rfl).yd) (Ey rfl (g9 ty_Facts rfl (Hz (mS m0) 0 rfl) rfl) (Est rfl (l0 S2 rfl rfl rfl dc (fun w Lp hA => ⟨hA.ro hs, hA.ro J4⟩)) (fun _ _ => (Ent.b (fun q32 => ?_) (fun q32 => ?_)))))))))
    ·refine Ey rfl ((Y.not (b := true) rfl).yd) (Ey rfl ((t7 rfl rfl).yd) (Em rfl (Ey rfl ((f5 fo_Reached_3 f9 dc rfl).yd) (Ey rfl (g9 f9 rfl (Hz (mS m0) 3 rfl) rfl) (Est rfl (l0 G0 rfl rfl rfl dc tv) (fun _ _ => (Ent.b (fun q38 => ?_) (fun q38 => ?_))))))))
     ·refine Ey rfl ((Y.not (b := true) rfl).yd) (Ey rfl ((t7 rfl rfl).yd) (Eu (o0 rfl (i7 (Et (Ew Z10 (Em rfl (Em rfl (Ey rfl (o6 (cs := [_, _, _, _]) ty_Reached rfl (Has.pt (mS m0)) rfl) (Est rfl (N.call (b0D ⟨s, by assumption, by assumption⟩ (by assumption) fo fo fo (by have zz := a3A (by assumption : inR r_Rounds 0 100 = true); omega) ze) rfl rfl rfl dc rfl (fun w Lp hA => ⟨hA.ro hl, hA.ro hfacts, hA.ro J4, hA.ro E9, hA.ro S4, i6r_Rounds⟩)) (fun k47 _ => ?_)))))))))))
      obtain ⟨⟨a47_0, m47_0, c47_0⟩, ⟨a47_1, m47_1, c47_1⟩, ⟨a47_2, m47_2, c47_2⟩⟩ := k47
      refine d7 m0 fun e47_0 l47_0 => ?_
      subst e47_0
      refine d7 (mS m0) fun e47_1 l47_1 => ?_
      subst e47_1
      refine d7 (mS (mS m0)) fun e47_2 l47_2 => ?_
      subst e47_2
      refine Em rfl (Ey rfl ((Y.ext rfl rfl).yd) (Ey rfl ((Y.ext rfl rfl).yd) (Est rfl (N.alloc ty_Reached dc) (fun b10 _ => (Est rfl (Ns [_, _, _, _] ty_Reached rfl) (fun _ _ => (Ei rfl (Ev Z4 (Ey rfl (o6 (cs := [_, _, _, _]) ty_Reached rfl (Has.pt m0) rfl) (Em rfl (j9 (Est rfl (Ns [_, _, _, _] ty_Reached rfl) (fun _ _ => (Ei rfl (Eu (E.ret (j9 (j4 (congrArg (ow w5 [_]) (show _ = (C8 s l a8 (w7, d8, l3, r_Rounds)).2.2.1 by grind [C8, H7, O7, O0, d1, d2, t1, t2])) (j9 (j4 (congrArg (ow eIs [_]) (show _ = (C8 s l a8 (w7, d8, l3, r_Rounds)).2.1 by grind [C8, H7, O7, O0, d1, d2, t1, t2])) (j9 (j4 (congrArg (ow m8 [_]) (show _ = (C8 s l a8 (w7, d8, l3, r_Rounds)).1 by grind [C8, H7, O7, O0, d1, d2, t1, t2])) (j8 (j8 (j8 ?_)))))))))))))))))))))))))
      exact a1d br rfl rfl rfl (mS (mS (mS m0))) ty_Reached rfl ((_, _, _), (_, _, _), (_, _, _)) trivial (by rw [show ((C8 s l a8 (w7, d8, l3, r_Rounds)).2.2.2) = ((M7 l a8 (w7, d8, l3, r_Rounds)).2.2.2) from (by grind [C8, H7, O7, O0, d1, d2, t1, t2])]; rw [show (H7 s l a8 (w7, d8, l3, r_Rounds)) = (decide (0 < (c8 d8 l3 l 0).length)) from (by grind [C8, H7, O7, O0, d1, d2, t1, t2])]; try rfl) (J := _) (.refl _) (.inl rfl)
     ·refine Ey rfl ((Y.not (b := false) rfl).yd) (Ey rfl ((t7 rfl rfl).yd) (Eu (n8 rfl (Ew Z4 (Ey rfl (o6 (cs := [_, _, _, _]) ty_Reached rfl (Has.pt (mS m0)) rfl) (Est rfl (N.call (a0M fo fo fo fo fo) rfl rfl rfl dc rfl (fun w Lp hA => ⟨hA.ro J4, hA.ro E9, hA.ro S4, i6r_Rounds⟩)) (fun k42 _ => ?_)))))))
      obtain ⟨⟨a42_0, m42_0, c42_0⟩, ⟨a42_1, m42_1, c42_1⟩, ⟨a42_2, m42_2, c42_2⟩⟩ := k42
      refine d7 m0 fun e42_0 l42_0 => ?_
      subst e42_0
      refine d7 (mS m0) fun e42_1 l42_1 => ?_
      subst e42_1
      refine d7 (mS (mS m0)) fun e42_2 l42_2 => ?_
      subst e42_2
      refine o4 (Est rfl (Ns [_, _, _, _] ty_Reached rfl) (fun _ _ => (Ei rfl (Eu (E.ret (n0 (o4 (j4 (congrArg (ow w5 [_]) (show _ = (C8 s l a8 (w7, d8, l3, r_Rounds)).2.2.1 by grind [C8, H7, O7, O0, d1, d2, t1, t2])) (o4 (j4 (congrArg (ow eIs [_]) (show _ = (C8 s l a8 (w7, d8, l3, r_Rounds)).2.1 by grind [C8, H7, O7, O0, d1, d2, t1, t2])) (o4 (j4 (congrArg (ow m8 [_]) (show _ = (C8 s l a8 (w7, d8, l3, r_Rounds)).1 by grind [C8, H7, O7, O0, d1, d2, t1, t2])) (j8 (j8 (j8 ?_)))))))))))))))
      exact a1d br rfl rfl rfl (mS (mS (mS m0))) ty_Reached rfl ((_, _, _), (_, _, _), (_, _, _)) trivial (by rw [show ((C8 s l a8 (w7, d8, l3, r_Rounds)).2.2.2) = (r_Rounds) from (by grind [C8, H7, O7, O0, d1, d2, t1, t2])]; rw [show (H7 s l a8 (w7, d8, l3, r_Rounds)) = (false) from (by grind [C8, H7, O7, O0, d1, d2, t1, t2])]; try rfl) (J := _) (.refl _) (.inl rfl)
    ·refine Ey rfl ((Y.not (b := false) rfl).yd) (Ey rfl ((t7 rfl rfl).yd) (Em rfl (Es rfl (Es rfl (Es rfl (Es rfl (Ey rfl ((t8 rfl rfl).yd) (Eu (n8 rfl (Ew Z4 (Ey rfl (o6 (cs := [_, _, _, _]) ty_Reached rfl (Has.pt (mS m0)) rfl) (Est rfl (N.call (a0M fo fo fo fo fo) rfl rfl rfl dc rfl (fun w Lp hA => ⟨hA.ro J4, hA.ro E9, hA.ro S4, i6r_Rounds⟩)) (fun k42 _ => ?_)))))))))))))
     obtain ⟨⟨a42_0, m42_0, c42_0⟩, ⟨a42_1, m42_1, c42_1⟩, ⟨a42_2, m42_2, c42_2⟩⟩ := k42
     refine d7 m0 fun e42_0 l42_0 => ?_
     subst e42_0
     refine d7 (mS m0) fun e42_1 l42_1 => ?_
     subst e42_1
     refine d7 (mS (mS m0)) fun e42_2 l42_2 => ?_
     subst e42_2
     refine o4 (Est rfl (Ns [_, _, _, _] ty_Reached rfl) (fun _ _ => (Ei rfl (Eu (E.ret (n0 (o4 (j4 (congrArg (ow w5 [_]) (show _ = (C8 s l a8 (w7, d8, l3, r_Rounds)).2.2.1 by grind [C8, H7, O7, O0, d1, d2, t1, t2])) (o4 (j4 (congrArg (ow eIs [_]) (show _ = (C8 s l a8 (w7, d8, l3, r_Rounds)).2.1 by grind [C8, H7, O7, O0, d1, d2, t1, t2])) (o4 (j4 (congrArg (ow m8 [_]) (show _ = (C8 s l a8 (w7, d8, l3, r_Rounds)).1 by grind [C8, H7, O7, O0, d1, d2, t1, t2])) (j8 (j8 (j8 ?_)))))))))))))))
     exact a1d br rfl rfl rfl (mS (mS (mS m0))) ty_Reached rfl ((_, _, _), (_, _, _), (_, _, _)) trivial (by rw [show ((C8 s l a8 (w7, d8, l3, r_Rounds)).2.2.2) = (r_Rounds) from (by grind [C8, H7, O7, O0, d1, d2, t1, t2])]; rw [show (H7 s l a8 (w7, d8, l3, r_Rounds)) = (false) from (by grind [C8, H7, O7, O0, d1, d2, t1, t2])]; try rfl) (J := _) (.refl _) (.inl rfl)
   ·refine Ey rfl ((Y.not (b := false) rfl).yd) (Ey rfl ((t7 rfl rfl).yd) (Em rfl (Es rfl (Es rfl (Es rfl (Es rfl (Es rfl (Ey rfl ((t8 rfl rfl).yd) (Em rfl (Es rfl (Es rfl (Es rfl (Es rfl (Ey rfl ((t8 rfl rfl).yd) (Eu (n8 rfl (Ew Z4 (Ey rfl (o6 (cs := [_, _, _, _]) ty_Reached rfl (Has.pt (mS m0)) rfl) (Est rfl (N.call (a0M fo fo fo fo fo) rfl rfl rfl dc rfl (fun w Lp hA => ⟨hA.ro J4, hA.ro E9, hA.ro S4, i6r_Rounds⟩)) (fun k42 _ => ?_))))))))))))))))))))
    obtain ⟨⟨a42_0, m42_0, c42_0⟩, ⟨a42_1, m42_1, c42_1⟩, ⟨a42_2, m42_2, c42_2⟩⟩ := k42
    refine d7 m0 fun e42_0 l42_0 => ?_
    subst e42_0
    refine d7 (mS m0) fun e42_1 l42_1 => ?_
    subst e42_1
    refine d7 (mS (mS m0)) fun e42_2 l42_2 => ?_
    subst e42_2
    refine o4 (Est rfl (Ns [_, _, _, _] ty_Reached rfl) (fun _ _ => (Ei rfl (Eu (E.ret (n0 (o4 (j4 (congrArg (ow w5 [_]) (show _ = (C8 s l a8 (w7, d8, l3, r_Rounds)).2.2.1 by grind [C8, H7, O7, O0, d1, d2, t1, t2])) (o4 (j4 (congrArg (ow eIs [_]) (show _ = (C8 s l a8 (w7, d8, l3, r_Rounds)).2.1 by grind [C8, H7, O7, O0, d1, d2, t1, t2])) (o4 (j4 (congrArg (ow m8 [_]) (show _ = (C8 s l a8 (w7, d8, l3, r_Rounds)).1 by grind [C8, H7, O7, O0, d1, d2, t1, t2])) (j8 (j8 (j8 ?_)))))))))))))))
    exact a1d br rfl rfl rfl (mS (mS (mS m0))) ty_Reached rfl ((_, _, _), (_, _, _), (_, _, _)) trivial (by rw [show ((C8 s l a8 (w7, d8, l3, r_Rounds)).2.2.2) = (r_Rounds) from (by grind [C8, H7, O7, O0, d1, d2, t1, t2])]; rw [show (H7 s l a8 (w7, d8, l3, r_Rounds)) = (false) from (by grind [C8, H7, O7, O0, d1, d2, t1, t2])]; try rfl) (J := _) (.refl _) (.inl rfl)
  ·refine Ey rfl ((Y.not (b := false) rfl).yd) (Ey rfl ((t7 rfl rfl).yd) (Em rfl (Es rfl (Es rfl (Es rfl (Es rfl (Ey rfl ((t8 rfl rfl).yd) (Em rfl (Es rfl (Es rfl (Es rfl (Es rfl (Es rfl (Ey rfl ((t8 rfl rfl).yd) (Em rfl (Es rfl (Es rfl (Es rfl (Es rfl (Ey rfl ((t8 rfl rfl).yd) (Eu (n8 rfl (Ew Z4 (Ey rfl (o6 (cs := [_, _, _, _]) ty_Reached rfl (Has.pt (mS m0)) rfl) (Est rfl (N.call (a0M fo fo fo fo fo) rfl rfl rfl dc rfl (fun w Lp hA => ⟨hA.ro J4, hA.ro E9, hA.ro S4, i6r_Rounds⟩)) (fun k42 _ => ?_))))))))))))))))))))))))))
   obtain ⟨⟨a42_0, m42_0, c42_0⟩, ⟨a42_1, m42_1, c42_1⟩, ⟨a42_2, m42_2, c42_2⟩⟩ := k42
   refine d7 m0 fun e42_0 l42_0 => ?_
   subst e42_0
   refine d7 (mS m0) fun e42_1 l42_1 => ?_
   subst e42_1
   refine d7 (mS (mS m0)) fun e42_2 l42_2 => ?_
   subst e42_2
   refine o4 (Est rfl (Ns [_, _, _, _] ty_Reached rfl) (fun _ _ => (Ei rfl (Eu (E.ret (n0 (o4 (j4 (congrArg (ow w5 [_]) (show _ = (C8 s l a8 (w7, d8, l3, r_Rounds)).2.2.1 by grind [C8, H7, O7, O0, d1, d2, t1, t2])) (o4 (j4 (congrArg (ow eIs [_]) (show _ = (C8 s l a8 (w7, d8, l3, r_Rounds)).2.1 by grind [C8, H7, O7, O0, d1, d2, t1, t2])) (o4 (j4 (congrArg (ow m8 [_]) (show _ = (C8 s l a8 (w7, d8, l3, r_Rounds)).1 by grind [C8, H7, O7, O0, d1, d2, t1, t2])) (j8 (j8 (j8 ?_)))))))))))))))
   exact a1d br rfl rfl rfl (mS (mS (mS m0))) ty_Reached rfl ((_, _, _), (_, _, _), (_, _, _)) trivial (by rw [show ((C8 s l a8 (w7, d8, l3, r_Rounds)).2.2.2) = (r_Rounds) from (by grind [C8, H7, O7, O0, d1, d2, t1, t2])]; rw [show (H7 s l a8 (w7, d8, l3, r_Rounds)) = (false) from (by grind [C8, H7, O7, O0, d1, d2, t1, t2])]; try rfl) (J := _) (.refl _) (.inl rfl)
 ·refine Ey rfl ((Y.not (b := false) rfl).yd) (Em rfl (Es rfl (Es rfl (Es rfl (Es rfl (Ey rfl ((t8 rfl rfl).yd) (Em rfl (Es rfl (Es rfl (Es rfl (Es rfl (Ey rfl ((t8 rfl rfl).yd) (Em rfl (Es rfl (Es rfl (Es rfl (Es rfl (Es rfl (Ey rfl ((t8 rfl rfl).yd) (Em rfl (Es rfl (Es rfl (Es rfl (Es rfl (Ey rfl ((t8 rfl rfl).yd) (Eu (n8 rfl (Ew Z4 (Ey rfl (o6 (cs := [_, _, _, _]) ty_Reached rfl (Has.pt (mS m0)) rfl) (Est rfl (N.call (a0M fo fo fo fo fo) rfl rfl rfl dc rfl (fun w Lp hA => ⟨hA.ro J4, hA.ro E9, hA.ro S4, i6r_Rounds⟩)) (fun k42 _ => ?_)))))))))))))))))))))))))))))))
  obtain ⟨⟨a42_0, m42_0, c42_0⟩, ⟨a42_1, m42_1, c42_1⟩, ⟨a42_2, m42_2, c42_2⟩⟩ := k42
  refine d7 m0 fun e42_0 l42_0 => ?_
  subst e42_0
  refine d7 (mS m0) fun e42_1 l42_1 => ?_
  subst e42_1
  refine d7 (mS (mS m0)) fun e42_2 l42_2 => ?_
  subst e42_2
  refine o4 (Est rfl (Ns [_, _, _, _] ty_Reached rfl) (fun _ _ => (Ei rfl (Eu (E.ret (n0 (o4 (j4 (congrArg (ow w5 [_]) (show _ = (C8 s l a8 (w7, d8, l3, r_Rounds)).2.2.1 by grind [C8, H7, O7, O0, d1, d2, t1, t2])) (o4 (j4 (congrArg (ow eIs [_]) (show _ = (C8 s l a8 (w7, d8, l3, r_Rounds)).2.1 by grind [C8, H7, O7, O0, d1, d2, t1, t2])) (o4 (j4 (congrArg (ow m8 [_]) (show _ = (C8 s l a8 (w7, d8, l3, r_Rounds)).1 by grind [C8, H7, O7, O0, d1, d2, t1, t2])) (j8 (j8 (j8 ?_)))))))))))))))
  exact a1d br rfl rfl rfl (mS (mS (mS m0))) ty_Reached rfl ((_, _, _), (_, _, _), (_, _, _)) trivial (by rw [show ((C8 s l a8 (w7, d8, l3, r_Rounds)).2.2.2) = (r_Rounds) from (by grind [C8, H7, O7, O0, d1, d2, t1, t2])]; rw [show (H7 s l a8 (w7, d8, l3, r_Rounds)) = (false) from (by grind [C8, H7, O7, O0, d1, d2, t1, t2])]; try rfl) (J := _) (.refl _) (.inl rfl)
end Go.Proofs.YthapcdhdfaibkaaGreatDoor
