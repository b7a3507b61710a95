import Derived.Test.YtlfhopooaejpfaaGreatT37
import Derived.Test.YtlfhopooaejpfaaGreatT30
import Derived.Test.YtlfhopooaejpfaaGreatHq
section
namespace Go.Proofs.YtlfhopooaejpfaaGreat
open Go.RowKit
set_option linter.unusedVariables false
section
variable {n : Nat} {w0 : World} {L0 : List Nat} {fr : Fr} {H R : List HP} {G : Act → World → Prop} {α : Type} {E : Enc α} {e : TypeId} {a : Option Addr} {m c : Nat} {xs : List α}
theorem a7W {j : Nat} {ce : List Value} {x x' : α} {A : List HP} (hO : Own A E ce x') (hj : j = xs.length) (hH : H = hole e E a m c (xs ++ [x]) j ce :: (A ++ R)) (h : Ent n w0 L0 fr (ow (Enc.sl e E) [.slice a m c] (xs ++ [x']) :: R) G) : Ent n w0 L0 fr H G :=
  a6L hO hH (by subst hj; simpa using h)
end
section
variable {P : Program} {Q : Exit → Act → World → Prop} {n : Nat} {w0 : World} {L0 : List Nat} {fr : Fr} {H R pre : List HP} {d : Nat} {ty : TypeId} {pos : String} {af : Array Edge} {g : Option (Nat × Bool)}
theorem b0O {α : Type} {E : Enc α} {T e e2 : TypeId} {agg : Bool} {k m c : Nat} {z : List Value} {by' : Nat} {x y : Operand} {ad a2 : Option Addr} {c2 : Nat} {xs : List α} {ce : List Value} {ex : α} (hT : P.underlying T = some (.slice e)) (ht : TyOk P e agg k z by') (hk : k = E.k)
    (hx : ev fr x = some (.slice ad m c)) (hy : ev fr y = some (.slice a2 1 c2)) (hl : ce.length = E.k) (h1 : ce.all (·.oneCell') = true) (hH : H = ow (Enc.sl e E) [.slice ad m c] xs :: row e2 k a2 1 c2 ce :: R) (h63 : m + 1 ≤ 9223372036854775807) (hbytes : (m + 1) * by' ≤ 140737488355328) (hd : d < n) :
    Nop P Q n w0 L0 fr H ⟨some d, .call ⟨.builtin .append, #[x, y], #[T, T]⟩, ty, pos, af, g⟩ false (κ := Option Addr × Nat) (fun p => (d, .slice p.1 (m + 1) p.2) :: fr) (fun p => hole e E p.1 (m + 1) p.2 (xs ++ [ex]) m ce :: R) (fun _ => True) := fun K hK a w ha hw => by
  subst hk; subst hH
  have hw' := hw
  obtain ⟨L, ⟨Lo, Lq, rfl, ho, Ls, LR, rfl, hs, hR⟩, hn, hst⟩ := hw'
  obtain ⟨ccs, L1, L2, rfl, g1, g2, g3, g4⟩ := a1Q ho
  have hsrc : (1 = 0 ∧ ce = []) ∨ ∃ b o, a2 = some ⟨b, o, none⟩ ∧ K5 w b o ce := by
    obtain ⟨L', h0, h1⟩ := hw.mem (mS m0)
    rcases h1 with ⟨_, h2, _⟩ | ⟨g', cur, h2, h3, h4, h5, h6, h7, _⟩
    · cases h2
    · exact .inr ⟨g', 0, h2, Has.row h2 (mS m0) w hw⟩
  obtain ⟨a', c', w', L1', r1, r2, r3, r4, -⟩ := a2m (P := P) (ty := ty) (c2 := c2) hT ht E.pos g4 hsrc (by rw [hl, Nat.one_mul]) (a9p h1) h63 hbytes
  have hnn : ((L1 ++ L2) ++ LR).Nodup := by
    simp only [List.nodup_append] at hn ⊢
    exact ⟨hn.1, hn.2.1.2.1, fun a ha b hb e => hn.2.2 a ha b (by simp [hb]) e⟩
  have hst' : Step w0 L0 w ((L1 ++ L2) ++ LR) := hst.sublist fun b hb => by
    simp only [List.mem_append] at hb ⊢
    rcases hb with (hb | hb) | hb
    · exact .inl (.inl hb)
    · exact .inl (.inr hb)
    · exact .inr (.inr hb)
  have hlt : ∀ b ∈ L2, b < w.heap.size := g3.inh
  obtain ⟨d1, d2, d3⟩ := (Step.refl w (L1 ++ L2)).call (List.nodup_append.1 hnn).1 hlt r4 r3
  have hhole : (hole e E a' (m + 1) c' (xs ++ [ex]) m ce).holds w' (L1' ++ L2) := by
    refine ⟨ccs, [], L1', L2, [], by simp, by simp [g1], h63, by simp [g1], hl, a9p h1, ?_, ?_, by simpa using r2⟩
    · rw [g1, List.take_left]; exact g3.stable d3
    · rw [g1, List.drop_eq_nil_of_le (by simp)]; exact ⟨rfl, rfl⟩
  obtain ⟨k1, k2, k3⟩ := hst'.call hnn hR.inh d1 d2
  have hrun : (execOp a.eval ⟨some d, .call ⟨.builtin .append, #[x, y], #[T, T]⟩, ty, pos, af, g⟩).run P w = .ok (.value (.slice a' (m + 1) c')) w' := by
    simp only [execOp, resolve, ha.ev hx, ha.ev hy, List.map_toArray, List.map_cons, List.map_nil, Sem.run_bind, Sem.run_pure, Result.andThen_ok, invoke, builtin, r1]
  rw [Oper.wp, hrun]
  exact hK (a', c') trivial w _ _ (ha.put hd _) ⟨_, ⟨_, LR, rfl, hhole, hR.stable k3⟩, k2, k1⟩ (by simp)
theorem Y.nil {x : Operand} {ad : Addr} (hx : ev fr x = some (.pointer (some ad))) : Yp P n fr (.nilCheck x) (.pointer (some ad)) := fun a h w' d t p af g => by
  simp [execOp, h.ev hx]
end
theorem c3h {n : Nat} {w0 : World} {L0 : List Nat} {fr : Fr} {G : Act → World → Prop} {H : List HP} {X A0 A1 A2 A3 A4 A5 A6 A7 A8 A9 A10 A11 A12 A13 A14 A15 A16 A17 A18 A19 A20 A21 A22 A23 A24 : HP} (x : Ent n w0 L0 fr (X :: A0 :: A1 :: A2 :: A3 :: A4 :: A5 :: A6 :: A7 :: A8 :: A9 :: A10 :: A11 :: A12 :: A13 :: A14 :: A15 :: A16 :: A17 :: A18 :: A19 :: A20 :: A21 :: A22 :: A23 :: A24 :: H) G) : Ent n w0 L0 fr (A0 :: A1 :: A2 :: A3 :: A4 :: A5 :: A6 :: A7 :: A8 :: A9 :: A10 :: A11 :: A12 :: A13 :: A14 :: A15 :: A16 :: A17 :: A18 :: A19 :: A20 :: A21 :: A22 :: A23 :: A24 :: X :: H) G := Ent.perm (List.perm_middle (a := X) (l₁ := [A0, A1, A2, A3, A4, A5, A6, A7, A8, A9, A10, A11, A12, A13, A14, A15, A16, A17, A18, A19, A20, A21, A22, A23, A24]) (l₂ := H)) x
end Go.Proofs.YtlfhopooaejpfaaGreat
end
section
namespace Go.Proofs.YtlfhopooaejpfaaGreat
open Go.RowKit
set_option linter.all false
set_option maxHeartbeats 2000000
attribute [local irreducible] Nop Yd Yp Ent Has Tr FnP FnP2 Src o6 d7 O0 a0h H2
theorem a8q {B9 : Int} {E8 : Option Addr} {G2 E7 : Nat} {E5 : List Int} (hya : E5.length ≤ 1048576) : Tr Tryz.prog 213 [.agg #[.int .i64 B9, .slice E8 G2 E7]] (fun w L => I64 B9 ∧ Ro w L eIs [.slice E8 G2 E7] E5) [] (κ := Option Addr × Nat × Nat) (fun k => True) (fun k => .agg #[.int .i64 B9, .slice k.1 k.2.1 k.2.2]) (fun k => [ow eIs [.slice k.1 k.2.1 k.2.2] E5]) := by
 refine Tr.intro Tryz.func213 rfl (n := 9) rfl (by decide +kernel) bl (fr := [(0, .agg #[.int .i64 B9, .slice E8 G2 E7])]) rfl fun w L hR => ?_
 obtain ⟨W9, I6⟩ := hR
 obtain ⟨rfl, a0U⟩ := I6.slen
 refine Ew Z2 (Est rfl (N.box (cs := [_, _]) rfl dc rfl) (fun b1 _ => (Est rfl (N.alloc ty_Access dc) (fun b2 _ => (Eu (Eq_ (D.region (fun j => !(Nat.beq j 6)) mixed (Dyp 0 rfl (i8 fo_Access_0 f5 dc rfl) (Dy 1 rfl (g9 f5 rfl (Hz (mS m0) 0 rfl) rfl) (Dyp 2 rfl (i8 fo_Access_1 ty_Is dc rfl) (Dy 3 rfl (g9 ty_Is rfl (Hz (mS m0) 1 rfl) rfl) (u7 4 rfl rfl kr (fun _ => rfl) (N.call (a2l fc) rfl rfl rfl dc rfl (fun w Lp hA => hA.ro I6)) (fun k7 _ => ?_)))))))))))))
 obtain ⟨a7, m7, c7⟩ := k7
 refine d6 m0 fun e7 l7 => ?_
 subst e7
 refine Dyp 5 rfl (I3 (pvs := [_, _]) (cs := [_, _]) ty_Access a7R rfl rfl) (d8 (u7 6 rfl rfl kr (fun h => by cases h) (Ns [_, _] ty_Access rfl) (fun _ _ => (t6 kr (Et (E.ret (d8 ?_)))))))
 exact O7 br rfl rfl (mS m0) ty_Access rfl (_, _, _) trivial rfl (J := _) (.refl _) (.inl rfl)
end Go.Proofs.YtlfhopooaejpfaaGreat
end
section
namespace Go.Proofs.YtlfhopooaejpfaaGreat
open Go.RowKit
set_option linter.all false
set_option maxHeartbeats 2000000
attribute [local irreducible] Nop Yd Yp Ent Has Tr FnP FnP2 Src o6 d7 O0 a0h H2
variable {n : Int} {b_c m_b c_b : Nat} {a_b : Option Addr}
theorem a7I {a_code : Option Addr} {m_code c_code : Nat} {code : List UInt8} (hcl : code.length ≤ 1048576) : Tr Tryz.prog 37 [.slice a_code m_code c_code] (fun w L => Ro w L a0W [.slice a_code m_code c_code] code) [] (κ := Nat) (fun k => True) (fun k => .pointer (some ⟨k, 0, none⟩)) (fun k => [cur k a_code m_code c_code]) := by
 refine Tr.intro Tryz.func37 rfl (n := 32) rfl (by decide +kernel) bl (fr := [(0, .slice a_code m_code c_code)]) rfl fun w L hR => ?_
 have hcode := hR
 obtain ⟨rfl, lcode⟩ := hcode.slen
 refine Ew Z1 (Ei rfl (Ev Z4 (Em rfl (Ey rfl ((Y.len us_U8s rfl).yd) (Ey rfl ((Y.add rfl rfl om om).yd) (Ei rfl (Eu (Eq_ (Ew Z1 (Ei rfl (Eu (E.block (E.loop (κ := Nat × Int) (fun g => g.1 ≤ code.length ∧ 0 ≤ g.2 ∧ g.2 ≤ 2000000000) (fun g => [(0, .slice a_code code.length c_code), (3, .int .i64 g.2), (4, .int .i64 (↑g.1 : Int))]) (fun g => []) (fun g => code.length - g.1) (0, (10101 + (↑code.length : Int))) ⟨Nat.zero_le _, by omega⟩ ⟨rfl, rfl, rfl, trivial⟩ (.refl _) (fun g pg => ?_))))))))))))))
 obtain ⟨g, hh⟩ := g
 try dsimp only at pg
 try dsimp only
 obtain ⟨pk, pa⟩ := pg
 refine Eq_ (Ew Z8 (Em rfl (Em rfl (Ey rfl ((Y.len us_U8s rfl).yd) (Ey rfl ((Y.lss rfl rfl).yd) (n9 (fun q11 => ?_) (fun q11 => ?_)))))))
 ·refine Em rfl (Em rfl (Ey rfl ((Y.lss rfl rfl).yd) (n9 (fun q14 => ?_) (fun q14 => ?_))))
  ·refine Ey rfl ((x6 rfl rfl).yd) (Eu (o0 rfl (f9 (Et (Eq_ (E.block (Ez Z11 (Em rfl (Ey rfl ((a9Z rfl rfl om).yd) (Em rfl (Em rfl ?_)))))))))))
   obtain ⟨eb22, eo22, ea22, eh22⟩ := hcode.elemU g om
   have u822 : 0 ≤ (↑code[g].toNat : Int) ∧ (↑code[g].toNat : Int) ≤ 255 := ub8
   refine Ey rfl ((w3 us_U8s b2b rfl ea22 rfl g rfl om).yd) (Ey rfl (g9 b2b rfl (eh22 _) rfl) (Ey rfl ((b8A b8r c0a rfl om).yd) (Ey rfl ((Y.add rfl rfl om om).yd) (Ey rfl ((Y.add rfl rfl om om).yd) (Ey rfl ((Y.and rfl rfl).yd) (Ei rfl (En (s8 (Et (Ez Z3 (Em rfl (Ey rfl ((Y.add rfl rfl om om).yd) (Ei rfl ?_)))))))))))))
   exact Eu (B0 br (g + 1, (X8 (((hh * 131) + (↑code[g].toNat : Int)) + 7) 1073741823)) rs (.refl _) ⟨oz, (show 0 ≤ (X8 (((hh * 131) + (↑code[g].toNat : Int)) + 7) 1073741823) ∧ (X8 (((hh * 131) + (↑code[g].toNat : Int)) + 7) 1073741823) ≤ 2000000000 from by exact ⟨b8u.1, by have := (b8u (a := hh * 131 + (↑code[g].toNat : Int) + 7)).2; omega⟩)⟩ oz)
  ·refine Ey rfl ((x6 rfl rfl).yd) (Eu (n8 rfl (E.exit (l3 (l3 (y4 (Et (Ew Z5 (Em rfl (Em rfl (Ey rfl ((I3 (pvs := [_, _]) (cs := [_, _, _]) ty_l1Cur pl_l1Cur rfl rfl).yd) (Est rfl (N.box (cs := [_, _, _]) rfl dc rfl) (fun b31 _ => (Ei rfl (Eu (E.ret (Ent.curC om (by unfold I64; omega) ?_)))))))))))))))))
   exact Fg rfl rfl b31 rfl rfl
 ·refine Em rfl (Es rfl (Es rfl (Ey rfl ((z7 rfl rfl).yd) (Eu (n8 rfl (E.exit (l3 (l3 (y4 (Et (Ew Z5 (Em rfl (Em rfl (Ey rfl ((I3 (pvs := [_, _]) (cs := [_, _, _]) ty_l1Cur pl_l1Cur rfl rfl).yd) (Est rfl (N.box (cs := [_, _, _]) rfl dc rfl) (fun b31 _ => (Ei rfl (Eu (E.ret (Ent.curC om (by unfold I64; omega) ?_))))))))))))))))))))
  exact Fg rfl rfl b31 rfl rfl
theorem a1D {bs : List UInt8} : Tr Tryz.prog 114 [.pointer (some ⟨b_c, 0, none⟩)] (fun w L => Ro w L a0W [.slice a_b m_b c_b] bs) [cur b_c a_b m_b c_b] (κ := Int) (fun k => 0 ≤ k ∧ k ≤ 255) (fun k => .int .i64 k) (fun k => [cur b_c a_b m_b c_b]) := by
 refine Tr.intro Tryz.func114 rfl (n := 58) rfl (by decide +kernel) bl (fr := [(0, .pointer (some ⟨b_c, 0, none⟩))]) rfl fun w L hR => ?_
 have hbs := hR
 obtain ⟨rfl, lb⟩ := hbs.slen
 refine Ent.curO fun ci ch hci hch => (Ew Z1 (Ei rfl (Ev Z10 (Em rfl (Em rfl (Ey rfl ((Y.nil rfl).yd) (Ey rfl ((i8 fo_l1Cur_2 f5 dc rfl).yd) (Ey rfl (g9 f5 rfl (Hz m0 2 rfl) rfl) (Ey rfl ((b7d rfl rfl).yd) (Ey rfl ((c0D rfl rfl).yd) (Ey rfl ((Y.nil rfl).yd) (Ey rfl ((i8 fo_l1Cur_2 f5 dc rfl).yd) (Est rfl (Ns [_, _, _] f5 rfl) (fun _ _ => (Eu (Eq_ (D.region (fun j => true) mixed (Dyp 0 rfl (k6 rfl) (Dyp 1 rfl (Y.nil rfl) (Dyp 2 rfl (i8 fo_l1Cur_2 f5 dc rfl) ?_))))))))))))))))))))
 refine Dy 3 rfl (g9 f5 rfl (Hz m0 2 rfl) rfl) (Dyp 4 rfl (b6W rfl rfl om om) (Dyp 5 rfl (k6 rfl) (Dyp 6 rfl (Y.nil rfl) (Dyp 7 rfl (i8 fo_l1Cur_2 f5 dc rfl) (Dy 8 rfl (g9 f5 rfl (Hz m0 2 rfl) rfl) (Dyp 9 rfl (b6W rfl rfl om om) (Dyp 10 rfl (Y.xor rfl rfl) (Dyp 11 rfl (Y.and rfl rfl) (Dyp 12 rfl (F1 rfl) (t6 kr (Et (Eq_ (Eq_ (D.region (fun j => true) mixed (Dyp 0 rfl (k6 rfl) (Dyp 1 rfl (Y.nil rfl) (Dyp 2 rfl (i8 fo_l1Cur_1 f5 dc rfl) (Dy 3 rfl (g9 f5 rfl (Hz m0 1 rfl) rfl) (Dyp 4 rfl (k6 rfl) ?_)))))))))))))))))))
 refine Dyp 5 rfl (Y.nil rfl) (Dyp 6 rfl (i8 fo_l1Cur_0 ty_U8s dc rfl) (Dy 7 rfl (g9 ty_U8s rfl (Hz m0 0 rfl) rfl) (Dyp 8 rfl (Y.len us_U8s rfl) (Dyp 9 rfl (Y.lss rfl rfl) (n9 (fun q34 => ?_) (fun q34 => ?_))))))
 ·refine t6 kr (Et (o0 rfl (Eq_ (D.region (fun j => true) mixed (Dyp 0 rfl (k6 rfl) (Dyp 1 rfl (k6 rfl) (Dyp 2 rfl (Y.nil rfl) (Dyp 3 rfl (i8 fo_l1Cur_0 ty_U8s dc rfl) (Dy 4 rfl (g9 ty_U8s rfl (Hz m0 0 rfl) rfl) (Dyp 5 rfl (k6 rfl) (Dyp 6 rfl (Y.nil rfl) (Dyp 7 rfl (i8 fo_l1Cur_1 f5 dc rfl) (Dy 8 rfl (g9 f5 rfl (Hz m0 1 rfl) rfl) ?_)))))))))))))
  obtain ⟨eb44, eo44, ea44, eh44⟩ := hbs.elemU ci.toNat om
  have u844 : 0 ≤ (↑bs[ci.toNat].toNat : Int) ∧ (↑bs[ci.toNat].toNat : Int) ≤ 255 := ub8
  refine Dyp 9 rfl (w3 us_U8s b2b rfl ea44 rfl ci.toNat om om) (Dy 10 rfl (g9 b2b rfl (eh44 _) rfl) (Dyp 11 rfl (b8A b8r c0a rfl om) ?_))
  have ja : 0 ≤ (X8 (a5G ((IntKind.i64.wrap ((IntKind.i64.wrap (ch * 6364136223846793005)) + 1442695040888963407)) / 2 ^ (33 : Int).toNat) ((IntKind.i64.wrap ((IntKind.i64.wrap (ch * 6364136223846793005)) + 1442695040888963407)) / 2 ^ (45 : Int).toNat)) 255) ∧ (X8 (a5G ((IntKind.i64.wrap ((IntKind.i64.wrap (ch * 6364136223846793005)) + 1442695040888963407)) / 2 ^ (33 : Int).toNat) ((IntKind.i64.wrap ((IntKind.i64.wrap (ch * 6364136223846793005)) + 1442695040888963407)) / 2 ^ (45 : Int).toNat)) 255) ≤ 255 := b2Z
  refine Dyp 12 rfl (Y.add rfl rfl om om) (Dyp 13 rfl (Y.and rfl rfl) (Dyp 14 rfl (F1 rfl) (t6 kr (Et (Ez Z9 (Em rfl (Em rfl (Ey rfl ((Y.nil rfl).yd) (Ey rfl ((i8 fo_l1Cur_1 f5 dc rfl).yd) (Ey rfl (g9 f5 rfl (Hz m0 1 rfl) rfl) (Ey rfl ((Y.add rfl rfl om om).yd) (Ey rfl ((Y.nil rfl).yd) (Ey rfl ((i8 fo_l1Cur_1 f5 dc rfl).yd) (Est rfl (Ns [_, _, _] f5 rfl) (fun _ _ => (Ev Z2 (Em rfl (Ei rfl (Eu (E.ret (Ent.curC om (by first | exact b2O _ | assumption) ?_)))))))))))))))))))))
  exact F.r1 br rfl rfl (X8 ((X8 (a5G ((IntKind.i64.wrap ((IntKind.i64.wrap (ch * 6364136223846793005)) + 1442695040888963407)) / 2 ^ (33 : Int).toNat) ((IntKind.i64.wrap ((IntKind.i64.wrap (ch * 6364136223846793005)) + 1442695040888963407)) / 2 ^ (45 : Int).toNat)) 255) + (↑bs[ci.toNat].toNat : Int)) 255) (show 0 ≤ (X8 ((X8 (a5G ((IntKind.i64.wrap ((IntKind.i64.wrap (ch * 6364136223846793005)) + 1442695040888963407)) / 2 ^ (33 : Int).toNat) ((IntKind.i64.wrap ((IntKind.i64.wrap (ch * 6364136223846793005)) + 1442695040888963407)) / 2 ^ (45 : Int).toNat)) 255) + (↑bs[ci.toNat].toNat : Int)) 255) ∧ (X8 ((X8 (a5G ((IntKind.i64.wrap ((IntKind.i64.wrap (ch * 6364136223846793005)) + 1442695040888963407)) / 2 ^ (33 : Int).toNat) ((IntKind.i64.wrap ((IntKind.i64.wrap (ch * 6364136223846793005)) + 1442695040888963407)) / 2 ^ (45 : Int).toNat)) 255) + (↑bs[ci.toNat].toNat : Int)) 255) ≤ 255 from by exact b2Z) rfl (J := _) (.refl _) (.inl rfl)
 ·refine t6 kr (Et (n8 rfl (f9 (Et (Ew Z2 (Em rfl (Ei rfl (Eu (E.ret (Ent.curC om (by first | exact b2O _ | assumption) ?_))))))))))
  exact F.r1 br rfl rfl (X8 (a5G ((IntKind.i64.wrap ((IntKind.i64.wrap (ch * 6364136223846793005)) + 1442695040888963407)) / 2 ^ (33 : Int).toNat) ((IntKind.i64.wrap ((IntKind.i64.wrap (ch * 6364136223846793005)) + 1442695040888963407)) / 2 ^ (45 : Int).toNat)) 255) (show 0 ≤ (X8 (a5G ((IntKind.i64.wrap ((IntKind.i64.wrap (ch * 6364136223846793005)) + 1442695040888963407)) / 2 ^ (33 : Int).toNat) ((IntKind.i64.wrap ((IntKind.i64.wrap (ch * 6364136223846793005)) + 1442695040888963407)) / 2 ^ (45 : Int).toNat)) 255) ∧ (X8 (a5G ((IntKind.i64.wrap ((IntKind.i64.wrap (ch * 6364136223846793005)) + 1442695040888963407)) / 2 ^ (33 : Int).toNat) ((IntKind.i64.wrap ((IntKind.i64.wrap (ch * 6364136223846793005)) + 1442695040888963407)) / 2 ^ (45 : Int).toNat)) 255) ≤ 255 from by exact b2Z) rfl (J := _) (.refl _) (.inl rfl)
theorem C3 {bs : List UInt8} : Tr Tryz.prog 43 [.pointer (some ⟨b_c, 0, none⟩), .int .i64 n] (fun w L => Ro w L a0W [.slice a_b m_b c_b] bs) [cur b_c a_b m_b c_b] (κ := Int) (fun k => 0 ≤ k ∧ (n ≤ 0 → k = 0) ∧ (0 < n → k < n)) (fun k => .int .i64 k) (fun k => [cur b_c a_b m_b c_b]) := by
 refine Tr.intro Tryz.func43 rfl (n := 37) rfl (by decide +kernel) bl (fr := [(0, .pointer (some ⟨b_c, 0, none⟩)), (1, .int .i64 n)]) rfl fun w L hR => ?_
 have hbs := hR
 obtain ⟨rfl, lb⟩ := hbs.slen
 refine Ew Z1 (Ei rfl (Eu (Eq_ (Ew Z2 (Em rfl (Ey rfl ((Y.leq rfl rfl).yd) (n9 (fun q10 => ?_) (fun q10 => ?_))))))))
 ·refine Eu (o0 rfl (Ew Z1 (Ei rfl ?_)))
  exact Eu (E.ret (s9 (F.r1 br rfl rfl 0 (show 0 ≤ (0 : Int) ∧ (n ≤ 0 → (0 : Int) = 0) ∧ (0 < n → (0 : Int) < n) from by first | omega | exact b0J om) rfl (J := _) (.refl _) (.inl rfl))))
 ·refine Eu (n8 rfl (f9 (Et (Eq_ (Ew Z2 (Em rfl (Ey rfl ((Y.leq rfl rfl).yd) (n9 (fun q12 => ?_) (fun q12 => ?_)))))))))
  ·refine Eu (o0 rfl (Ew Z5 (Em rfl (Est rfl (N.call (pre := [_]) a1D rfl rfl rfl dc rfl (fun w Lp hA => hA.ro hbs)) (fun x14 o14 => ?_)))))
   replace o14 : 0 ≤ x14 ∧ x14 ≤ 255 := o14
   try (conv => arg 5; dsimp only [List.cons_append, List.nil_append, List.append_nil])
   refine Em rfl (Ey rfl ((b7b rfl rfl om om).yd) (Ei rfl ?_))
   exact Eu (E.ret (s9 (F.r1 br rfl rfl (x14 % n) (show 0 ≤ (x14 % n) ∧ (n ≤ 0 → (x14 % n) = 0) ∧ (0 < n → (x14 % n) < n) from by first | omega | exact b0J om) rfl (J := _) (.refl _) (.inl rfl))))
  ·refine Eu (n8 rfl (f9 (Et (Ew Z3 (Em rfl (Est rfl (N.call (pre := [_]) a1D rfl rfl rfl dc rfl (fun w Lp hA => hA.ro hbs)) (fun x18 o18 => ?_)))))))
   replace o18 : 0 ≤ x18 ∧ x18 ≤ 255 := o18
   try (conv => arg 5; dsimp only [List.cons_append, List.nil_append, List.append_nil])
   refine Ei rfl (Ev Z3 (Em rfl (Est rfl (N.call (pre := [_]) a1D rfl rfl rfl dc rfl (fun w Lp hA => hA.ro hbs)) (fun x20 o20 => ?_))))
   replace o20 : 0 ≤ x20 ∧ x20 ≤ 255 := o20
   try (conv => arg 5; dsimp only [List.cons_append, List.nil_append, List.append_nil])
   refine Ei rfl (Ev Z3 (Em rfl (Est rfl (N.call (pre := [_]) a1D rfl rfl rfl dc rfl (fun w Lp hA => hA.ro hbs)) (fun x22 o22 => ?_))))
   replace o22 : 0 ≤ x22 ∧ x22 ≤ 255 := o22
   try (conv => arg 5; dsimp only [List.cons_append, List.nil_append, List.append_nil])
   refine Ei rfl (Ev Z3 (Em rfl (Est rfl (N.call (pre := [_]) a1D rfl rfl rfl dc rfl (fun w Lp hA => hA.ro hbs)) (fun x24 o24 => ?_))))
   replace o24 : 0 ≤ x24 ∧ x24 ≤ 255 := o24
   try (conv => arg 5; dsimp only [List.cons_append, List.nil_append, List.append_nil])
   refine Ei rfl (Ev Z13 (Em rfl (Ey rfl ((a9Z rfl rfl om).yd) (Em rfl (Ey rfl ((a9Z rfl rfl om).yd) (Ey rfl ((Y.add rfl rfl om om).yd) (Em rfl (Ey rfl ((a9Z rfl rfl om).yd) (Ey rfl ((Y.add rfl rfl om om).yd) (Em rfl (Ey rfl ((Y.add rfl rfl om om).yd) (Em rfl (Ey rfl ((b7b rfl rfl om om).yd) (Ei rfl ?_))))))))))))))
   exact Eu (E.ret (F.r1 br rfl rfl (((((x18 * 16777216) + (x20 * 65536)) + (x22 * 256)) + x24) % n) (show 0 ≤ (((((x18 * 16777216) + (x20 * 65536)) + (x22 * 256)) + x24) % n) ∧ (n ≤ 0 → (((((x18 * 16777216) + (x20 * 65536)) + (x22 * 256)) + x24) % n) = 0) ∧ (0 < n → (((((x18 * 16777216) + (x20 * 65536)) + (x22 * 256)) + x24) % n) < n) from by first | omega | exact b0J om) rfl (J := _) (.refl _) (.inl rfl)))
theorem X6 {bs : List UInt8} : Tr Tryz.prog 40 [.pointer (some ⟨b_c, 0, none⟩), .int .i64 n] (fun w L => Ro w L a0W [.slice a_b m_b c_b] bs) [cur b_c a_b m_b c_b] (κ := Bool) (fun k => True) (fun k => .bool k) (fun k => [cur b_c a_b m_b c_b]) := by
 refine Tr.intro Tryz.func40 rfl (n := 9) rfl (by decide +kernel) bl (fr := [(0, .pointer (some ⟨b_c, 0, none⟩)), (1, .int .i64 n)]) rfl fun w L hR => ?_
 have hbs := hR
 obtain ⟨rfl, lb⟩ := hbs.slen
 refine Ew Z1 (Ei rfl (Ev Z5 (Em rfl (Em rfl (Est rfl (N.call (pre := [_]) C3 rfl rfl rfl dc rfl (fun w Lp hA => hA.ro hbs)) (fun x7 o7 => ?_))))))
 replace o7 : 0 ≤ x7 ∧ (n ≤ 0 → x7 = 0) ∧ (0 < n → x7 < n) := o7
 try (conv => arg 5; dsimp only [List.cons_append, List.nil_append, List.append_nil])
 refine Ey rfl ((Y.eql rfl rfl).yd) (Ei rfl ?_)
 exact Eu (E.ret (F.r1 br rfl rfl (decide (x7 = 0)) (show True from by trivial) rfl (J := _) (.refl _) (.inl rfl)))
theorem K7 {a_list : Option Addr} {m_list c_list : Nat} {list : List Int} {bs : List UInt8} (hl : 0 < list.length) : Tr Tryz.prog 171 [.pointer (some ⟨b_c, 0, none⟩), .slice a_list m_list c_list] (fun w L => Ro w L eIs [.slice a_list m_list c_list] list ∧ Ro w L a0W [.slice a_b m_b c_b] bs) [cur b_c a_b m_b c_b] (κ := Int) (fun k => k ∈ list) (fun k => .int .i64 k) (fun k => [cur b_c a_b m_b c_b]) := by
 refine Tr.intro Tryz.func171 rfl (n := 12) rfl (by decide +kernel) bl (fr := [(0, .pointer (some ⟨b_c, 0, none⟩)), (1, .slice a_list m_list c_list)]) rfl fun w L hR => ?_
 obtain ⟨hlist, hbs⟩ := hR
 obtain ⟨rfl, llist⟩ := hlist.slen
 obtain ⟨rfl, lb⟩ := hbs.slen
 refine Ew Z1 (Ei rfl (Ev Z8 (Em rfl (Em rfl (Em rfl (Ey rfl ((Y.len us_Is rfl).yd) (Est rfl (N.call (pre := [_]) C3 rfl rfl rfl dc rfl (fun w Lp hA => hA.ro hbs)) (fun x9 o9 => ?_))))))))
 replace o9 : 0 ≤ x9 ∧ ((↑list.length : Int) ≤ 0 → x9 = 0) ∧ (0 < (↑list.length : Int) → x9 < (↑list.length : Int)) := o9
 try (conv => arg 5; dsimp only [List.cons_append, List.nil_append, List.append_nil])
 obtain ⟨eb10, eo10, ea10, ei10, eh10⟩ := hlist.elemI x9.toNat om
 refine Ey rfl ((w3 us_Is f5 rfl ea10 rfl x9.toNat om om).yd) (Ey rfl (g9 f5 rfl (eh10 _) rfl) (Ei rfl ?_))
 exact Eu (E.ret (F.r1 br rfl rfl list[x9.toNat] (show list[x9.toNat] ∈ list from by exact List.getElem_mem _) rfl (J := _) (.refl _) (.inl rfl)))
theorem a5u {bs : List UInt8} : Tr Tryz.prog 103 [.pointer (some ⟨b_c, 0, none⟩)] (fun w L => Ro w L a0W [.slice a_b m_b c_b] bs) [cur b_c a_b m_b c_b] (κ := (List Int) × Option Addr × Nat × Nat) (fun k => 1 ≤ k.1.length ∧ k.1.length ≤ 3 ∧ ∀ z ∈ k.1, 1 ≤ z ∧ z ≤ 3) (fun k => .slice k.2.1 k.2.2.1 k.2.2.2) (fun k => [ow eIs [.slice k.2.1 k.2.2.1 k.2.2.2] k.1, cur b_c a_b m_b c_b]) := by
 refine Tr.intro Tryz.func103 rfl (n := 24) rfl (by decide +kernel) bl (fr := [(0, .pointer (some ⟨b_c, 0, none⟩))]) rfl fun w L hR => ?_
 have hbs := hR
 obtain ⟨rfl, lb⟩ := hbs.slen
 refine Ew Z1 (Ei rfl (Ev Z2 (Est rfl (Nb [] [] us_Is f5 rfl rfl) (fun b6 _ => (Ent.drop (Ei rfl (Eu (Eq_ (Ew Z4 (Em rfl (Est rfl (N.call (pre := [_]) C3 rfl rfl rfl dc rfl (fun w Lp hA => hA.ro hbs)) (fun x8 o8 => ?_))))))))))))
 replace o8 : 0 ≤ x8 ∧ ((3 : Int) ≤ 0 → x8 = 0) ∧ (0 < (3 : Int) → x8 < (3 : Int)) := o8
 try (conv => arg 5; dsimp only [List.cons_append, List.nil_append, List.append_nil])
 refine Ey rfl ((Y.add rfl rfl om om).yd) (Ei rfl (Eu (E.block (s7 (A := []) (Own.nil (E := Enc.int) (e := tI) (a := (some ⟨b6, 0, none⟩))) rfl (E.loop (κ := Nat × (List Int) × Option Addr × Nat × Nat) (fun g => g.1 ≤ (1 + x8).toNat ∧ g.2.1.length = g.1 ∧ ∀ z ∈ g.2.1, 1 ≤ z ∧ z ≤ 3) (fun g => [(0, .pointer (some ⟨b_c, 0, none⟩)), (3, .slice g.2.2.1 g.2.2.2.1 g.2.2.2.2), (4, .int .i64 (1 + x8 - (↑g.1 : Int)))]) (fun g => [ow eIs [.slice g.2.2.1 g.2.2.2.1 g.2.2.2.2] g.2.1, cur b_c a_b bs.length c_b]) (fun g => (1 + x8).toNat - g.1) (0, [], (some ⟨b6, 0, none⟩), 0, 0) ⟨Nat.zero_le _, by simp⟩ ⟨rfl, rfl, frI om, trivial⟩ (.refl _) (fun g pg => ?_))))))
 obtain ⟨g, ys, aA0_0, mA0_0, cA0_0⟩ := g
 try dsimp only at pg
 try dsimp only
 obtain ⟨pk, pa⟩ := pg
 refine d6 m0 fun eaA0_0 laA0_0 => ?_
 subst eaA0_0
 refine Eq_ (Ew Z2 (Em rfl (Ey rfl ((Y.gtr rfl rfl).yd) (n9 (fun q11 => ?_) (fun q11 => ?_)))))
 ·refine Eu (o0 rfl (f9 (Et (Eq_ (E.block (Ew Z4 (Em rfl (d8 (Est rfl (N.call (pre := [_]) C3 rfl rfl rfl dc rfl (fun w Lp hA => hA.ro hbs)) (fun x15 o15 => ?_))))))))))
  replace o15 : 0 ≤ x15 ∧ ((2 : Int) ≤ 0 → x15 = 0) ∧ (0 < (2 : Int) → x15 < (2 : Int)) := o15
  try (conv => arg 5; dsimp only [List.cons_append, List.nil_append, List.append_nil])
  refine Ey rfl ((Y.add rfl rfl om om).yd) (Ei rfl (Eu (Eq_ (Ew Z2 (Em rfl (Est rfl (N.call (pre := [_]) X6 rfl rfl rfl dc rfl (fun w Lp hA => hA.ro hbs)) (fun o18 o18 => ?_)))))))
  replace o18 : True := o18
  try (conv => arg 5; dsimp only [List.cons_append, List.nil_append, List.append_nil])
  refine Ent.b (fun q18 => ?_) (fun q18 => ?_)
  ·refine Eu (o0 rfl (Ez Z1 (Ei rfl (Eu (Ez Z5 (Em rfl (Em rfl (Est rfl (Nb [_] [_] us_Is f5 rfl rfl) (fun b21 _ => (j7 (Est rfl (B2 (E := Enc.int) (ex := 3) us_Is f5 rfl rfl rfl (Own.int i6) rfl bn bn dc) (fun p22 _ => (Ei rfl (En (s8 (Et (Ez Z3 (Em rfl (Ey rfl ((Y.sub rfl rfl om om).yd) (Ei rfl (Eu (d8 (d8 ?_)))))))))))))))))))))))
   exact B0 br (g + 1, ys ++ [3], p22.1, ((ys).length + 1), p22.2) ⟨rfl, rfl, frI om, trivial⟩ (.refl _) ⟨oz, (show (ys ++ [3]).length = (g + 1) ∧ ∀ z ∈ (ys ++ [3]), 1 ≤ z ∧ z ≤ 3 from by exact b3w pa om)⟩ oz
  ·refine Eu (n8 rfl (f9 (Et (Ez Z5 (Em rfl (Em rfl (Est rfl (Nb [_] [_] us_Is f5 rfl rfl) (fun b21 _ => (j7 (Est rfl (B2 (E := Enc.int) (ex := (1 + x15)) us_Is f5 rfl rfl rfl (Own.int i6) rfl bn bn dc) (fun p22 _ => (Ei rfl (En (s8 (Et (Ez Z3 (Em rfl (Ey rfl ((Y.sub rfl rfl om om).yd) (Ei rfl (Eu (d8 (d8 ?_))))))))))))))))))))))
   exact B0 br (g + 1, ys ++ [(1 + x15)], p22.1, ((ys).length + 1), p22.2) ⟨rfl, rfl, frI om, trivial⟩ (.refl _) ⟨oz, (show (ys ++ [(1 + x15)]).length = (g + 1) ∧ ∀ z ∈ (ys ++ [(1 + x15)]), 1 ≤ z ∧ z ≤ 3 from by exact b3w pa om)⟩ oz
 ·refine Eu (n8 rfl (E.exit (l3 (l3 (y4 (Et (Ew Z2 (Em rfl (Ei rfl (Eu (E.ret (d8 (d8 ?_)))))))))))))
  exact F.r1 br rfl rfl (ys, (_, _, _)) (show 1 ≤ ys.length ∧ ys.length ≤ 3 ∧ ∀ z ∈ ys, 1 ≤ z ∧ z ≤ 3 from by exact b9n pa om om) rfl (J := _) (.refl _) (.inl rfl)
theorem a7O {bs : List UInt8} : Tr Tryz.prog 108 [.pointer (some ⟨b_c, 0, none⟩)] (fun w L => Ro w L a0W [.slice a_b m_b c_b] bs) [cur b_c a_b m_b c_b] (κ := (List Int) × Option Addr × Nat × Nat) (fun k => 1 ≤ k.1.length ∧ k.1.length ≤ 4) (fun k => .slice k.2.1 k.2.2.1 k.2.2.2) (fun k => [ow eIs [.slice k.2.1 k.2.2.1 k.2.2.2] k.1, cur b_c a_b m_b c_b]) := by
 refine Tr.intro Tryz.func108 rfl (n := 15) rfl (by decide +kernel) bl (fr := [(0, .pointer (some ⟨b_c, 0, none⟩))]) rfl fun w L hR => ?_
 have hbs := hR
 obtain ⟨rfl, lb⟩ := hbs.slen
 refine Ew Z1 (Ei rfl (Ev Z3 (Em rfl (Est rfl (N.call (pre := [_]) a5u rfl rfl rfl dc rfl (fun w Lp hA => hA.ro hbs)) (fun k5 o5 => ?_)))))
 obtain ⟨xs5, ⟨a5, m5, c5⟩⟩ := k5
 replace o5 : 1 ≤ xs5.length ∧ xs5.length ≤ 3 ∧ ∀ z ∈ xs5, 1 ≤ z ∧ z ≤ 3 := o5
 try (conv => arg 4; dsimp only)
 try (conv => arg 5; dsimp only [List.cons_append, List.nil_append, List.append_nil])
 refine d6 m0 fun e5 l5 => ?_
 subst e5
 refine Ei rfl (Eu (Eq_ (Ew Z2 (Em rfl (d8 (Est rfl (N.call (pre := [_]) X6 rfl rfl rfl dc rfl (fun w Lp hA => hA.ro hbs)) (fun o7 o7 => ?_)))))))
 replace o7 : True := o7
 try (conv => arg 5; dsimp only [List.cons_append, List.nil_append, List.append_nil])
 refine Ent.b (fun q7 => ?_) (fun q7 => ?_)
 ·refine Eu (o0 rfl (Ez Z7 (Em rfl (Em rfl (Est rfl (Nb [_, _, _] [_, _, _] us_Is f5 rfl rfl) (fun b10 _ => (s7 (A := [_]) (Own.ints (e := tI) (xs := [0, 1, 4]) rfl (by simp [maxLen]) (by simp only [List.forall_mem_cons]; exact ⟨i6, i6, i6, List.forall_mem_nil _⟩)) rfl (d8 (Est rfl (N.call (pre := [_]) (K7 dc) rfl rfl rfl dc rfl (fun w Lp hA => ⟨hA.ow m0, hA.ro hbs⟩)) (fun x11 o11 => ?_))))))))))
  replace o11 : x11 ∈ ([0, 1, 4]) := o11
  try (conv => arg 5; dsimp only [List.cons_append, List.nil_append, List.append_nil])
  have jp : -10 ≤ x11 ∧ x11 ≤ 10 := by simp at o11; omega
  refine Est rfl (Nb [_] [_] us_Is f5 rfl rfl) (fun b12 _ => (o2 (Est rfl (B2 (E := Enc.int) (ex := x11) us_Is f5 rfl rfl rfl (Own.int i6) rfl bn bn dc) (fun p13 _ => (Ei rfl (Ev Z2 (Em rfl (Ei rfl (Eu (E.ret (d8 (d8 ?_))))))))))))
  exact F.r1 br rfl rfl (xs5 ++ [x11], (_, _, _)) (show 1 ≤ (xs5 ++ [x11]).length ∧ (xs5 ++ [x11]).length ≤ 4 from by first | (simp only [List.length_append, List.length_singleton]; omega) | omega) rfl (J := _) (.refl _) (.inl rfl)
 ·refine Eu (n8 rfl (f9 (Et (Ew Z2 (Em rfl (Ei rfl (Eu (E.ret (d8 (d8 (d8 ?_)))))))))))
  exact F.r1 br rfl rfl (xs5, (_, _, _)) (show 1 ≤ xs5.length ∧ xs5.length ≤ 4 from by first | (simp only [List.length_append, List.length_singleton]; omega) | omega) rfl (J := _) (.refl _) (.inl rfl)
end Go.Proofs.YtlfhopooaejpfaaGreat
end
