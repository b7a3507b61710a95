import Derived.Test.YthapcdhdfaibkaaGreatDoorHt
section
namespace Go.Proofs.YthapcdhdfaibkaaGreatDoor
open Go.RowKit
set_option linter.all false
section
variable {n : Nat} {w0 : World} {L0 : List Nat} {fr : Fr} {H R : List HP} {G : Act → World → Prop} {α : Type} {E : Enc α} {e : TypeId} {a : Option Addr} {m c : Nat} {xs : List α}
theorem a7L {j : Nat} {ce : List Value} {x x' : α} {A : List HP} (hO : Own A E ce x') (hj : j = xs.length) (hH : H = hole e E a m c (xs ++ [x]) j ce :: (A ++ R)) (h : Ent n w0 L0 fr (ow (Enc.sl e E) [.slice a m c] (xs ++ [x']) :: R) G) : Ent n w0 L0 fr H G :=
  a3D hO hH (by subst hj; simpa using h)
end
section
variable {P : Program} {Q : Exit → Act → World → Prop} {n : Nat} {w0 : World} {L0 : List Nat} {fr : Fr} {H R pre : List HP} {d : Nat} {ty : TypeId} {pos : String} {af : Array Edge} {g : Option (Nat × Bool)}
theorem b4q {α : Type} {E : Enc α} {T e e2 : TypeId} {agg : Bool} {k m c : Nat} {z : List Value} {by' : Nat} {x y : Operand} {ad a2 : Option Addr} {c2 : Nat} {xs : List α} {ce : List Value} {ex : α} (hT : P.underlying T = some (.slice e)) (ht : TyOk P e agg k z by') (hk : k = E.k)
    (hx : ev fr x = some (.slice ad m c)) (hy : ev fr y = some (.slice a2 1 c2)) (hl : ce.length = E.k) (h1 : ce.all (·.oneCell') = true) (hH : H = ow (Enc.sl e E) [.slice ad m c] xs :: row e2 k a2 1 c2 ce :: R) (h63 : m + 1 ≤ 9223372036854775807) (hbytes : (m + 1) * by' ≤ 140737488355328) (hd : d < n) :
    Nop P Q n w0 L0 fr H ⟨some d, .call ⟨.builtin .append, #[x, y], #[T, T]⟩, ty, pos, af, g⟩ false (κ := Option Addr × Nat) (fun p => (d, .slice p.1 (m + 1) p.2) :: fr) (fun p => hole e E p.1 (m + 1) p.2 (xs ++ [ex]) m ce :: R) (fun _ => True) := fun K hK a w ha hw => by
  subst hk; subst hH
  have hw' := hw
  obtain ⟨L, ⟨Lo, Lq, rfl, ho, Ls, LR, rfl, hs, hR⟩, hn, hst⟩ := hw'
  obtain ⟨ccs, L1, L2, rfl, g1, g2, g3, g4⟩ := a1l ho
  have hsrc : (1 = 0 ∧ ce = []) ∨ ∃ b o, a2 = some ⟨b, o, none⟩ ∧ O7 w b o ce := by
    obtain ⟨L', h0, h1⟩ := hw.mem (mS m0)
    rcases h1 with ⟨_, h2, _⟩ | ⟨g', cur, h2, h3, h4, h5, h6, h7, _⟩
    · cases h2
    · exact .inr ⟨g', 0, h2, Has.row h2 (mS m0) w hw⟩
  obtain ⟨a', c', w', L1', r1, r2, r3, r4, -⟩ := a2n (P := P) (ty := ty) (c2 := c2) hT ht E.pos g4 hsrc (by rw [hl, Nat.one_mul]) (a9u h1) h63 hbytes
  have hnn : ((L1 ++ L2) ++ LR).Nodup := by
    simp only [List.nodup_append] at hn ⊢
    exact ⟨hn.1, hn.2.1.2.1, fun a ha b hb e => hn.2.2 a ha b (by simp [hb]) e⟩
  have hst' : Step w0 L0 w ((L1 ++ L2) ++ LR) := hst.sublist fun b hb => by
    simp only [List.mem_append] at hb ⊢
    rcases hb with (hb | hb) | hb
    · exact .inl<|.inl hb
    · exact .inl<|.inr hb
    · exact .inr<|.inr hb
  have hlt : ∀ b ∈ L2, b < w.heap.size := g3.inh
  obtain ⟨d1, d2, d3⟩ := (Step.refl w (L1 ++ L2)).call (List.nodup_append.1 hnn).1 hlt r4 r3
  have hhole : (hole e E a' (m + 1) c' (xs ++ [ex]) m ce).holds w' (L1' ++ L2) := by
    refine ⟨ccs, [], L1', L2, [], by simp, by simp [g1], h63, by simp [g1], hl, a9u h1, ?_, ?_, by simpa using r2⟩
    · rw [g1, List.take_left]; exact g3.stable d3
    · rw [g1, List.drop_eq_nil_of_le (by simp)]; exact ⟨rfl, rfl⟩
  obtain ⟨k1, k2, k3⟩ := hst'.call hnn hR.inh d1 d2
  have hrun : (execOp a.eval ⟨some d, .call ⟨.builtin .append, #[x, y], #[T, T]⟩, ty, pos, af, g⟩).run P w = .ok (.value (.slice a' (m + 1) c')) w' := by
    simp only [execOp, resolve, ha.ev hx, ha.ev hy, List.map_toArray, List.map_cons, List.map_nil, Sem.run_bind, Sem.run_pure, Result.andThen_ok, invoke, builtin, r1]
  rw [Oper.wp, hrun]
  exact hK (a', c') trivial w _ _ (ha.put hd _) ⟨_, ⟨_, LR, rfl, hhole, hR.stable k3⟩, k2, k1⟩ (by simp)
theorem Y.nil {x : Operand} {ad : Addr} (hx : ev fr x = some (.pointer (some ad))) : Yp P n fr (.nilCheck x) (.pointer (some ad)) := fun a h w' d t p af g => by
  simp [execOp, h.ev hx]
end
end Go.Proofs.YthapcdhdfaibkaaGreatDoor
end
section
namespace Go.Proofs.YthapcdhdfaibkaaGreatDoor
open Go.RowKit
set_option linter.all false
set_option maxHeartbeats 2000000
attribute [local irreducible] Nop Yd Yp Ent Has Tr FnP FnP2 Src M5 U1 V6 W3 G3
variable {n : Int} {s : List Int} {b_c m_b c_b m_s c_s : Nat} {a_b a_s : Option Addr}
theorem a4l {a_code : Option Addr} {m_code c_code : Nat} {code : List UInt8} (hcl : code.length ≤ 1048576) : Tr Tryz.prog 66 [.slice a_code m_code c_code] (fun w L => Ro w L a0B [.slice a_code m_code c_code] code) [] (κ := Nat) (fun k => True) (fun k => .pointer (some ⟨k, 0, none⟩)) (fun k => [cur k a_code m_code c_code]) := by
 refine Ti1 Tryz.func66 32 rfl fun w L hR => ?_
 have hcode := hR
 obtain ⟨rfl, lcode⟩ := hcode.slen
 refine Ew Z1<|Ei rfl<|Ev Z4<|Em rfl<|Yln us_U8s rfl<|Yad rfl om om<|Ei rfl<|Eu<|Eq_<|Ew Z1<|Ei rfl<|Eu<|E.block<|Lo (κ := Nat × Int) (fun g => g.1 ≤ code.length ∧ 0 ≤ g.2 ∧ g.2 ≤ 2000000000) (fun g => [(0, .slice a_code code.length c_code), (3, .int .i64 g.2), (4, .int .i64 (↑g.1 : Int))]) (fun g => []) (fun g => code.length - g.1) (0, (10101 + (↑code.length : Int))) ⟨Nat.zero_le _, by omega⟩<|fun g pg => ?_
 obtain ⟨g, hh⟩ := g
 try dsimp only at pg
 try dsimp only
 obtain ⟨pk, pa⟩ := pg
 refine Eq_<|Ew Z8<|Em rfl<|Em rfl<|Yln us_U8s rfl<|Ylt rfl<|l3 (fun q11 => ?_)<|fun q11 => ?_
 ·refine Em rfl<|Em rfl<|Ylt rfl<|l3 (fun q14 => ?_)<|fun q14 => ?_
  ·refine Ypt rfl<|Eu<|Ct<|Eq_<|E.block<|Ez Z11<|Em rfl<|Ey rfl ((a9T rfl rfl om).yd)<|Em rfl<|Em rfl ?_
   obtain ⟨eb22, eo22, ea22, eh22⟩ := hcode.elemU g om
   have u822 : 0 ≤ (↑code[g].toNat : Int) ∧ (↑code[g].toNat : Int) ≤ 255 := ub8
   refine Il us_U8s a9F rfl ea22 g rfl om rfl (eh22 _)<|Ey rfl ((b7V a7P b4U rfl om).yd)<|Yad rfl om om<|Yad rfl om om<|Ey rfl ((Y.and rfl rfl).yd)<|Ei rfl<|En<|o6<|Et<|Ez Z3<|Em rfl<|Yad rfl om om<|Ei rfl ?_
   exact Eu<|t7 br (g + 1, (a0O (((hh * 131) + (↑code[g].toNat : Int)) + 7) 1073741823)) rs (.refl _) ⟨oz, (show 0 ≤ (a0O (((hh * 131) + (↑code[g].toNat : Int)) + 7) 1073741823) ∧ (a0O (((hh * 131) + (↑code[g].toNat : Int)) + 7) 1073741823) ≤ 2000000000 from by exact ⟨b7E.1, by have := (b7E (a := hh * 131 + (↑code[g].toNat : Int) + 7)).2; omega⟩)⟩ oz
  ·refine Ypt rfl<|Eu<|r7 rfl<|E.exit<|l4<|l4<|w8<|Et<|Ew Z5<|Em rfl<|Em rfl<|Ey rfl ((M4 (pvs := [_, _]) (cs := [_, _, _]) ty_l1Cur pl_l1Cur rfl rfl).yd)<|Est rfl (N.box (cs := [_, _, _]) rfl dc rfl)<|fun b31 _ => Ei rfl<|Eu<|E.ret<|Ent.curC om (by unfold I64; omega)<|Fg rfl rfl b31 rfl rfl
 ·refine Em rfl<|Es rfl<|Es rfl<|Ypf rfl<|Eu<|r7 rfl<|E.exit<|l4<|l4<|w8<|Et<|Ew Z5<|Em rfl<|Em rfl<|Ey rfl ((M4 (pvs := [_, _]) (cs := [_, _, _]) ty_l1Cur pl_l1Cur rfl rfl).yd)<|Est rfl (N.box (cs := [_, _, _]) rfl dc rfl)<|fun b31 _ => Ei rfl<|Eu<|E.ret<|Ent.curC om (by unfold I64; omega)<|Fg rfl rfl b31 rfl rfl
theorem a1I {bs : List UInt8} : Tr Tryz.prog 223 [.pointer (some ⟨b_c, 0, none⟩)] (fun w L => Ro w L a0B [.slice a_b m_b c_b] bs) [cur b_c a_b m_b c_b] (κ := Int) (fun k => 0 ≤ k ∧ k ≤ 255) (fun k => .int .i64 k) (fun k => [cur b_c a_b m_b c_b]) := by
 refine Ti1 Tryz.func223 58 rfl fun w L hR => ?_
 have hbs := hR
 obtain ⟨rfl, lb⟩ := hbs.slen
 refine Ent.curO fun ci ch hci hch => Ew Z1<|Ei rfl<|Ev Z10<|Em rfl<|Em rfl<|Ey rfl ((Y.nil rfl).yd)<|Lz fo_l1Cur_2 i7 rfl m0 rfl<|Ey rfl ((b6t rfl rfl).yd)<|Ey rfl ((c0j rfl rfl).yd)<|Ey rfl ((Y.nil rfl).yd)<|Ey rfl ((C2 fo_l1Cur_2 i7 dc rfl).yd)<|Est rfl (Ns [_, _, _] i7 rfl)<|fun _ _ => Eu<|Eq_<|D.region (fun j => true) mixed<|Dm 0 rfl<|Dyp 1 rfl (Y.nil rfl)<|Df 2 3 fo_l1Cur_2 i7 rfl (Hz m0 2 rfl)<|Dyp 4 rfl (b6n rfl rfl om om)<|Dm 5 rfl<|Dyp 6 rfl (Y.nil rfl)<|Df 7 8 fo_l1Cur_2 i7 rfl (Hz m0 2 rfl)<|Dyp 9 rfl (b6n rfl rfl om om)<|Dyp 10 rfl (Y.xor rfl rfl)<|Dyp 11 rfl (Y.and rfl rfl)<|Dyp 12 rfl (G7 rfl)<|n9 kr<|Et<|Eq_<|Eq_<|D.region (fun j => true) mixed<|Dm 0 rfl<|Dyp 1 rfl (Y.nil rfl)<|Df 2 3 fo_l1Cur_1 i7 rfl (Hz m0 1 rfl)<|Dm 4 rfl<|Dyp 5 rfl (Y.nil rfl)<|Df 6 7 fo_l1Cur_0 ty_U8s rfl (Hz m0 0 rfl)<|Dyp 8 rfl (Y.len us_U8s rfl)<|Dyp 9 rfl (Y.lss rfl rfl)<|l3 (fun q34 => ?_)<|fun q34 => ?_
 ·refine n9 kr<|Et<|r6 rfl<|Eq_<|D.region (fun j => true) mixed<|Dm 0 rfl<|Dm 1 rfl<|Dyp 2 rfl (Y.nil rfl)<|Df 3 4 fo_l1Cur_0 ty_U8s rfl (Hz m0 0 rfl)<|Dm 5 rfl<|Dyp 6 rfl (Y.nil rfl)<|Df 7 8 fo_l1Cur_1 i7 rfl (Hz m0 1 rfl) ?_
  obtain ⟨eb44, eo44, ea44, eh44⟩ := hbs.elemU ci.toNat om
  have u844 : 0 ≤ (↑bs[ci.toNat].toNat : Int) ∧ (↑bs[ci.toNat].toNat : Int) ≤ 255 := ub8
  refine Dyp 9 rfl (z8 us_U8s a9F rfl ea44 rfl ci.toNat om om)<|Dy 10 rfl (B4 a9F rfl (eh44 _) rfl)<|Dyp 11 rfl (b7V a7P b4U rfl om) ?_
  have ja : 0 ≤ (a0O (a5o ((IntKind.i64.wrap ((IntKind.i64.wrap (ch * 6364136223846793005)) + 1442695040888963407)) / 2 ^ (33 : Int).toNat) ((IntKind.i64.wrap ((IntKind.i64.wrap (ch * 6364136223846793005)) + 1442695040888963407)) / 2 ^ (45 : Int).toNat)) 255) ∧ (a0O (a5o ((IntKind.i64.wrap ((IntKind.i64.wrap (ch * 6364136223846793005)) + 1442695040888963407)) / 2 ^ (33 : Int).toNat) ((IntKind.i64.wrap ((IntKind.i64.wrap (ch * 6364136223846793005)) + 1442695040888963407)) / 2 ^ (45 : Int).toNat)) 255) ≤ 255 := b1Z
  refine Dyp 12 rfl (Y.add rfl rfl om om)<|Dyp 13 rfl (Y.and rfl rfl)<|Dyp 14 rfl (G7 rfl)<|n9 kr<|Et<|Ez Z9<|Em rfl<|Em rfl<|Ey rfl ((Y.nil rfl).yd)<|Lz fo_l1Cur_1 i7 rfl m0 rfl<|Yad rfl om om<|Ey rfl ((Y.nil rfl).yd)<|Ey rfl ((C2 fo_l1Cur_1 i7 dc rfl).yd)<|Est rfl (Ns [_, _, _] i7 rfl)<|fun _ _ => Ev Z2<|Em rfl<|Ei rfl<|Eu<|E.ret<|Ent.curC om (by first | exact b3c _ | assumption)<|F.r1 br rfl rfl (a0O ((a0O (a5o ((IntKind.i64.wrap<|(IntKind.i64.wrap<|ch * 6364136223846793005) + 1442695040888963407) / 2 ^ (33 : Int).toNat)<|(IntKind.i64.wrap<|(IntKind.i64.wrap<|ch * 6364136223846793005) + 1442695040888963407) / 2 ^ (45 : Int).toNat) 255) + (↑bs[ci.toNat].toNat : Int)) 255) (show 0 ≤ (a0O ((a0O (a5o ((IntKind.i64.wrap<|(IntKind.i64.wrap<|ch * 6364136223846793005) + 1442695040888963407) / 2 ^ (33 : Int).toNat)<|(IntKind.i64.wrap<|(IntKind.i64.wrap<|ch * 6364136223846793005) + 1442695040888963407) / 2 ^ (45 : Int).toNat) 255) + (↑bs[ci.toNat].toNat : Int)) 255) ∧ (a0O ((a0O (a5o ((IntKind.i64.wrap<|(IntKind.i64.wrap<|ch * 6364136223846793005) + 1442695040888963407) / 2 ^ (33 : Int).toNat)<|(IntKind.i64.wrap<|(IntKind.i64.wrap<|ch * 6364136223846793005) + 1442695040888963407) / 2 ^ (45 : Int).toNat) 255) + (↑bs[ci.toNat].toNat : Int)) 255) ≤ 255 from by exact b1Z) rfl (J := _) (.refl _)<|.inl rfl
 ·refine n9 kr<|Et<|Cf<|Ew Z2<|Em rfl<|Ei rfl<|Eu<|E.ret<|Ent.curC om (by first | exact b3c _ | assumption)<|F.r1 br rfl rfl (a0O (a5o ((IntKind.i64.wrap<|(IntKind.i64.wrap<|ch * 6364136223846793005) + 1442695040888963407) / 2 ^ (33 : Int).toNat)<|(IntKind.i64.wrap<|(IntKind.i64.wrap<|ch * 6364136223846793005) + 1442695040888963407) / 2 ^ (45 : Int).toNat) 255) (show 0 ≤ (a0O (a5o ((IntKind.i64.wrap<|(IntKind.i64.wrap<|ch * 6364136223846793005) + 1442695040888963407) / 2 ^ (33 : Int).toNat)<|(IntKind.i64.wrap<|(IntKind.i64.wrap<|ch * 6364136223846793005) + 1442695040888963407) / 2 ^ (45 : Int).toNat) 255) ∧ (a0O (a5o ((IntKind.i64.wrap<|(IntKind.i64.wrap<|ch * 6364136223846793005) + 1442695040888963407) / 2 ^ (33 : Int).toNat)<|(IntKind.i64.wrap<|(IntKind.i64.wrap<|ch * 6364136223846793005) + 1442695040888963407) / 2 ^ (45 : Int).toNat) 255) ≤ 255 from by exact b1Z) rfl (J := _) (.refl _)<|.inl rfl
theorem C4 {bs : List UInt8} : Tr Tryz.prog 112 [.pointer (some ⟨b_c, 0, none⟩), .int .i64 n] (fun w L => Ro w L a0B [.slice a_b m_b c_b] bs) [cur b_c a_b m_b c_b] (κ := Int) (fun k => 0 ≤ k ∧ (n ≤ 0 → k = 0) ∧ (0 < n → k < n)) (fun k => .int .i64 k) (fun k => [cur b_c a_b m_b c_b]) := by
 refine Ti2 Tryz.func112 37 rfl fun w L hR => ?_
 have hbs := hR
 obtain ⟨rfl, lb⟩ := hbs.slen
 refine Ew Z1<|Ei rfl<|Eu<|Eq_<|Ew Z2<|Em rfl<|Ey rfl ((Y.leq rfl rfl).yd)<|l3 (fun q10 => ?_)<|fun q10 => ?_
 ·refine Eu<|r6 rfl<|Ew Z1<|Ei rfl<|Eu<|E.ret<|i9<|F.r1 br rfl rfl 0 (show 0 ≤ (0 : Int) ∧ (n ≤ 0 → (0 : Int) = 0) ∧ (0 < n → (0 : Int) < n) from by first | omega | exact b0q om) rfl (J := _) (.refl _)<|.inl rfl
 ·refine Eu<|Cf<|Eq_<|Ew Z2<|Em rfl<|Ey rfl ((Y.leq rfl rfl).yd)<|l3 (fun q12 => ?_)<|fun q12 => ?_
  ·refine Eu<|r6 rfl<|Ew Z5<|Em rfl<|Est rfl (N.call (pre := [_]) a1I rfl rfl rfl dc rfl<|fun w Lp hA => hA.ro hbs)<|fun x14 o14 => ?_
   try dsimp only at o14
   try (conv => arg 5; dsimp only [ca, na])
   refine Em rfl<|Ey rfl ((a9U rfl rfl om om).yd)<|Ei rfl<|Eu<|E.ret<|i9<|F.r1 br rfl rfl (x14 % n) (show 0 ≤ (x14 % n) ∧ (n ≤ 0 → (x14 % n) = 0) ∧ (0 < n → (x14 % n) < n) from by first | omega | exact b0q om) rfl (J := _) (.refl _)<|.inl rfl
  ·refine Eu<|Cf<|Ew Z3<|Em rfl<|Est rfl (N.call (pre := [_]) a1I rfl rfl rfl dc rfl<|fun w Lp hA => hA.ro hbs)<|fun x18 o18 => ?_
   try dsimp only at o18
   try (conv => arg 5; dsimp only [ca, na])
   refine Ei rfl<|Ev Z3<|Em rfl<|Est rfl (N.call (pre := [_]) a1I rfl rfl rfl dc rfl<|fun w Lp hA => hA.ro hbs)<|fun x20 o20 => ?_
   try dsimp only at o20
   try (conv => arg 5; dsimp only [ca, na])
   refine Ei rfl<|Ev Z3<|Em rfl<|Est rfl (N.call (pre := [_]) a1I rfl rfl rfl dc rfl<|fun w Lp hA => hA.ro hbs)<|fun x22 o22 => ?_
   try dsimp only at o22
   try (conv => arg 5; dsimp only [ca, na])
   refine Ei rfl<|Ev Z3<|Em rfl<|Est rfl (N.call (pre := [_]) a1I rfl rfl rfl dc rfl<|fun w Lp hA => hA.ro hbs)<|fun x24 o24 => ?_
   try dsimp only at o24
   try (conv => arg 5; dsimp only [ca, na])
   refine Ei rfl<|Ev Z13<|Em rfl<|Ey rfl ((a9T rfl rfl om).yd)<|Em rfl<|Ey rfl ((a9T rfl rfl om).yd)<|Yad rfl om om<|Em rfl<|Ey rfl ((a9T rfl rfl om).yd)<|Yad rfl om om<|Em rfl<|Yad rfl om om<|Em rfl<|Ey rfl ((a9U rfl rfl om om).yd)<|Ei rfl<|Eu<|E.ret<|F.r1 br rfl rfl (((((x18 * 16777216) + (x20 * 65536)) + (x22 * 256)) + x24) % n) (show 0 ≤ (((((x18 * 16777216) + (x20 * 65536)) + (x22 * 256)) + x24) % n) ∧ (n ≤ 0 → (((((x18 * 16777216) + (x20 * 65536)) + (x22 * 256)) + x24) % n) = 0) ∧ (0 < n → (((((x18 * 16777216) + (x20 * 65536)) + (x22 * 256)) + x24) % n) < n) from by first | omega | exact b0q om) rfl (J := _) (.refl _)<|.inl rfl
theorem a0g {bs : List UInt8} : Tr Tryz.prog 113 [.pointer (some ⟨b_c, 0, none⟩), .int .i64 n] (fun w L => Ro w L a0B [.slice a_b m_b c_b] bs) [cur b_c a_b m_b c_b] (κ := Bool) (fun k => True) (fun k => .bool k) (fun k => [cur b_c a_b m_b c_b]) := by
 refine Ti2 Tryz.func113 9 rfl fun w L hR => ?_
 have hbs := hR
 obtain ⟨rfl, lb⟩ := hbs.slen
 refine Ew Z1<|Ei rfl<|Ev Z5<|Em rfl<|Em rfl<|Est rfl (N.call (pre := [_]) C4 rfl rfl rfl dc rfl<|fun w Lp hA => hA.ro hbs)<|fun x7 o7 => ?_
 try dsimp only at o7
 try (conv => arg 5; dsimp only [ca, na])
 refine Yeq rfl<|Ei rfl<|Eu<|E.ret<|F.r1 br rfl rfl (decide (x7 = 0)) (show True from by trivial) rfl (J := _) (.refl _)<|.inl rfl
theorem M0 {a_list : Option Addr} {m_list c_list : Nat} {list : List Int} {bs : List UInt8} (hl : 0 < list.length) : Tr Tryz.prog 290 [.pointer (some ⟨b_c, 0, none⟩), .slice a_list m_list c_list] (fun w L => Ro w L eIs [.slice a_list m_list c_list] list ∧ Ro w L a0B [.slice a_b m_b c_b] bs) [cur b_c a_b m_b c_b] (κ := Int) (fun k => k ∈ list) (fun k => .int .i64 k) (fun k => [cur b_c a_b m_b c_b]) := by
 refine Ti2 Tryz.func290 12 rfl fun w L hR => ?_
 obtain ⟨hlist, hbs⟩ := hR
 obtain ⟨rfl, llist⟩ := hlist.slen
 obtain ⟨rfl, lb⟩ := hbs.slen
 refine Ew Z1<|Ei rfl<|Ev Z8<|Em rfl<|Em rfl<|Em rfl<|Yln us_Is rfl<|Est rfl (N.call (pre := [_]) C4 rfl rfl rfl dc rfl<|fun w Lp hA => hA.ro hbs)<|fun x9 o9 => ?_
 try dsimp only at o9
 try (conv => arg 5; dsimp only [ca, na])
 obtain ⟨eb10, eo10, ea10, ei10, eh10⟩ := hlist.elemI x9.toNat om
 refine Il us_Is i7 rfl ea10 x9.toNat om om rfl (eh10 _)<|Ei rfl<|Eu<|E.ret<|F.r1 br rfl rfl list[x9.toNat] (show list[x9.toNat] ∈ list from by exact List.getElem_mem _) rfl (J := _) (.refl _)<|.inl rfl
theorem a5h {bs : List UInt8} : Tr Tryz.prog 284 [.pointer (some ⟨b_c, 0, none⟩)] (fun w L => Ro w L a0B [.slice a_b m_b c_b] bs) [cur b_c a_b m_b c_b] (κ := (List Int) × SL) (fun k => 1 ≤ k.1.length ∧ k.1.length ≤ 3 ∧ ∀ z ∈ k.1, 1 ≤ z ∧ z ≤ 3) (fun k => .slice k.2.1 k.2.2.1 k.2.2.2) (fun k => [ow eIs [.slice k.2.1 k.2.2.1 k.2.2.2] k.1, cur b_c a_b m_b c_b]) := by
 refine Ti1 Tryz.func284 24 rfl fun w L hR => ?_
 have hbs := hR
 obtain ⟨rfl, lb⟩ := hbs.slen
 refine Ew Z1<|Ei rfl<|Ev Z2<|Est rfl (Nb [] [] us_Is i7 rfl rfl)<|fun b6 _ => Ent.drop<|Ei rfl<|Eu<|Eq_<|Ew Z4<|Em rfl<|Est rfl (N.call (pre := [_]) C4 rfl rfl rfl dc rfl<|fun w Lp hA => hA.ro hbs)<|fun x8 o8 => ?_
 try dsimp only at o8
 try (conv => arg 5; dsimp only [ca, na])
 refine Yad rfl om om<|Ei rfl<|Eu<|E.block<|l6 (A := []) (Own.nil (E := Enc.int) (e := tI) (a := (some ⟨b6, 0, none⟩))) rfl<|E.loop (κ := Nat × (List Int) × SL) (fun g => g.1 ≤ (1 + x8).toNat ∧ g.2.1.length = g.1 ∧ ∀ z ∈ g.2.1, 1 ≤ z ∧ z ≤ 3) (fun g => [(0, .pointer<|some ⟨b_c, 0, none⟩), (3, .slice g.2.2.1 g.2.2.2.1 g.2.2.2.2), (4, .int .i64<|1 + x8 - (↑g.1 : Int))]) (fun g => [ow eIs [.slice g.2.2.1 g.2.2.2.1 g.2.2.2.2] g.2.1, cur b_c a_b bs.length c_b]) (fun g => (1 + x8).toNat - g.1) (0, [], (some ⟨b6, 0, none⟩), 0, 0) ⟨Nat.zero_le _, by simp⟩ ⟨rfl, rfl, frI om, trivial⟩ (.refl _)<|fun g pg => ?_
 obtain ⟨g, ys, aA0_0, mA0_0, cA0_0⟩ := g
 try dsimp only at pg
 try dsimp only
 obtain ⟨pk, pa⟩ := pg
 refine r8 m0 ?_
 rintro rfl laA0_0
 refine Eq_<|Ew Z2<|Em rfl<|Ey rfl ((Y.gtr rfl rfl).yd)<|l3 (fun q11 => ?_)<|fun q11 => ?_
 ·refine Eu<|Ct<|Eq_<|E.block<|Ew Z4<|Em rfl<|f5<|Est rfl (N.call (pre := [_]) C4 rfl rfl rfl dc rfl<|fun w Lp hA => hA.ro hbs)<|fun x15 o15 => ?_
  try dsimp only at o15
  try (conv => arg 5; dsimp only [ca, na])
  refine Yad rfl om om<|Ei rfl<|Eu<|Eq_<|Ew Z2<|Em rfl<|Est rfl (N.call (pre := [_]) a0g rfl rfl rfl dc rfl<|fun w Lp hA => hA.ro hbs)<|fun o18 o18 => ?_
  try dsimp only at o18
  try (conv => arg 5; dsimp only [ca, na])
  refine Ent.b (fun q18 => ?_)<|fun q18 => ?_
  ·refine Eu<|r6 rfl<|Ez Z1<|Ei rfl<|Eu<|Ez Z5<|Em rfl<|Em rfl<|Est rfl (Nb [_] [_] us_Is i7 rfl rfl)<|fun b21 _ => i8<|Est rfl (B0 (E := Enc.int) (ex := 3) us_Is i7 rfl rfl rfl (Own.int i6) rfl bn bn dc)<|fun p22 _ => Ei rfl<|En<|o6<|Et<|Ez Z3<|Em rfl<|Ey rfl ((Y.sub rfl rfl om om).yd)<|Ei rfl<|Eu<|f5<|f5 ?_
   exact t7 br (g + 1, ys ++ [3], p22.1, ((ys).length + 1), p22.2) ⟨rfl, rfl, frI om, trivial⟩ (.refl _) ⟨oz, (show (ys ++ [3]).length = (g + 1) ∧ ∀ z ∈ (ys ++ [3]), 1 ≤ z ∧ z ≤ 3 from by exact b2e pa om)⟩ oz
  ·refine Eu<|Cf<|Ez Z5<|Em rfl<|Em rfl<|Est rfl (Nb [_] [_] us_Is i7 rfl rfl)<|fun b21 _ => i8<|Est rfl (B0 (E := Enc.int) (ex := (1 + x15)) us_Is i7 rfl rfl rfl (Own.int i6) rfl bn bn dc)<|fun p22 _ => Ei rfl<|En<|o6<|Et<|Ez Z3<|Em rfl<|Ey rfl ((Y.sub rfl rfl om om).yd)<|Ei rfl<|Eu<|f5<|f5 ?_
   exact t7 br (g + 1, ys ++ [(1 + x15)], p22.1, ((ys).length + 1), p22.2) ⟨rfl, rfl, frI om, trivial⟩ (.refl _) ⟨oz, (show (ys ++ [(1 + x15)]).length = (g + 1) ∧ ∀ z ∈ (ys ++ [(1 + x15)]), 1 ≤ z ∧ z ≤ 3 from by exact b2e pa om)⟩ oz
 ·refine Eu<|r7 rfl<|E.exit<|l4<|l4<|w8<|Et<|Ew Z2<|Em rfl<|Ei rfl<|Eu<|E.ret<|f5<|f5<|F.r1 br rfl rfl (ys, (_, _, _)) (show 1 ≤ ys.length ∧ ys.length ≤ 3 ∧ ∀ z ∈ ys, 1 ≤ z ∧ z ≤ 3 from by exact b7Y pa om om) rfl (J := _) (.refl _)<|.inl rfl
theorem a7D {bs : List UInt8} : Tr Tryz.prog 288 [.pointer (some ⟨b_c, 0, none⟩)] (fun w L => Ro w L a0B [.slice a_b m_b c_b] bs) [cur b_c a_b m_b c_b] (κ := (List Int) × SL) (fun k => 1 ≤ k.1.length ∧ k.1.length ≤ 4) (fun k => .slice k.2.1 k.2.2.1 k.2.2.2) (fun k => [ow eIs [.slice k.2.1 k.2.2.1 k.2.2.2] k.1, cur b_c a_b m_b c_b]) := by
 refine Ti1 Tryz.func288 15 rfl fun w L hR => ?_
 have hbs := hR
 obtain ⟨rfl, lb⟩ := hbs.slen
 refine Ew Z1<|Ei rfl<|Ev Z3<|Em rfl<|Est rfl (N.call (pre := [_]) a5h rfl rfl rfl dc rfl<|fun w Lp hA => hA.ro hbs)<|fun k5 o5 => ?_
 obtain ⟨xs5, ⟨a5, m5, c5⟩⟩ := k5
 try dsimp only at o5
 try (conv => arg 4; dsimp only)
 try (conv => arg 5; dsimp only [ca, na])
 refine r8 m0 ?_
 rintro rfl l5
 refine Ei rfl<|Eu<|Eq_<|Ew Z2<|Em rfl<|f5<|Est rfl (N.call (pre := [_]) a0g rfl rfl rfl dc rfl<|fun w Lp hA => hA.ro hbs)<|fun o7 o7 => ?_
 try dsimp only at o7
 try (conv => arg 5; dsimp only [ca, na])
 refine Ent.b (fun q7 => ?_)<|fun q7 => ?_
 ·refine Eu<|r6 rfl<|Ez Z7<|Em rfl<|Em rfl<|Est rfl (Nb [_, _, _] [_, _, _] us_Is i7 rfl rfl)<|fun b10 _ => l6 (A := [_]) (Own.ints (e := tI) (xs := [0, 1, 4]) rfl (by simp [maxLen]) (by simp only [List.forall_mem_cons]; exact ⟨i6, i6, i6, List.forall_mem_nil _⟩)) rfl<|f5<|Est rfl (N.call (pre := [_]) (M0 dc) rfl rfl rfl dc rfl<|fun w Lp hA => ⟨hA.ow m0, hA.ro hbs⟩)<|fun x11 o11 => ?_
  try dsimp only at o11
  try (conv => arg 5; dsimp only [ca, na])
  have jp : -10 ≤ x11 ∧ x11 ≤ 10 := by simp at o11; omega
  refine Est rfl (Nb [_] [_] us_Is i7 rfl rfl)<|fun b12 _ => a4G<|Est rfl (B0 (E := Enc.int) (ex := x11) us_Is i7 rfl rfl rfl (Own.int i6) rfl bn bn dc)<|fun p13 _ => Ei rfl<|Ev Z2<|Em rfl<|Ei rfl<|Eu<|E.ret<|f5<|f5 ?_
  exact F.r1 br rfl rfl (xs5 ++ [x11], (_, _, _)) (show 1 ≤ (xs5 ++ [x11]).length ∧ (xs5 ++ [x11]).length ≤ 4 from by first | (simp only [List.length_append, List.length_singleton]; omega) | omega) rfl (J := _) (.refl _)<|.inl rfl
 ·refine Eu<|Cf<|Ew Z2<|Em rfl<|Ei rfl<|Eu<|E.ret<|f5<|f5<|f5 ?_
  exact F.r1 br rfl rfl (xs5, (_, _, _)) (show 1 ≤ xs5.length ∧ xs5.length ≤ 4 from by first | (simp only [List.length_append, List.length_singleton]; omega) | omega) rfl (J := _) (.refl _)<|.inl rfl
theorem a6J {wide : Int} {bs : List UInt8} (h1 : 1 ≤ s.length) (hsz : ∀ z ∈ s, 1 ≤ z ∧ z ≤ 3) (hw : 1 ≤ wide ∧ wide ≤ 100) : Tr Tryz.prog 289 [.pointer (some ⟨b_c, 0, none⟩), .slice a_s m_s c_s, .int .i64 wide] (fun w L => Ro w L eIs [.slice a_s m_s c_s] s ∧ Ro w L a0B [.slice a_b m_b c_b] bs) [cur b_c a_b m_b c_b] (κ := Int × (List Int) × SL) (fun k => (0 ≤ k.1 ∧ k.1 < s.length) ∧ 1 ≤ k.2.1.length ∧ k.2.1.length ≤ 3) (fun k => .agg #[.int .i64 k.1, .slice k.2.2.1 k.2.2.2.1 k.2.2.2.2]) (fun k => [ow eIs [.slice k.2.2.1 k.2.2.2.1 k.2.2.2.2] k.2.1, cur b_c a_b m_b c_b]) := by
 refine Ti3 Tryz.func289 34 rfl fun w L hR => ?_
 obtain ⟨hs, hbs⟩ := hR
 obtain ⟨rfl, ls⟩ := hs.slen
 obtain ⟨rfl, lb⟩ := hbs.slen
 refine Ew Z1<|Est rfl (N.alloc ty_Fact dc)<|fun b6 _ => Ev Z7<|Em rfl<|Em rfl<|Yln us_Is rfl<|f5<|Est rfl (N.call (pre := [_]) C4 rfl rfl rfl dc rfl<|fun w Lp hA => hA.ro hbs)<|fun x13 o13 => ?_
 try dsimp only at o13
 try (conv => arg 5; dsimp only [ca, na])
 have jx : x13.toNat < s.length := by omega
 have jz := hsz _ (List.getElem_mem jx)
 refine Ey rfl ((M4 (pvs := [_]) (cs := [_, _]) ty_Fact a4h rfl rfl).yd)<|Est rfl (N.alloc ty_Fact dc)<|fun b7 _ => Est rfl (Ns [_, _] ty_Fact rfl)<|fun _ _ => Eu<|Eq_<|Ew Z1<|Ei rfl<|Eu<|E.block<|l6 (A := []) (Own.nil (E := Enc.int) (e := tI) (a := none)) rfl<|Lo (κ := Nat × (List Int) × SL) (fun g => g.1 ≤ s[x13.toNat].toNat ∧ g.2.1.length = g.1) (fun g => [(0, .pointer<|some ⟨b_c, 0, none⟩), (1, .slice a_s s.length c_s), (2, .int .i64 wide), (6, .pointer<|some ⟨b6, 0, none⟩), (7, .pointer<|some ⟨b7, 0, none⟩), (8, .int .i64 (↑g.1 : Int))]) (fun g => [ow eIs [.slice g.2.2.1 g.2.2.2.1 g.2.2.2.2] g.2.1, pt b7 85 [.int .i64 x13, .slice g.2.2.1 g.2.2.2.1 g.2.2.2.2], cur b_c a_b bs.length c_b, pt b6 85 [.int .i64 0, .slice none 0 0]]) (fun g => s[x13.toNat].toNat - g.1) (0, [], none, 0, 0) ⟨Nat.zero_le _, by rfl⟩<|fun g pg => ?_
 obtain ⟨g, ys, aA0_0, mA0_0, cA0_0⟩ := g
 try dsimp only at pg
 try dsimp only
 obtain ⟨pk, pa⟩ := pg
 refine r8 m0 ?_
 rintro rfl laA0_0
 refine Eq_<|Ew Z7<|Em rfl<|Em rfl<|Lz fo_Fact_0 i7 rfl (mS m0) rfl ?_
 obtain ⟨eb19, eo19, ea19, ei19, eh19⟩ := hs.elemI x13.toNat om
 refine Il us_Is i7 rfl ea19 x13.toNat om om rfl (eh19 _)<|Ylt rfl<|l3 (fun q21 => ?_)<|fun q21 => ?_
 ·refine Eu<|Ct<|Eq_<|E.block<|Ew Z4<|Em rfl<|Em rfl<|i8<|Est rfl (N.call (pre := [_]) C4 rfl rfl rfl dc rfl<|fun w Lp hA => hA.ro hbs)<|fun x26 o26 => ?_
  try dsimp only at o26
  try (conv => arg 5; dsimp only [ca, na])
  refine Ei rfl<|Eu<|Ez Z7<|Lz fo_Fact_1 ty_Is rfl (mS<|mS m0) rfl<|Em rfl<|Est rfl (Nb [_] [_] us_Is i7 rfl rfl)<|fun b30 _ => i8<|Est rfl (B0 (E := Enc.int) (ex := x26) us_Is i7 rfl rfl rfl (Own.int i6) rfl bn bn dc)<|fun p31 _ => Ey rfl ((C2 fo_Fact_1 ty_Is dc rfl).yd)<|i8<|Est rfl (Ns [_, _] ty_Is rfl)<|fun _ _ => En<|o6<|Et<|Ez Z3<|Em rfl<|Yad rfl om om<|Ei rfl<|Eu<|a4G<|a4G<|i8<|a4G ?_
  exact Ea (g + 1, ys ++ [x26], p31.1, ((ys).length + 1), p31.2) ⟨oz, (show (ys ++ [x26]).length = (g + 1) from by simp [pa])⟩
 ·refine Eu<|r7 rfl<|E.exit<|l4<|l4<|w8<|Et<|Ew Z2<|Ey rfl (k7 (cs := [_, _]) ty_Fact rfl (Has.pt<|mS m0) rfl)<|a4G<|Est rfl (Ns [_, _] ty_Fact rfl)<|fun _ _ => Eu<|E.ret<|f5<|a4G<|f5<|S0 br rfl rfl (mS<|mS m0) ty_Fact rfl (x13, ys, (_, _, _)) (show (0 ≤ x13 ∧ x13 < s.length) ∧ 1 ≤ ys.length ∧ ys.length ≤ 3 from by omega) rfl (J := _) (.refl _)<|.inl rfl
theorem b0D {most : Int} {bs : List UInt8} (h1 : 1 ≤ s.length) (hsz : ∀ z ∈ s, 1 ≤ z ∧ z ≤ 3) (hm : 0 ≤ most ∧ most ≤ 8) : Tr Tryz.prog 185 [.pointer (some ⟨b_c, 0, none⟩), .slice a_s m_s c_s, .int .i64 most] (fun w L => Ro w L eIs [.slice a_s m_s c_s] s ∧ Ro w L a0B [.slice a_b m_b c_b] bs) [cur b_c a_b m_b c_b] (κ := (List IL) × SL) (fun k => (↑k.1.length : Int) ≤ most ∧ ∀ f ∈ k.1, 1 ≤ f.2.length ∧ f.2.length ≤ 3) (fun k => .slice k.2.1 k.2.2.1 k.2.2.2) (fun k => [ow s5 [.slice k.2.1 k.2.2.1 k.2.2.2] k.1, cur b_c a_b m_b c_b]) := by
 refine Ti3 Tryz.func185 24 rfl fun w L hR => ?_
 obtain ⟨hs, hbs⟩ := hR
 obtain ⟨rfl, ls⟩ := hs.slen
 obtain ⟨rfl, lb⟩ := hbs.slen
 refine Ew Z1<|Ei rfl<|Ev Z2<|Est rfl (Nb [] [] us_Facts ty_Fact rfl rfl)<|fun b9 _ => Ent.drop<|Ei rfl<|Eu<|Eq_<|Ew Z5<|Em rfl<|Em rfl<|Yad rfl om om<|Est rfl (N.call (pre := [_]) C4 rfl rfl rfl dc rfl<|fun w Lp hA => hA.ro hbs)<|fun x13 o13 => ?_
 try dsimp only at o13
 try (conv => arg 5; dsimp only [ca, na])
 refine Ei rfl<|Eu<|E.block<|l6 (A := []) (Own.nil (E := J8) (e := tFact) (a := (some ⟨b9, 0, none⟩))) rfl<|E.loop (κ := Nat × (List<|IL) × SL) (fun g => g.1 ≤ (x13).toNat ∧ g.2.1.length ≤ g.1 ∧ ∀ f ∈ g.2.1, 1 ≤ f.2.length ∧ f.2.length ≤ 3) (fun g => [(0, .pointer<|some ⟨b_c, 0, none⟩), (1, .slice a_s s.length c_s), (7, .slice g.2.2.1 g.2.2.2.1 g.2.2.2.2), (8, .int .i64<|x13 - (↑g.1 : Int))]) (fun g => [ow s5 [.slice g.2.2.1 g.2.2.2.1 g.2.2.2.2] g.2.1, cur b_c a_b bs.length c_b]) (fun g => (x13).toNat - g.1) (0, [], (some ⟨b9, 0, none⟩), 0, 0) ⟨Nat.zero_le _, by simp⟩ ⟨rfl, rfl, rfl, frI om, trivial⟩ (.refl _)<|fun g pg => ?_
 obtain ⟨g, ys, aA0_0, mA0_0, cA0_0⟩ := g
 try dsimp only at pg
 try dsimp only
 obtain ⟨pk, pa⟩ := pg
 refine r8 m0 ?_
 rintro rfl laA0_0
 refine Eq_<|Ew Z2<|Em rfl<|Ey rfl ((Y.gtr rfl rfl).yd)<|l3 (fun q15 => ?_)<|fun q15 => ?_
 ·refine Eu<|Ct<|Eq_<|E.block<|Ez Z6<|Em rfl<|Em rfl<|Em rfl<|f5<|Est rfl (N.call (pre := [_]) (a6J fo fo fo) rfl rfl rfl dc rfl<|fun w Lp hA => ⟨hA.ro hs, hA.ro hbs⟩)<|fun k21 o21 => ?_
  obtain ⟨rl21, vs21, ⟨a21, m21, c21⟩⟩ := k21
  try dsimp only at o21
  try (conv => arg 4; dsimp only)
  try (conv => arg 5; dsimp only [ca, na])
  refine r8 m0 ?_
  rintro rfl l21
  refine El rfl (a3w om (fun x hx => Nat.le_trans (pa.2 x hx).2 dc) om) rfl (fun hA => ⟨hA.ow<|mS<|mS m0, i6, hA.ow m0⟩)<|fun a22 c22 l22 => Ei rfl<|En<|o6<|Et<|Ez Z3<|Em rfl<|Ey rfl ((Y.sub rfl rfl om om).yd)<|Ei rfl<|Eu<|f5<|Ent.drop<|i8<|Ent.drop<|f5<|f5 ?_
  exact t7 br (g + 1, G8 ys (rl21, vs21), a22, _, c22) ⟨rfl, rfl, rfl, frI om, trivial⟩ (.refl _) ⟨oz, (show (G8 ys (rl21, vs21)).length ≤ (g + 1) ∧ ∀ f ∈ (G8 ys (rl21, vs21)), 1 ≤ f.2.length ∧ f.2.length ≤ 3 from by exact b6D pa o21.2)⟩ oz
 ·refine Eu<|r7 rfl<|E.exit<|l4<|l4<|w8<|Et<|Ew Z2<|Em rfl<|Ei rfl<|Eu<|E.ret<|f5<|f5<|F.r1 br rfl rfl (ys, (_, _, _)) (show (↑ys.length : Int) ≤ most ∧ ∀ f ∈ ys, 1 ≤ f.2.length ∧ f.2.length ≤ 3 from by exact ⟨by omega, pa.2⟩) rfl (J := _) (.refl _)<|.inl rfl
theorem a4j {bs : List UInt8} : Tr Tryz.prog 186 [.pointer (some ⟨b_c, 0, none⟩), .slice a_s m_s c_s] (fun w L => Ro w L eIs [.slice a_s m_s c_s] s ∧ Ro w L a0B [.slice a_b m_b c_b] bs) [cur b_c a_b m_b c_b] (κ := Int × (List Int) × SL) (fun k => (-1 ≤ k.1 ∧ k.1 ≤ 10) ∧ 1 ≤ k.2.1.length ∧ k.2.1.length ≤ 4) (fun k => .agg #[.int .i64 k.1, .slice k.2.2.1 k.2.2.2.1 k.2.2.2.2]) (fun k => [ow eIs [.slice k.2.2.1 k.2.2.2.1 k.2.2.2.2] k.2.1, cur b_c a_b m_b c_b]) := by
 refine Ti2 Tryz.func186 37 rfl fun w L hR => ?_
 obtain ⟨hs, hbs⟩ := hR
 obtain ⟨rfl, ls⟩ := hs.slen
 obtain ⟨rfl, lb⟩ := hbs.slen
 have js0 : 0 ≤ s.length := Nat.zero_le _
 refine Ew Z1<|Est rfl (N.alloc ty_Fact dc)<|fun b4 _ => Ev Z4<|Est rfl (Nb [_] [_] us_Is i7 rfl rfl)<|fun b6 _ => l6 (A := _ :: _) (U5 (E := Enc.int) (e := tI)<|Own.int i6) rfl<|Ey rfl ((M4 (pvs := [_]) (cs := [_, _]) ty_Fact a4h rfl rfl).yd)<|Est rfl (N.alloc ty_Fact dc)<|fun b5 _ => Est rfl (Ns [_, _] ty_Fact rfl)<|fun _ _ => Eu<|Eq_<|Ew Z2<|Em rfl<|E0 rfl R6 rfl (fun hA => hA.ro hs)<|Ent.b (fun q9 => ?_)<|fun q9 => ?_
 ·have js := a1H q9
  refine Eu<|r6 rfl<|Ez Z4<|Em rfl<|Em rfl<|a4G<|Est rfl (N.call (pre := [_]) (a6J (a1H q9).1 (a1H q9).2.2 fo) rfl rfl rfl dc rfl<|fun w Lp hA => ⟨hA.ro hs, hA.ro hbs⟩)<|fun k12 o12 => ?_
  obtain ⟨rl12, vs12, ⟨a12, m12, c12⟩⟩ := k12
  try dsimp only at o12
  try (conv => arg 4; dsimp only)
  try (conv => arg 5; dsimp only [ca, na])
  refine r8 m0 ?_
  rintro rfl l12
  refine i8<|Est rfl (Ns [_, _] ty_Fact rfl)<|fun _ _ => Eu<|Eq_<|Ew Z2<|Em rfl<|i8<|Est rfl (N.call (pre := [_]) C4 rfl rfl rfl dc rfl<|fun w Lp hA => hA.ro hbs)<|fun x14 o14 => ?_
  try dsimp only at o14
  try (conv => arg 5; dsimp only [ca, na])
  refine Eu<|E.block<|Ew Z2<|Yeq rfl<|Ei rfl<|l3 (fun q15 => ?_)<|fun q15 => ?_
  ·refine Eu<|r6 rfl<|Ez Z5<|Em rfl<|Est rfl (N.call (pre := [_]) C4 rfl rfl rfl dc rfl<|fun w Lp hA => hA.ro hbs)<|fun x18 o18 => ?_
   try dsimp only at o18
   try (conv => arg 5; dsimp only [ca, na])
   refine Ey rfl ((Y.sub rfl rfl om om).yd)<|Ey rfl ((C2 fo_Fact_0 i7 dc rfl).yd)<|f5<|Est rfl (Ns [_, _] i7 rfl)<|fun _ _ => En<|o6<|Et<|Ew Z2<|Ey rfl (k7 (cs := [_, _]) ty_Fact rfl (Has.pt m0) rfl)<|s4<|Est rfl (Ns [_, _] ty_Fact rfl)<|fun _ _ => Eu<|E.ret<|a4G<|a4G<|f5 ?_
   exact S0 br rfl rfl (mS<|mS m0) ty_Fact rfl ((x18 - 1), vs12, (_, _, _)) (show (-1 ≤ (x18 - 1) ∧ (x18 - 1) ≤ 10) ∧ 1 ≤ vs12.length ∧ vs12.length ≤ 4 from by first | omega | (simp only [List.length_set, List.length_append, List.length_cons, List.length_nil]; omega)) rfl (J := _) (.refl _)<|.inl rfl
  ·refine Eu<|r7 rfl<|Ew Z2<|Yeq rfl<|Ei rfl<|l3 (fun q21 => ?_)<|fun q21 => ?_
   ·refine Eu<|r6 rfl<|S7 [b5, b4] (fun j => !(Nat.beq j 6)) mixed<|C1 0 rfl rfl dc (C2 fo_Fact_1 ty_Is dc rfl) kr<|a0a 1 rfl rfl dc (W9 ty_Is rfl ((S3.pt (mS m0) (by simp)).sub (cs' := [_]) 1 rfl) rfl) kr<|C1 2 rfl rfl dc (O5 rfl) kr<|G2 3 rfl rfl kr (fun _ _ => SameI.out) (Nb [_, _, _] [_, _, _] us_Is i7 rfl rfl)<|fun b26 _ => l6 (A := [_]) (Own.ints (e := tI) (xs := [-1, 9, 10]) rfl (by simp [maxLen]) (by simp only [List.forall_mem_cons]; exact ⟨i6, i6, i6, List.forall_mem_nil _⟩)) rfl<|f5<|G2 4 rfl rfl kr (fun _ _ => SameI.out) (N.call (pre := [_]) (M0 dc) rfl rfl rfl dc rfl<|fun w Lp hA => ⟨hA.ow m0, hA.ro hbs⟩)<|fun x27 o27 => ?_
    try dsimp only at o27
    try (conv => arg 5; dsimp only [ca, na])
    have jp : -10 ≤ x27 ∧ x27 ≤ 10 := by simp at o27; omega
    refine Y6 (mS<|mS<|mS m0) om fun ab28 ae28 => C1 5 rfl rfl dc (z8 us_Is i7 rfl ae28 rfl 0 rfl om) kr<|a4G<|G2 6 rfl rfl kr (fun _ _ => SameI.out) (N.set (E := Enc.int) (j := 0) (ex := x27) (ce := [_]) i7 rfl rfl rfl rfl (Own.int i6) ae28 (Nat.zero_add _) rfl (by first | (simp; omega) | omega | (simp; done)))<|fun _ _ => U6 kr<|o6<|Et<|Ew Z2<|Ey rfl (k7 (cs := [_, _]) ty_Fact rfl (Has.pt<|mS<|mS<|mS m0) rfl)<|y7<|Est rfl (Ns [_, _] ty_Fact rfl)<|fun _ _ => Eu<|E.ret<|f5<|i8<|f5 ?_
    exact S0 br rfl rfl (mS<|mS m0) ty_Fact rfl (rl12, vs12.set 0 x27, (_, _, _)) (show (-1 ≤ rl12 ∧ rl12 ≤ 10) ∧ 1 ≤ (vs12.set 0 x27).length ∧ (vs12.set 0 x27).length ≤ 4 from by first | omega | (simp only [List.length_set, List.length_append, List.length_cons, List.length_nil]; omega)) rfl (J := _) (.refl _)<|.inl rfl
   ·refine Eu<|r7 rfl<|Ew Z2<|Yeq rfl<|Ei rfl<|l3 (fun q29 => ?_)<|fun q29 => ?_
    ·refine Eu<|r6 rfl<|Ez Z6<|Lz fo_Fact_1 ty_Is rfl (mS m0) rfl<|Est rfl (Nb [_] [_] us_Is i7 rfl rfl)<|fun b33 _ => a4G<|Est rfl (B0 (E := Enc.int) (ex := 1) us_Is i7 rfl rfl rfl (Own.int i6) rfl bn bn dc)<|fun p34 _ => Ey rfl ((C2 fo_Fact_1 ty_Is dc rfl).yd)<|i8<|Est rfl (Ns [_, _] ty_Is rfl)<|fun _ _ => En<|o6<|Et<|Ew Z2<|Ey rfl (k7 (cs := [_, _]) ty_Fact rfl (Has.pt m0) rfl)<|s4<|Est rfl (Ns [_, _] ty_Fact rfl)<|fun _ _ => Eu<|E.ret<|i8<|a4G<|f5 ?_
     exact S0 br rfl rfl (mS<|mS m0) ty_Fact rfl (rl12, vs12 ++ [1], (_, _, _)) (show (-1 ≤ rl12 ∧ rl12 ≤ 10) ∧ 1 ≤ (vs12 ++ [1]).length ∧ (vs12 ++ [1]).length ≤ 4 from by first | omega | (simp only [List.length_set, List.length_append, List.length_cons, List.length_nil]; omega)) rfl (J := _) (.refl _)<|.inl rfl
    ·refine Eu<|r7 rfl<|v8<|o6<|Et<|Ew Z2<|Ey rfl (k7 (cs := [_, _]) ty_Fact rfl (Has.pt<|mS m0) rfl)<|s4<|Est rfl (Ns [_, _] ty_Fact rfl)<|fun _ _ => Eu<|E.ret<|a4G<|i8<|f5 ?_
     exact S0 br rfl rfl (mS<|mS m0) ty_Fact rfl (rl12, vs12, (_, _, _)) (show (-1 ≤ rl12 ∧ rl12 ≤ 10) ∧ 1 ≤ vs12.length ∧ vs12.length ≤ 4 from by first | omega | (simp only [List.length_set, List.length_append, List.length_cons, List.length_nil]; omega)) rfl (J := _) (.refl _)<|.inl rfl
 ·refine Eu<|Cf<|Eq_<|Ew Z2<|Em rfl<|a4G<|Est rfl (N.call (pre := [_]) C4 rfl rfl rfl dc rfl<|fun w Lp hA => hA.ro hbs)<|fun x14 o14 => ?_
  try dsimp only at o14
  try (conv => arg 5; dsimp only [ca, na])
  refine Eu<|E.block<|Ew Z2<|Yeq rfl<|Ei rfl<|l3 (fun q15 => ?_)<|fun q15 => ?_
  ·refine Eu<|r6 rfl<|Ez Z5<|Em rfl<|Est rfl (N.call (pre := [_]) C4 rfl rfl rfl dc rfl<|fun w Lp hA => hA.ro hbs)<|fun x18 o18 => ?_
   try dsimp only at o18
   try (conv => arg 5; dsimp only [ca, na])
   refine Ey rfl ((Y.sub rfl rfl om om).yd)<|Ey rfl ((C2 fo_Fact_0 i7 dc rfl).yd)<|f5<|Est rfl (Ns [_, _] i7 rfl)<|fun _ _ => En<|o6<|Et<|Ew Z2<|Ey rfl (k7 (cs := [_, _]) ty_Fact rfl (Has.pt m0) rfl)<|a4G<|Est rfl (Ns [_, _] ty_Fact rfl)<|fun _ _ => Eu<|E.ret<|a4G<|a4G<|f5 ?_
   exact S0 br rfl rfl (mS<|mS m0) ty_Fact rfl ((x18 - 1), [1], (_, _, _)) (show (-1 ≤ (x18 - 1) ∧ (x18 - 1) ≤ 10) ∧ 1 ≤ ([1] : List Int).length ∧ ([1] : List Int).length ≤ 4 from by first | omega | (simp only [List.length_set, List.length_append, List.length_cons, List.length_nil]; omega)) rfl (J := _) (.refl _)<|.inl rfl
  ·refine Eu<|r7 rfl<|Ew Z2<|Yeq rfl<|Ei rfl<|l3 (fun q21 => ?_)<|fun q21 => ?_
   ·refine Eu<|r6 rfl<|S7 [b5, b4] (fun j => !(Nat.beq j 6)) mixed<|C1 0 rfl rfl dc (C2 fo_Fact_1 ty_Is dc rfl) kr<|a0a 1 rfl rfl dc (W9 ty_Is rfl ((S3.pt (mS m0) (by simp)).sub (cs' := [_]) 1 rfl) rfl) kr<|C1 2 rfl rfl dc (O5 rfl) kr<|G2 3 rfl rfl kr (fun _ _ => SameI.out) (Nb [_, _, _] [_, _, _] us_Is i7 rfl rfl)<|fun b26 _ => l6 (A := [_]) (Own.ints (e := tI) (xs := [-1, 9, 10]) rfl (by simp [maxLen]) (by simp only [List.forall_mem_cons]; exact ⟨i6, i6, i6, List.forall_mem_nil _⟩)) rfl<|f5<|G2 4 rfl rfl kr (fun _ _ => SameI.out) (N.call (pre := [_]) (M0 dc) rfl rfl rfl dc rfl<|fun w Lp hA => ⟨hA.ow m0, hA.ro hbs⟩)<|fun x27 o27 => ?_
    try dsimp only at o27
    try (conv => arg 5; dsimp only [ca, na])
    have jp : -10 ≤ x27 ∧ x27 ≤ 10 := by simp at o27; omega
    refine C1 5 rfl rfl dc (z8 us_Is i7 rfl rfl rfl 0 rfl om) kr<|a4G<|G2 6 rfl rfl kr (fun _ _ => SameI.out) (N.set (E := Enc.int) (j := 0) (ex := x27) (ce := [_]) i7 rfl rfl rfl rfl (Own.int i6) rfl (Nat.zero_add _) rfl (by first | (simp; omega) | omega | (simp; done)))<|fun _ _ => U6 kr<|o6<|Et<|Ew Z2<|Ey rfl (k7 (cs := [_, _]) ty_Fact rfl (Has.pt<|mS<|mS<|mS m0) rfl)<|s4<|Est rfl (Ns [_, _] ty_Fact rfl)<|fun _ _ => Eu<|E.ret<|f5<|i8<|f5 ?_
    exact S0 br rfl rfl (mS<|mS m0) ty_Fact rfl (0, ([1]).set 0 x27, (_, _, _)) (show (-1 ≤ (0 : Int) ∧ (0 : Int) ≤ 10) ∧ 1 ≤ (([1]).set 0 x27).length ∧ (([1]).set 0 x27).length ≤ 4 from by first | omega | (simp only [List.length_set, List.length_append, List.length_cons, List.length_nil]; omega)) rfl (J := _) (.refl _)<|.inl rfl
   ·refine Eu<|r7 rfl<|Ew Z2<|Yeq rfl<|Ei rfl<|l3 (fun q29 => ?_)<|fun q29 => ?_
    ·refine Eu<|r6 rfl<|Ez Z6<|Lz fo_Fact_1 ty_Is rfl (mS m0) rfl<|Est rfl (Nb [_] [_] us_Is i7 rfl rfl)<|fun b33 _ => a4G<|Est rfl (B0 (E := Enc.int) (ex := 1) us_Is i7 rfl rfl rfl (Own.int i6) rfl bn bn dc)<|fun p34 _ => Ey rfl ((C2 fo_Fact_1 ty_Is dc rfl).yd)<|i8<|Est rfl (Ns [_, _] ty_Is rfl)<|fun _ _ => En<|o6<|Et<|Ew Z2<|Ey rfl (k7 (cs := [_, _]) ty_Fact rfl (Has.pt m0) rfl)<|a4G<|Est rfl (Ns [_, _] ty_Fact rfl)<|fun _ _ => Eu<|E.ret<|i8<|a4G<|f5 ?_
     exact S0 br rfl rfl (mS<|mS m0) ty_Fact rfl (0, ([1]) ++ [1], (_, _, _)) (show (-1 ≤ (0 : Int) ∧ (0 : Int) ≤ 10) ∧ 1 ≤ (([1]) ++ [1]).length ∧ (([1]) ++ [1]).length ≤ 4 from by first | omega | (simp only [List.length_set, List.length_append, List.length_cons, List.length_nil]; omega)) rfl (J := _) (.refl _)<|.inl rfl
    ·refine Eu<|r7 rfl<|v8<|o6<|Et<|Ew Z2<|Ey rfl (k7 (cs := [_, _]) ty_Fact rfl (Has.pt<|mS m0) rfl)<|a4G<|Est rfl (Ns [_, _] ty_Fact rfl)<|fun _ _ => Eu<|E.ret<|a4G<|i8<|f5 ?_
     exact S0 br rfl rfl (mS<|mS m0) ty_Fact rfl (0, [1], (_, _, _)) (show (-1 ≤ (0 : Int) ∧ (0 : Int) ≤ 10) ∧ 1 ≤ ([1] : List Int).length ∧ ([1] : List Int).length ≤ 4 from by first | omega | (simp only [List.length_set, List.length_append, List.length_cons, List.length_nil]; omega)) rfl (J := _) (.refl _)<|.inl rfl
theorem a3W {bs : List UInt8} : Tr Tryz.prog 68 [.pointer (some ⟨b_c, 0, none⟩), .slice a_s m_s c_s] (fun w L => Ro w L eIs [.slice a_s m_s c_s] s ∧ Ro w L a0B [.slice a_b m_b c_b] bs) [cur b_c a_b m_b c_b] (κ := (List IL) × SL) (fun k => k.1.length ≤ 9 ∧ ∀ f ∈ k.1, 1 ≤ f.2.length ∧ f.2.length ≤ 4) (fun k => .slice k.2.1 k.2.2.1 k.2.2.2) (fun k => [ow s5 [.slice k.2.1 k.2.2.1 k.2.2.2] k.1, cur b_c a_b m_b c_b]) := by
 refine Ti2 Tryz.func68 21 rfl fun w L hR => ?_
 obtain ⟨hs, hbs⟩ := hR
 obtain ⟨rfl, ls⟩ := hs.slen
 obtain ⟨rfl, lb⟩ := hbs.slen
 refine Ew Z1<|Ei rfl<|Ev Z2<|Est rfl (Nb [] [] us_Facts ty_Fact rfl rfl)<|fun b6 _ => Ent.drop<|Ei rfl<|Eu<|Eq_<|Ew Z2<|Em rfl<|E0 rfl R6 rfl (fun hA => hA.ro hs)<|Ent.b (fun q8 => ?_)<|fun q8 => ?_
 ·refine Eu<|r6 rfl<|Ez Z4<|Em rfl<|Em rfl<|Est rfl (N.call (pre := [_]) (b0D (a1H q8).1 (a1H q8).2.2 fo) rfl rfl rfl dc rfl<|fun w Lp hA => ⟨hA.ro hs, hA.ro hbs⟩)<|fun k11 o11 => ?_
  obtain ⟨fl11, ⟨a11, m11, c11⟩⟩ := k11
  try dsimp only at o11
  try (conv => arg 4; dsimp only)
  try (conv => arg 5; dsimp only [ca, na])
  refine r8 m0 ?_
  rintro rfl l11
  refine Ei rfl<|Eu<|Eq_<|Ew Z2<|Em rfl<|f5<|Est rfl (N.call (pre := [_]) a0g rfl rfl rfl dc rfl<|fun w Lp hA => hA.ro hbs)<|fun o13 o13 => ?_
  try dsimp only at o13
  try (conv => arg 5; dsimp only [ca, na])
  refine Ent.b (fun q13 => ?_)<|fun q13 => ?_
  ·refine Eu<|r6 rfl<|Ez Z7<|Em rfl<|Em rfl<|Em rfl<|Est rfl (N.call (pre := [_]) a4j rfl rfl rfl dc rfl<|fun w Lp hA => ⟨hA.ro hs, hA.ro hbs⟩)<|fun k17 o17 => ?_
   obtain ⟨rl17, vs17, ⟨a17, m17, c17⟩⟩ := k17
   try dsimp only at o17
   try (conv => arg 4; dsimp only)
   try (conv => arg 5; dsimp only [ca, na])
   refine r8 m0 ?_
   rintro rfl l17
   refine Est rfl (Nb [_] [_, _] us_Facts ty_Fact rfl rfl)<|fun b18 _ => f5<|f5<|a4G<|Est rfl (B0 (E := J8) (ex := (rl17, vs17)) us_Facts ty_Fact rfl rfl rfl (P4 (x := (rl17, vs17)) i6 Own.ow) rfl bn bn dc)<|fun p19 _ => Ei rfl<|Ev Z2<|Em rfl<|Ei rfl<|Eu<|E.ret<|f5<|f5<|F.r1 br rfl rfl (fl11 ++ [(rl17, vs17)], (_, _, _)) (show (fl11 ++ [(rl17, vs17)]).length ≤ 9 ∧ ∀ f ∈ (fl11 ++ [(rl17, vs17)]), 1 ≤ f.2.length ∧ f.2.length ≤ 4 from by first | exact a5W rfl | exact a5a o11 | exact a4X o11 o17.2 | exact a4U o17.2) rfl (J := _) (.refl _)<|.inl rfl
  ·refine Eu<|Cf<|Ew Z2<|Em rfl<|Ei rfl<|Eu<|E.ret<|f5<|f5<|f5<|F.r1 br rfl rfl (fl11, (_, _, _)) (show fl11.length ≤ 9 ∧ ∀ f ∈ fl11, 1 ≤ f.2.length ∧ f.2.length ≤ 4 from by first | exact a5W rfl | exact a5a o11 | exact a4X o11 o17.2 | exact a4U o17.2) rfl (J := _) (.refl _)<|.inl rfl
 ·refine Eu<|Cf<|Eq_<|Ew Z2<|Em rfl<|Est rfl (N.call (pre := [_]) a0g rfl rfl rfl dc rfl<|fun w Lp hA => hA.ro hbs)<|fun o13 o13 => ?_
  try dsimp only at o13
  try (conv => arg 5; dsimp only [ca, na])
  refine Ent.b (fun q13 => ?_)<|fun q13 => ?_
  ·refine Eu<|r6 rfl<|Ez Z7<|Em rfl<|Em rfl<|Em rfl<|Est rfl (N.call (pre := [_]) a4j rfl rfl rfl dc rfl<|fun w Lp hA => ⟨hA.ro hs, hA.ro hbs⟩)<|fun k17 o17 => ?_
   obtain ⟨rl17, vs17, ⟨a17, m17, c17⟩⟩ := k17
   try dsimp only at o17
   try (conv => arg 4; dsimp only)
   try (conv => arg 5; dsimp only [ca, na])
   refine r8 m0 ?_
   rintro rfl l17
   refine Est rfl (Nb [_] [_, _] us_Facts ty_Fact rfl rfl)<|fun b18 _ => l6 (A := []) (Own.nil (E := J8) (e := tFact) (a := (some ⟨b6, 0, none⟩))) rfl<|i8<|i8<|i8<|Est rfl (B0 (E := J8) (ex := (rl17, vs17)) us_Facts ty_Fact rfl rfl rfl (P4 (x := (rl17, vs17)) i6 Own.ow) rfl bn bn dc)<|fun p19 _ => Ei rfl<|Ev Z2<|Em rfl<|Ei rfl<|Eu<|E.ret<|f5<|f5<|F.r1 br rfl rfl ([] ++ [(rl17, vs17)], (_, _, _)) (show ([] ++ [(rl17, vs17)] : List IL).length ≤ 9 ∧ ∀ f ∈ ([] ++ [(rl17, vs17)] : List IL), 1 ≤ f.2.length ∧ f.2.length ≤ 4 from by first | exact a5W rfl | exact a5a o11 | exact a4X o11 o17.2 | exact a4U o17.2) rfl (J := _) (.refl _)<|.inl rfl
  ·refine Eu<|Cf<|Ew Z2<|Em rfl<|Ei rfl<|Eu<|E.ret<|l6 (A := []) (Own.nil (E := J8) (e := tFact) (a := (some ⟨b6, 0, none⟩))) rfl<|f5<|f5<|F.r1 br rfl rfl ([], ((some ⟨b6, 0, none⟩), 0, 0)) (show ([] : List IL).length ≤ 9 ∧ ∀ f ∈ ([] : List IL), 1 ≤ f.2.length ∧ f.2.length ≤ 4 from by first | exact a5W rfl | exact a5a o11 | exact a4X o11 o17.2 | exact a4U o17.2) rfl (J := _) (.refl _)<|.inl rfl
end Go.Proofs.YthapcdhdfaibkaaGreatDoor
end
