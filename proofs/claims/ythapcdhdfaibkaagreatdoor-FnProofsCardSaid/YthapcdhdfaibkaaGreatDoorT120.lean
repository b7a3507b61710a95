import Derived.Test.YthapcdhdfaibkaaGreatDoorHq
section
namespace Go.Proofs.YthapcdhdfaibkaaGreatDoor
open Go.RowKit
set_option linter.unusedVariables false
section
variable {n : Nat} {w0 : World} {L0 : List Nat} {fr : Fr} {H R : List HP} {G : Act → World → Prop} {α : Type} {E : Enc α} {e : TypeId} {a : Option Addr} {m c : Nat} {xs : List α}
theorem a4S {j : Nat} {ce : List Value} {x x' : α} {A : List HP} (hO : Own A E ce x') (hj : j = xs.length) (hH : H = hole e E a m c (xs ++ [x]) j ce :: (A ++ R)) (h : Ent n w0 L0 fr (ow (Enc.sl e E) [.slice a m c] (xs ++ [x']) :: R) G) : Ent n w0 L0 fr H G :=
  a2H hO hH (by subst hj; simpa using h)
end
section
variable {P : Program} {Q : Exit → Act → World → Prop} {n : Nat} {w0 : World} {L0 : List Nat} {fr : Fr} {H R pre : List HP} {d : Nat} {ty : TypeId} {pos : String} {af : Array Edge} {g : Option (Nat × Bool)}
theorem a7o {α : Type} {E : Enc α} {T e e2 : TypeId} {agg : Bool} {k m c : Nat} {z : List Value} {by' : Nat} {x y : Operand} {ad a2 : Option Addr} {c2 : Nat} {xs : List α} {ce : List Value} {ex : α} (hT : P.underlying T = some (.slice e)) (ht : TyOk P e agg k z by') (hk : k = E.k)
    (hx : ev fr x = some (.slice ad m c)) (hy : ev fr y = some (.slice a2 1 c2)) (hl : ce.length = E.k) (h1 : ce.all (·.oneCell') = true) (hH : H = ow (Enc.sl e E) [.slice ad m c] xs :: row e2 k a2 1 c2 ce :: R) (h63 : m + 1 ≤ 9223372036854775807) (hbytes : (m + 1) * by' ≤ 140737488355328) (hd : d < n) :
    Nop P Q n w0 L0 fr H ⟨some d, .call ⟨.builtin .append, #[x, y], #[T, T]⟩, ty, pos, af, g⟩ false (κ := Option Addr × Nat) (fun p => (d, .slice p.1 (m + 1) p.2) :: fr) (fun p => hole e E p.1 (m + 1) p.2 (xs ++ [ex]) m ce :: R) (fun _ => True) := fun K hK a w ha hw => by
  subst hk; subst hH
  have hw' := hw
  obtain ⟨L, ⟨Lo, Lq, rfl, ho, Ls, LR, rfl, hs, hR⟩, hn, hst⟩ := hw'
  obtain ⟨ccs, L1, L2, rfl, g1, g2, g3, g4⟩ := a1L ho
  have hsrc : (1 = 0 ∧ ce = []) ∨ ∃ b o, a2 = some ⟨b, o, none⟩ ∧ K0 w b o ce := by
    obtain ⟨L', h0, h1⟩ := hw.mem (mS m0)
    rcases h1 with ⟨_, h2, _⟩ | ⟨g', cur, h2, h3, h4, h5, h6, h7, _⟩
    · cases h2
    · exact .inr ⟨g', 0, h2, Has.row h2 (mS m0) w hw⟩
  obtain ⟨a', c', w', L1', r1, r2, r3, r4, -⟩ := a2h (P := P) (ty := ty) (c2 := c2) hT ht E.pos g4 hsrc (by rw [hl, Nat.one_mul]) (a8P h1) h63 hbytes
  have hnn : ((L1 ++ L2) ++ LR).Nodup := by
    simp only [List.nodup_append] at hn ⊢
    exact ⟨hn.1, hn.2.1.2.1, fun a ha b hb e => hn.2.2 a ha b (by simp [hb]) e⟩
  have hst' : Step w0 L0 w ((L1 ++ L2) ++ LR) := hst.sublist fun b hb => by
    simp only [List.mem_append] at hb ⊢
    rcases hb with (hb | hb) | hb
    · exact .inl (.inl hb)
    · exact .inl (.inr hb)
    · exact .inr (.inr hb)
  have hlt : ∀ b ∈ L2, b < w.heap.size := g3.inh
  obtain ⟨d1, d2, d3⟩ := (Step.refl w (L1 ++ L2)).call (List.nodup_append.1 hnn).1 hlt r4 r3
  have hhole : (hole e E a' (m + 1) c' (xs ++ [ex]) m ce).holds w' (L1' ++ L2) := by
    refine ⟨ccs, [], L1', L2, [], by simp, by simp [g1], h63, by simp [g1], hl, a8P h1, ?_, ?_, by simpa using r2⟩
    · rw [g1, List.take_left]; exact g3.stable d3
    · rw [g1, List.drop_eq_nil_of_le (by simp)]; exact ⟨rfl, rfl⟩
  obtain ⟨k1, k2, k3⟩ := hst'.call hnn hR.inh d1 d2
  have hrun : (execOp a.eval ⟨some d, .call ⟨.builtin .append, #[x, y], #[T, T]⟩, ty, pos, af, g⟩).run P w = .ok (.value (.slice a' (m + 1) c')) w' := by
    simp only [execOp, resolve, ha.ev hx, ha.ev hy, List.map_toArray, List.map_cons, List.map_nil, Sem.run_bind, Sem.run_pure, Result.andThen_ok, invoke, builtin, r1]
  rw [Oper.wp, hrun]
  exact hK (a', c') trivial w _ _ (ha.put hd _) ⟨_, ⟨_, LR, rfl, hhole, hR.stable k3⟩, k2, k1⟩ (by simp)
theorem Y.nil {x : Operand} {ad : Addr} (hx : ev fr x = some (.pointer (some ad))) : Yp P n fr (.nilCheck x) (.pointer (some ad)) := fun a h w' d t p af g => by
  simp [execOp, h.ev hx]
end
end Go.Proofs.YthapcdhdfaibkaaGreatDoor
end
section
namespace Go.Proofs.YthapcdhdfaibkaaGreatDoor
open Go.RowKit
set_option linter.all false
set_option maxHeartbeats 2000000
attribute [local irreducible] Nop Yd Yp Ent Has Tr FnP FnP2 Src o2 c8 N0 a0b E6
variable {n : Int} {s : List Int} {b_c m_b c_b m_s c_s : Nat} {a_b a_s : Option Addr}
theorem b0T {a_code : Option Addr} {m_code c_code : Nat} {code : List UInt8} (hcl : code.length ≤ 1048576) : Tr Tryz.prog 66 [.slice a_code m_code c_code] (fun w L => Ro w L Y6 [.slice a_code m_code c_code] code) [] (κ := Nat) (fun k => True) (fun k => .pointer (some ⟨k, 0, none⟩)) (fun k => [cur k a_code m_code c_code]) := by
 refine Tr.intro Tryz.func66 rfl (n := 32) rfl (by decide +kernel) bl (fr := [(0, .slice a_code m_code c_code)]) rfl fun w L hR => ?_
 have hcode := hR
 obtain ⟨rfl, lcode⟩ := hcode.slen
 refine Ew Z1 (Ei rfl (Ev Z4 (Em rfl (Ey rfl ((Y.len us_U8s rfl).yd) (Ey rfl ((Y.add rfl rfl om om).yd) (Ei rfl (Eu (Eq_ (Ew Z1 (Ei rfl (Eu (E.block (E.loop (κ := Nat × Int) (fun g => g.1 ≤ code.length ∧ 0 ≤ g.2 ∧ g.2 ≤ 2000000000) (fun g => [(0, .slice a_code code.length c_code), (3, .int .i64 g.2), (4, .int .i64 (↑g.1 : Int))]) (fun g => []) (fun g => code.length - g.1) (0, (10101 + (↑code.length : Int))) ⟨Nat.zero_le _, by omega⟩ ⟨rfl, rfl, rfl, trivial⟩ (.refl _) (fun g pg => ?_))))))))))))))
 obtain ⟨g, hh⟩ := g
 try dsimp only at pg
 try dsimp only
 obtain ⟨pk, pa⟩ := pg
 refine Eq_ (Ew Z8 (Em rfl (Em rfl (Ey rfl ((Y.len us_U8s rfl).yd) (Ey rfl ((Y.lss rfl rfl).yd) (o3 (fun q11 => ?_) (fun q11 => ?_)))))))
 ·refine Em rfl (Em rfl (Ey rfl ((Y.lss rfl rfl).yd) (o3 (fun q14 => ?_) (fun q14 => ?_))))
  ·refine Ey rfl ((t8 rfl rfl).yd) (Eu (n8 rfl (i7 (Et (Eq_ (E.block (Ez Z11 (Em rfl (Ey rfl ((a9c rfl rfl om).yd) (Em rfl (Em rfl ?_)))))))))))
   obtain ⟨eb22, eo22, ea22, eh22⟩ := hcode.elemU g om
   have u822 : 0 ≤ (↑code[g].toNat : Int) ∧ (↑code[g].toNat : Int) ≤ 255 := ub8
   refine Ey rfl ((v8 us_U8s a7l rfl ea22 rfl g rfl om).yd) (Ey rfl (g9 a7l rfl (eh22 _) rfl) (Ey rfl ((b6k a7k b3a rfl om).yd) (Ey rfl ((Y.add rfl rfl om om).yd) (Ey rfl ((Y.add rfl rfl om om).yd) (Ey rfl ((Y.and rfl rfl).yd) (Ei rfl (En (s9 (Et (Ez Z3 (Em rfl (Ey rfl ((Y.add rfl rfl om om).yd) (Ei rfl ?_)))))))))))))
   exact Eu (x6 br (g + 1, (a0I (((hh * 131) + (↑code[g].toNat : Int)) + 7) 1073741823)) rs (.refl _) ⟨oz, (show 0 ≤ (a0I (((hh * 131) + (↑code[g].toNat : Int)) + 7) 1073741823) ∧ (a0I (((hh * 131) + (↑code[g].toNat : Int)) + 7) 1073741823) ≤ 2000000000 from by exact ⟨b6a.1, by have := (b6a (a := hh * 131 + (↑code[g].toNat : Int) + 7)).2; omega⟩)⟩ oz)
  ·refine Ey rfl ((t8 rfl rfl).yd) (Eu (o0 rfl (E.exit (q1 (q1 (y4 (Et (Ew Z5 (Em rfl (Em rfl (Ey rfl ((I2 (pvs := [_, _]) (cs := [_, _, _]) ty_l1Cur pl_l1Cur rfl rfl).yd) (Est rfl (N.box (cs := [_, _, _]) rfl dc rfl) (fun b31 _ => (Ei rfl (Eu (E.ret (Ent.curC om (by unfold I64; omega) ?_)))))))))))))))))
   exact Fg rfl rfl b31 rfl rfl
 ·refine Em rfl (Es rfl (Es rfl (Ey rfl ((t7 rfl rfl).yd) (Eu (o0 rfl (E.exit (q1 (q1 (y4 (Et (Ew Z5 (Em rfl (Em rfl (Ey rfl ((I2 (pvs := [_, _]) (cs := [_, _, _]) ty_l1Cur pl_l1Cur rfl rfl).yd) (Est rfl (N.box (cs := [_, _, _]) rfl dc rfl) (fun b31 _ => (Ei rfl (Eu (E.ret (Ent.curC om (by unfold I64; omega) ?_))))))))))))))))))))
  exact Fg rfl rfl b31 rfl rfl
theorem a1w {bs : List UInt8} : Tr Tryz.prog 223 [.pointer (some ⟨b_c, 0, none⟩)] (fun w L => Ro w L Y6 [.slice a_b m_b c_b] bs) [cur b_c a_b m_b c_b] (κ := Int) (fun k => 0 ≤ k ∧ k ≤ 255) (fun k => .int .i64 k) (fun k => [cur b_c a_b m_b c_b]) := by
 refine Tr.intro Tryz.func223 rfl (n := 58) rfl (by decide +kernel) bl (fr := [(0, .pointer (some ⟨b_c, 0, none⟩))]) rfl fun w L hR => ?_
 have hbs := hR
 obtain ⟨rfl, lb⟩ := hbs.slen
 refine Ent.curO fun ci ch hci hch => (Ew Z1 (Ei rfl (Ev Z10 (Em rfl (Em rfl (Ey rfl ((Y.nil rfl).yd) (Ey rfl ((f5 fo_l1Cur_2 f9 dc rfl).yd) (Ey rfl (g9 f9 rfl (Hz m0 2 rfl) rfl) (Ey rfl ((b4O rfl rfl).yd) (Ey rfl ((b8c rfl rfl).yd) (Ey rfl ((Y.nil rfl).yd) (Ey rfl ((f5 fo_l1Cur_2 f9 dc rfl).yd) (Est rfl (Ns [_, _, _] f9 rfl) (fun _ _ => (Eu (Eq_ (D.region (fun j => true) mixed (Dyp 0 rfl (i8 rfl) (Dyp 1 rfl (Y.nil rfl) (Dyp 2 rfl (f5 fo_l1Cur_2 f9 dc rfl) (Dy 3 rfl (g9 f9 rfl (Hz m0 2 rfl) rfl) (Dyp 4 rfl (b4K rfl rfl om om) (Dyp 5 rfl (i8 rfl) (Dyp 6 rfl (Y.nil rfl) (Dyp 7 rfl (f5 fo_l1Cur_2 f9 dc rfl) (Dy 8 rfl (g9 f9 rfl (Hz m0 2 rfl) rfl) (Dyp 9 rfl (b4K rfl rfl om om) (Dyp 10 rfl (Y.xor rfl rfl) (Dyp 11 rfl (Y.and rfl rfl) (Dyp 12 rfl (C2 rfl) (r9 kr (Et (Eq_ (Eq_ (D.region (fun j => true) mixed (Dyp 0 rfl (i8 rfl) (Dyp 1 rfl (Y.nil rfl) (Dyp 2 rfl (f5 fo_l1Cur_1 f9 dc rfl) (Dy 3 rfl (g9 f9 rfl (Hz m0 1 rfl) rfl) (Dyp 4 rfl (i8 rfl) (Dyp 5 rfl (Y.nil rfl) (Dyp 6 rfl (f5 fo_l1Cur_0 ty_U8s dc rfl) (Dy 7 rfl (g9 ty_U8s rfl (Hz m0 0 rfl) rfl) (Dyp 8 rfl (Y.len us_U8s rfl) (Dyp 9 rfl (Y.lss rfl rfl) (o3 (fun q34 => ?_) (fun q34 => ?_)))))))))))))))))))))))))))))))))))))))))))))))
 ·refine r9 kr (Et (n8 rfl (Eq_ (D.region (fun j => true) mixed (Dyp 0 rfl (i8 rfl) (Dyp 1 rfl (i8 rfl) (Dyp 2 rfl (Y.nil rfl) (Dyp 3 rfl (f5 fo_l1Cur_0 ty_U8s dc rfl) (Dy 4 rfl (g9 ty_U8s rfl (Hz m0 0 rfl) rfl) (Dyp 5 rfl (i8 rfl) (Dyp 6 rfl (Y.nil rfl) (Dyp 7 rfl (f5 fo_l1Cur_1 f9 dc rfl) (Dy 8 rfl (g9 f9 rfl (Hz m0 1 rfl) rfl) ?_)))))))))))))
  obtain ⟨eb44, eo44, ea44, eh44⟩ := hbs.elemU ci.toNat om
  have u844 : 0 ≤ (↑bs[ci.toNat].toNat : Int) ∧ (↑bs[ci.toNat].toNat : Int) ≤ 255 := ub8
  refine Dyp 9 rfl (v8 us_U8s a7l rfl ea44 rfl ci.toNat om om) (Dy 10 rfl (g9 a7l rfl (eh44 _) rfl) (Dyp 11 rfl (b6k a7k b3a rfl om) ?_))
  have ja : 0 ≤ (a0I (a4W ((IntKind.i64.wrap ((IntKind.i64.wrap (ch * 6364136223846793005)) + 1442695040888963407)) / 2 ^ (33 : Int).toNat) ((IntKind.i64.wrap ((IntKind.i64.wrap (ch * 6364136223846793005)) + 1442695040888963407)) / 2 ^ (45 : Int).toNat)) 255) ∧ (a0I (a4W ((IntKind.i64.wrap ((IntKind.i64.wrap (ch * 6364136223846793005)) + 1442695040888963407)) / 2 ^ (33 : Int).toNat) ((IntKind.i64.wrap ((IntKind.i64.wrap (ch * 6364136223846793005)) + 1442695040888963407)) / 2 ^ (45 : Int).toNat)) 255) ≤ 255 := b1E
  refine Dyp 12 rfl (Y.add rfl rfl om om) (Dyp 13 rfl (Y.and rfl rfl) (Dyp 14 rfl (C2 rfl) (r9 kr (Et (Ez Z9 (Em rfl (Em rfl (Ey rfl ((Y.nil rfl).yd) (Ey rfl ((f5 fo_l1Cur_1 f9 dc rfl).yd) (Ey rfl (g9 f9 rfl (Hz m0 1 rfl) rfl) (Ey rfl ((Y.add rfl rfl om om).yd) (Ey rfl ((Y.nil rfl).yd) (Ey rfl ((f5 fo_l1Cur_1 f9 dc rfl).yd) (Est rfl (Ns [_, _, _] f9 rfl) (fun _ _ => (Ev Z2 (Em rfl (Ei rfl (Eu (E.ret (Ent.curC om (by first | exact b1u _ | assumption) ?_)))))))))))))))))))))
  exact F.r1 br rfl rfl (a0I ((a0I (a4W ((IntKind.i64.wrap ((IntKind.i64.wrap (ch * 6364136223846793005)) + 1442695040888963407)) / 2 ^ (33 : Int).toNat) ((IntKind.i64.wrap ((IntKind.i64.wrap (ch * 6364136223846793005)) + 1442695040888963407)) / 2 ^ (45 : Int).toNat)) 255) + (↑bs[ci.toNat].toNat : Int)) 255) (show 0 ≤ (a0I ((a0I (a4W ((IntKind.i64.wrap ((IntKind.i64.wrap (ch * 6364136223846793005)) + 1442695040888963407)) / 2 ^ (33 : Int).toNat) ((IntKind.i64.wrap ((IntKind.i64.wrap (ch * 6364136223846793005)) + 1442695040888963407)) / 2 ^ (45 : Int).toNat)) 255) + (↑bs[ci.toNat].toNat : Int)) 255) ∧ (a0I ((a0I (a4W ((IntKind.i64.wrap ((IntKind.i64.wrap (ch * 6364136223846793005)) + 1442695040888963407)) / 2 ^ (33 : Int).toNat) ((IntKind.i64.wrap ((IntKind.i64.wrap (ch * 6364136223846793005)) + 1442695040888963407)) / 2 ^ (45 : Int).toNat)) 255) + (↑bs[ci.toNat].toNat : Int)) 255) ≤ 255 from by exact b1E) rfl (J := _) (.refl _) (.inl rfl)
 ·refine r9 kr (Et (o0 rfl (i7 (Et (Ew Z2 (Em rfl (Ei rfl (Eu (E.ret (Ent.curC om (by first | exact b1u _ | assumption) ?_))))))))))
  exact F.r1 br rfl rfl (a0I (a4W ((IntKind.i64.wrap ((IntKind.i64.wrap (ch * 6364136223846793005)) + 1442695040888963407)) / 2 ^ (33 : Int).toNat) ((IntKind.i64.wrap ((IntKind.i64.wrap (ch * 6364136223846793005)) + 1442695040888963407)) / 2 ^ (45 : Int).toNat)) 255) (show 0 ≤ (a0I (a4W ((IntKind.i64.wrap ((IntKind.i64.wrap (ch * 6364136223846793005)) + 1442695040888963407)) / 2 ^ (33 : Int).toNat) ((IntKind.i64.wrap ((IntKind.i64.wrap (ch * 6364136223846793005)) + 1442695040888963407)) / 2 ^ (45 : Int).toNat)) 255) ∧ (a0I (a4W ((IntKind.i64.wrap ((IntKind.i64.wrap (ch * 6364136223846793005)) + 1442695040888963407)) / 2 ^ (33 : Int).toNat) ((IntKind.i64.wrap ((IntKind.i64.wrap (ch * 6364136223846793005)) + 1442695040888963407)) / 2 ^ (45 : Int).toNat)) 255) ≤ 255 from by exact b1E) rfl (J := _) (.refl _) (.inl rfl)
theorem y7 {bs : List UInt8} : Tr Tryz.prog 112 [.pointer (some ⟨b_c, 0, none⟩), .int .i64 n] (fun w L => Ro w L Y6 [.slice a_b m_b c_b] bs) [cur b_c a_b m_b c_b] (κ := Int) (fun k => 0 ≤ k ∧ (n ≤ 0 → k = 0) ∧ (0 < n → k < n)) (fun k => .int .i64 k) (fun k => [cur b_c a_b m_b c_b]) := by
 refine Tr.intro Tryz.func112 rfl (n := 37) rfl (by decide +kernel) bl (fr := [(0, .pointer (some ⟨b_c, 0, none⟩)), (1, .int .i64 n)]) rfl fun w L hR => ?_
 have hbs := hR
 obtain ⟨rfl, lb⟩ := hbs.slen
 refine Ew Z1 (Ei rfl (Eu (Eq_ (Ew Z2 (Em rfl (Ey rfl ((Y.leq rfl rfl).yd) (o3 (fun q10 => ?_) (fun q10 => ?_))))))))
 ·refine Eu (n8 rfl (Ew Z1 (Ei rfl ?_)))
  exact Eu (E.ret (n0 (F.r1 br rfl rfl 0 (show 0 ≤ (0 : Int) ∧ (n ≤ 0 → (0 : Int) = 0) ∧ (0 < n → (0 : Int) < n) from by first | omega | exact a9p om) rfl (J := _) (.refl _) (.inl rfl))))
 ·refine Eu (o0 rfl (i7 (Et (Eq_ (Ew Z2 (Em rfl (Ey rfl ((Y.leq rfl rfl).yd) (o3 (fun q12 => ?_) (fun q12 => ?_)))))))))
  ·refine Eu (n8 rfl (Ew Z5 (Em rfl (Est rfl (N.call (pre := [_]) a1w rfl rfl rfl dc rfl (fun w Lp hA => hA.ro hbs)) (fun x14 o14 => ?_)))))
   replace o14 : 0 ≤ x14 ∧ x14 ≤ 255 := o14
   try (conv => arg 5; dsimp only [List.cons_append, List.nil_append, List.append_nil])
   refine Em rfl (Ey rfl ((b1R rfl rfl om om).yd) (Ei rfl ?_))
   exact Eu (E.ret (n0 (F.r1 br rfl rfl (x14 % n) (show 0 ≤ (x14 % n) ∧ (n ≤ 0 → (x14 % n) = 0) ∧ (0 < n → (x14 % n) < n) from by first | omega | exact a9p om) rfl (J := _) (.refl _) (.inl rfl))))
  ·refine Eu (o0 rfl (i7 (Et (Ew Z3 (Em rfl (Est rfl (N.call (pre := [_]) a1w rfl rfl rfl dc rfl (fun w Lp hA => hA.ro hbs)) (fun x18 o18 => ?_)))))))
   replace o18 : 0 ≤ x18 ∧ x18 ≤ 255 := o18
   try (conv => arg 5; dsimp only [List.cons_append, List.nil_append, List.append_nil])
   refine Ei rfl (Ev Z3 (Em rfl (Est rfl (N.call (pre := [_]) a1w rfl rfl rfl dc rfl (fun w Lp hA => hA.ro hbs)) (fun x20 o20 => ?_))))
   replace o20 : 0 ≤ x20 ∧ x20 ≤ 255 := o20
   try (conv => arg 5; dsimp only [List.cons_append, List.nil_append, List.append_nil])
   refine Ei rfl (Ev Z3 (Em rfl (Est rfl (N.call (pre := [_]) a1w rfl rfl rfl dc rfl (fun w Lp hA => hA.ro hbs)) (fun x22 o22 => ?_))))
   replace o22 : 0 ≤ x22 ∧ x22 ≤ 255 := o22
   try (conv => arg 5; dsimp only [List.cons_append, List.nil_append, List.append_nil])
   refine Ei rfl (Ev Z3 (Em rfl (Est rfl (N.call (pre := [_]) a1w rfl rfl rfl dc rfl (fun w Lp hA => hA.ro hbs)) (fun x24 o24 => ?_))))
   replace o24 : 0 ≤ x24 ∧ x24 ≤ 255 := o24
   try (conv => arg 5; dsimp only [List.cons_append, List.nil_append, List.append_nil])
   refine Ei rfl (Ev Z13 (Em rfl (Ey rfl ((a9c rfl rfl om).yd) (Em rfl (Ey rfl ((a9c rfl rfl om).yd) (Ey rfl ((Y.add rfl rfl om om).yd) (Em rfl (Ey rfl ((a9c rfl rfl om).yd) (Ey rfl ((Y.add rfl rfl om om).yd) (Em rfl (Ey rfl ((Y.add rfl rfl om om).yd) (Em rfl (Ey rfl ((b1R rfl rfl om om).yd) (Ei rfl ?_))))))))))))))
   exact Eu (E.ret (F.r1 br rfl rfl (((((x18 * 16777216) + (x20 * 65536)) + (x22 * 256)) + x24) % n) (show 0 ≤ (((((x18 * 16777216) + (x20 * 65536)) + (x22 * 256)) + x24) % n) ∧ (n ≤ 0 → (((((x18 * 16777216) + (x20 * 65536)) + (x22 * 256)) + x24) % n) = 0) ∧ (0 < n → (((((x18 * 16777216) + (x20 * 65536)) + (x22 * 256)) + x24) % n) < n) from by first | omega | exact a9p om) rfl (J := _) (.refl _) (.inl rfl)))
theorem P4 {bs : List UInt8} : Tr Tryz.prog 113 [.pointer (some ⟨b_c, 0, none⟩), .int .i64 n] (fun w L => Ro w L Y6 [.slice a_b m_b c_b] bs) [cur b_c a_b m_b c_b] (κ := Bool) (fun k => True) (fun k => .bool k) (fun k => [cur b_c a_b m_b c_b]) := by
 refine Tr.intro Tryz.func113 rfl (n := 9) rfl (by decide +kernel) bl (fr := [(0, .pointer (some ⟨b_c, 0, none⟩)), (1, .int .i64 n)]) rfl fun w L hR => ?_
 have hbs := hR
 obtain ⟨rfl, lb⟩ := hbs.slen
 refine Ew Z1 (Ei rfl (Ev Z5 (Em rfl (Em rfl (Est rfl (N.call (pre := [_]) y7 rfl rfl rfl dc rfl (fun w Lp hA => hA.ro hbs)) (fun x7 o7 => ?_))))))
 replace o7 : 0 ≤ x7 ∧ (n ≤ 0 → x7 = 0) ∧ (0 < n → x7 < n) := o7
 try (conv => arg 5; dsimp only [List.cons_append, List.nil_append, List.append_nil])
 refine Ey rfl ((Y.eql rfl rfl).yd) (Ei rfl ?_)
 exact Eu (E.ret (F.r1 br rfl rfl (decide (x7 = 0)) (show True from by trivial) rfl (J := _) (.refl _) (.inl rfl)))
theorem J3 {a_list : Option Addr} {m_list c_list : Nat} {list : List Int} {bs : List UInt8} (hl : 0 < list.length) : Tr Tryz.prog 290 [.pointer (some ⟨b_c, 0, none⟩), .slice a_list m_list c_list] (fun w L => Ro w L eIs [.slice a_list m_list c_list] list ∧ Ro w L Y6 [.slice a_b m_b c_b] bs) [cur b_c a_b m_b c_b] (κ := Int) (fun k => k ∈ list) (fun k => .int .i64 k) (fun k => [cur b_c a_b m_b c_b]) := by
 refine Tr.intro Tryz.func290 rfl (n := 12) rfl (by decide +kernel) bl (fr := [(0, .pointer (some ⟨b_c, 0, none⟩)), (1, .slice a_list m_list c_list)]) rfl fun w L hR => ?_
 obtain ⟨hlist, hbs⟩ := hR
 obtain ⟨rfl, llist⟩ := hlist.slen
 obtain ⟨rfl, lb⟩ := hbs.slen
 refine Ew Z1 (Ei rfl (Ev Z8 (Em rfl (Em rfl (Em rfl (Ey rfl ((Y.len us_Is rfl).yd) (Est rfl (N.call (pre := [_]) y7 rfl rfl rfl dc rfl (fun w Lp hA => hA.ro hbs)) (fun x9 o9 => ?_))))))))
 replace o9 : 0 ≤ x9 ∧ ((↑list.length : Int) ≤ 0 → x9 = 0) ∧ (0 < (↑list.length : Int) → x9 < (↑list.length : Int)) := o9
 try (conv => arg 5; dsimp only [List.cons_append, List.nil_append, List.append_nil])
 obtain ⟨eb10, eo10, ea10, ei10, eh10⟩ := hlist.elemI x9.toNat om
 refine Ey rfl ((v8 us_Is f9 rfl ea10 rfl x9.toNat om om).yd) (Ey rfl (g9 f9 rfl (eh10 _) rfl) (Ei rfl ?_))
 exact Eu (E.ret (F.r1 br rfl rfl list[x9.toNat] (show list[x9.toNat] ∈ list from by exact List.getElem_mem _) rfl (J := _) (.refl _) (.inl rfl)))
theorem a4I {bs : List UInt8} : Tr Tryz.prog 284 [.pointer (some ⟨b_c, 0, none⟩)] (fun w L => Ro w L Y6 [.slice a_b m_b c_b] bs) [cur b_c a_b m_b c_b] (κ := (List Int) × Option Addr × Nat × Nat) (fun k => 1 ≤ k.1.length ∧ k.1.length ≤ 3 ∧ ∀ z ∈ k.1, 1 ≤ z ∧ z ≤ 3) (fun k => .slice k.2.1 k.2.2.1 k.2.2.2) (fun k => [ow eIs [.slice k.2.1 k.2.2.1 k.2.2.2] k.1, cur b_c a_b m_b c_b]) := by
 refine Tr.intro Tryz.func284 rfl (n := 24) rfl (by decide +kernel) bl (fr := [(0, .pointer (some ⟨b_c, 0, none⟩))]) rfl fun w L hR => ?_
 have hbs := hR
 obtain ⟨rfl, lb⟩ := hbs.slen
 refine Ew Z1 (Ei rfl (Ev Z2 (Est rfl (Nb [] [] us_Is f9 rfl rfl) (fun b6 _ => (Ent.drop (Ei rfl (Eu (Eq_ (Ew Z4 (Em rfl (Est rfl (N.call (pre := [_]) y7 rfl rfl rfl dc rfl (fun w Lp hA => hA.ro hbs)) (fun x8 o8 => ?_))))))))))))
 replace o8 : 0 ≤ x8 ∧ ((3 : Int) ≤ 0 → x8 = 0) ∧ (0 < (3 : Int) → x8 < (3 : Int)) := o8
 try (conv => arg 5; dsimp only [List.cons_append, List.nil_append, List.append_nil])
 refine Ey rfl ((Y.add rfl rfl om om).yd) (Ei rfl (Eu (E.block (u9 (A := []) (Own.nil (E := Enc.int) (e := tI) (a := (some ⟨b6, 0, none⟩))) rfl (E.loop (κ := Nat × (List Int) × Option Addr × Nat × Nat) (fun g => g.1 ≤ (1 + x8).toNat ∧ g.2.1.length = g.1 ∧ ∀ z ∈ g.2.1, 1 ≤ z ∧ z ≤ 3) (fun g => [(0, .pointer (some ⟨b_c, 0, none⟩)), (3, .slice g.2.2.1 g.2.2.2.1 g.2.2.2.2), (4, .int .i64 (1 + x8 - (↑g.1 : Int)))]) (fun g => [ow eIs [.slice g.2.2.1 g.2.2.2.1 g.2.2.2.2] g.2.1, cur b_c a_b bs.length c_b]) (fun g => (1 + x8).toNat - g.1) (0, [], (some ⟨b6, 0, none⟩), 0, 0) ⟨Nat.zero_le _, by simp⟩ ⟨rfl, rfl, frI om, trivial⟩ (.refl _) (fun g pg => ?_))))))
 obtain ⟨g, ys, aA0_0, mA0_0, cA0_0⟩ := g
 try dsimp only at pg
 try dsimp only
 obtain ⟨pk, pa⟩ := pg
 refine d7 m0 fun eaA0_0 laA0_0 => ?_
 subst eaA0_0
 refine Eq_ (Ew Z2 (Em rfl (Ey rfl ((Y.gtr rfl rfl).yd) (o3 (fun q11 => ?_) (fun q11 => ?_)))))
 ·refine Eu (n8 rfl (i7 (Et (Eq_ (E.block (Ew Z4 (Em rfl (d9 (Est rfl (N.call (pre := [_]) y7 rfl rfl rfl dc rfl (fun w Lp hA => hA.ro hbs)) (fun x15 o15 => ?_))))))))))
  replace o15 : 0 ≤ x15 ∧ ((2 : Int) ≤ 0 → x15 = 0) ∧ (0 < (2 : Int) → x15 < (2 : Int)) := o15
  try (conv => arg 5; dsimp only [List.cons_append, List.nil_append, List.append_nil])
  refine Ey rfl ((Y.add rfl rfl om om).yd) (Ei rfl (Eu (Eq_ (Ew Z2 (Em rfl (Est rfl (N.call (pre := [_]) P4 rfl rfl rfl dc rfl (fun w Lp hA => hA.ro hbs)) (fun o18 o18 => ?_)))))))
  replace o18 : True := o18
  try (conv => arg 5; dsimp only [List.cons_append, List.nil_append, List.append_nil])
  refine Ent.b (fun q18 => ?_) (fun q18 => ?_)
  ·refine Eu (n8 rfl (Ez Z1 (Ei rfl (Eu (Ez Z5 (Em rfl (Em rfl (Est rfl (Nb [_] [_] us_Is f9 rfl rfl) (fun b21 _ => (j8 (Est rfl (C7 (E := Enc.int) (ex := 3) us_Is f9 rfl rfl rfl (Own.int i6) rfl bn bn dc) (fun p22 _ => (Ei rfl (En (s9 (Et (Ez Z3 (Em rfl (Ey rfl ((Y.sub rfl rfl om om).yd) (Ei rfl (Eu (d9 (d9 ?_)))))))))))))))))))))))
   exact x6 br (g + 1, ys ++ [3], p22.1, ((ys).length + 1), p22.2) ⟨rfl, rfl, frI om, trivial⟩ (.refl _) ⟨oz, (show (ys ++ [3]).length = (g + 1) ∧ ∀ z ∈ (ys ++ [3]), 1 ≤ z ∧ z ≤ 3 from by exact b1C pa om)⟩ oz
  ·refine Eu (o0 rfl (i7 (Et (Ez Z5 (Em rfl (Em rfl (Est rfl (Nb [_] [_] us_Is f9 rfl rfl) (fun b21 _ => (j8 (Est rfl (C7 (E := Enc.int) (ex := (1 + x15)) us_Is f9 rfl rfl rfl (Own.int i6) rfl bn bn dc) (fun p22 _ => (Ei rfl (En (s9 (Et (Ez Z3 (Em rfl (Ey rfl ((Y.sub rfl rfl om om).yd) (Ei rfl (Eu (d9 (d9 ?_))))))))))))))))))))))
   exact x6 br (g + 1, ys ++ [(1 + x15)], p22.1, ((ys).length + 1), p22.2) ⟨rfl, rfl, frI om, trivial⟩ (.refl _) ⟨oz, (show (ys ++ [(1 + x15)]).length = (g + 1) ∧ ∀ z ∈ (ys ++ [(1 + x15)]), 1 ≤ z ∧ z ≤ 3 from by exact b1C pa om)⟩ oz
 ·refine Eu (o0 rfl (E.exit (q1 (q1 (y4 (Et (Ew Z2 (Em rfl (Ei rfl (Eu (E.ret (d9 (d9 ?_)))))))))))))
  exact F.r1 br rfl rfl (ys, (_, _, _)) (show 1 ≤ ys.length ∧ ys.length ≤ 3 ∧ ∀ z ∈ ys, 1 ≤ z ∧ z ≤ 3 from by exact b6J pa om om) rfl (J := _) (.refl _) (.inl rfl)
theorem a6H {bs : List UInt8} : Tr Tryz.prog 288 [.pointer (some ⟨b_c, 0, none⟩)] (fun w L => Ro w L Y6 [.slice a_b m_b c_b] bs) [cur b_c a_b m_b c_b] (κ := (List Int) × Option Addr × Nat × Nat) (fun k => 1 ≤ k.1.length ∧ k.1.length ≤ 4) (fun k => .slice k.2.1 k.2.2.1 k.2.2.2) (fun k => [ow eIs [.slice k.2.1 k.2.2.1 k.2.2.2] k.1, cur b_c a_b m_b c_b]) := by
 refine Tr.intro Tryz.func288 rfl (n := 15) rfl (by decide +kernel) bl (fr := [(0, .pointer (some ⟨b_c, 0, none⟩))]) rfl fun w L hR => ?_
 have hbs := hR
 obtain ⟨rfl, lb⟩ := hbs.slen
 refine Ew Z1 (Ei rfl (Ev Z3 (Em rfl (Est rfl (N.call (pre := [_]) a4I rfl rfl rfl dc rfl (fun w Lp hA => hA.ro hbs)) (fun k5 o5 => ?_)))))
 obtain ⟨xs5, ⟨a5, m5, c5⟩⟩ := k5
 replace o5 : 1 ≤ xs5.length ∧ xs5.length ≤ 3 ∧ ∀ z ∈ xs5, 1 ≤ z ∧ z ≤ 3 := o5
 try (conv => arg 4; dsimp only)
 try (conv => arg 5; dsimp only [List.cons_append, List.nil_append, List.append_nil])
 refine d7 m0 fun e5 l5 => ?_
 subst e5
 refine Ei rfl (Eu (Eq_ (Ew Z2 (Em rfl (d9 (Est rfl (N.call (pre := [_]) P4 rfl rfl rfl dc rfl (fun w Lp hA => hA.ro hbs)) (fun o7 o7 => ?_)))))))
 replace o7 : True := o7
 try (conv => arg 5; dsimp only [List.cons_append, List.nil_append, List.append_nil])
 refine Ent.b (fun q7 => ?_) (fun q7 => ?_)
 ·refine Eu (n8 rfl (Ez Z7 (Em rfl (Em rfl (Est rfl (Nb [_, _, _] [_, _, _] us_Is f9 rfl rfl) (fun b10 _ => (u9 (A := [_]) (Own.ints (e := tI) (xs := [0, 1, 4]) rfl (by simp [maxLen]) (by simp only [List.forall_mem_cons]; exact ⟨i6, i6, i6, List.forall_mem_nil _⟩)) rfl (d9 (Est rfl (N.call (pre := [_]) (J3 dc) rfl rfl rfl dc rfl (fun w Lp hA => ⟨hA.ow m0, hA.ro hbs⟩)) (fun x11 o11 => ?_))))))))))
  replace o11 : x11 ∈ ([0, 1, 4]) := o11
  try (conv => arg 5; dsimp only [List.cons_append, List.nil_append, List.append_nil])
  have jp : -10 ≤ x11 ∧ x11 ≤ 10 := by simp at o11; omega
  refine Est rfl (Nb [_] [_] us_Is f9 rfl rfl) (fun b12 _ => (o4 (Est rfl (C7 (E := Enc.int) (ex := x11) us_Is f9 rfl rfl rfl (Own.int i6) rfl bn bn dc) (fun p13 _ => (Ei rfl (Ev Z2 (Em rfl (Ei rfl (Eu (E.ret (d9 (d9 ?_))))))))))))
  exact F.r1 br rfl rfl (xs5 ++ [x11], (_, _, _)) (show 1 ≤ (xs5 ++ [x11]).length ∧ (xs5 ++ [x11]).length ≤ 4 from by first | (simp only [List.length_append, List.length_singleton]; omega) | omega) rfl (J := _) (.refl _) (.inl rfl)
 ·refine Eu (o0 rfl (i7 (Et (Ew Z2 (Em rfl (Ei rfl (Eu (E.ret (d9 (d9 (d9 ?_)))))))))))
  exact F.r1 br rfl rfl (xs5, (_, _, _)) (show 1 ≤ xs5.length ∧ xs5.length ≤ 4 from by first | (simp only [List.length_append, List.length_singleton]; omega) | omega) rfl (J := _) (.refl _) (.inl rfl)
theorem b0B {wide : Int} {bs : List UInt8} (h1 : 1 ≤ s.length) (hsz : ∀ z ∈ s, 1 ≤ z ∧ z ≤ 3) (hw : 1 ≤ wide ∧ wide ≤ 100) : Tr Tryz.prog 289 [.pointer (some ⟨b_c, 0, none⟩), .slice a_s m_s c_s, .int .i64 wide] (fun w L => Ro w L eIs [.slice a_s m_s c_s] s ∧ Ro w L Y6 [.slice a_b m_b c_b] bs) [cur b_c a_b m_b c_b] (κ := Int × (List Int) × Option Addr × Nat × Nat) (fun k => (0 ≤ k.1 ∧ k.1 < s.length) ∧ 1 ≤ k.2.1.length ∧ k.2.1.length ≤ 3) (fun k => .agg #[.int .i64 k.1, .slice k.2.2.1 k.2.2.2.1 k.2.2.2.2]) (fun k => [ow eIs [.slice k.2.2.1 k.2.2.2.1 k.2.2.2.2] k.2.1, cur b_c a_b m_b c_b]) := by
 refine Tr.intro Tryz.func289 rfl (n := 34) rfl (by decide +kernel) bl (fr := [(0, .pointer (some ⟨b_c, 0, none⟩)), (1, .slice a_s m_s c_s), (2, .int .i64 wide)]) rfl fun w L hR => ?_
 obtain ⟨hs, hbs⟩ := hR
 obtain ⟨rfl, ls⟩ := hs.slen
 obtain ⟨rfl, lb⟩ := hbs.slen
 refine Ew Z1 (Est rfl (N.alloc ty_Fact dc) (fun b6 _ => (Ev Z7 (Em rfl (Em rfl (Ey rfl ((Y.len us_Is rfl).yd) (d9 (Est rfl (N.call (pre := [_]) y7 rfl rfl rfl dc rfl (fun w Lp hA => hA.ro hbs)) (fun x13 o13 => ?_)))))))))
 replace o13 : 0 ≤ x13 ∧ ((↑s.length : Int) ≤ 0 → x13 = 0) ∧ (0 < (↑s.length : Int) → x13 < (↑s.length : Int)) := o13
 try (conv => arg 5; dsimp only [List.cons_append, List.nil_append, List.append_nil])
 have jx : x13.toNat < s.length := by omega
 have jz := hsz _ (List.getElem_mem jx)
 refine Ey rfl ((I2 (pvs := [_]) (cs := [_, _]) ty_Fact a2j rfl rfl).yd) (Est rfl (N.alloc ty_Fact dc) (fun b7 _ => (Est rfl (Ns [_, _] ty_Fact rfl) (fun _ _ => (Eu (Eq_ (Ew Z1 (Ei rfl (Eu (E.block (u9 (A := []) (Own.nil (E := Enc.int) (e := tI) (a := none)) rfl (E.loop (κ := Nat × (List Int) × Option Addr × Nat × Nat) (fun g => g.1 ≤ s[x13.toNat].toNat ∧ g.2.1.length = g.1) (fun g => [(0, .pointer (some ⟨b_c, 0, none⟩)), (1, .slice a_s s.length c_s), (2, .int .i64 wide), (6, .pointer (some ⟨b6, 0, none⟩)), (7, .pointer (some ⟨b7, 0, none⟩)), (8, .int .i64 (↑g.1 : Int))]) (fun g => [ow eIs [.slice g.2.2.1 g.2.2.2.1 g.2.2.2.2] g.2.1, pt b7 85 [.int .i64 x13, .slice g.2.2.1 g.2.2.2.1 g.2.2.2.2], cur b_c a_b bs.length c_b, pt b6 85 [.int .i64 0, .slice none 0 0]]) (fun g => s[x13.toNat].toNat - g.1) (0, [], none, 0, 0) ⟨Nat.zero_le _, by rfl⟩ ⟨rfl, rfl, rfl, rfl, rfl, rfl, trivial⟩ (.refl _) (fun g pg => ?_)))))))))))))
 obtain ⟨g, ys, aA0_0, mA0_0, cA0_0⟩ := g
 try dsimp only at pg
 try dsimp only
 obtain ⟨pk, pa⟩ := pg
 refine d7 m0 fun eaA0_0 laA0_0 => ?_
 subst eaA0_0
 refine Eq_ (Ew Z7 (Em rfl (Em rfl (Ey rfl ((f5 fo_Fact_0 f9 dc rfl).yd) (Ey rfl (g9 f9 rfl (Hz (mS m0) 0 rfl) rfl) ?_)))))
 obtain ⟨eb19, eo19, ea19, ei19, eh19⟩ := hs.elemI x13.toNat om
 refine Ey rfl ((v8 us_Is f9 rfl ea19 rfl x13.toNat om om).yd) (Ey rfl (g9 f9 rfl (eh19 _) rfl) (Ey rfl ((Y.lss rfl rfl).yd) (o3 (fun q21 => ?_) (fun q21 => ?_))))
 ·refine Eu (n8 rfl (i7 (Et (Eq_ (E.block (Ew Z4 (Em rfl (Em rfl (j8 (Est rfl (N.call (pre := [_]) y7 rfl rfl rfl dc rfl (fun w Lp hA => hA.ro hbs)) (fun x26 o26 => ?_)))))))))))
  replace o26 : 0 ≤ x26 ∧ (wide ≤ 0 → x26 = 0) ∧ (0 < wide → x26 < wide) := o26
  try (conv => arg 5; dsimp only [List.cons_append, List.nil_append, List.append_nil])
  refine Ei rfl (Eu (Ez Z7 (Ey rfl ((f5 fo_Fact_1 ty_Is dc rfl).yd) (Ey rfl (g9 ty_Is rfl (Hz (mS (mS m0)) 1 rfl) rfl) (Em rfl (Est rfl (Nb [_] [_] us_Is f9 rfl rfl) (fun b30 _ => (j8 (Est rfl (C7 (E := Enc.int) (ex := x26) us_Is f9 rfl rfl rfl (Own.int i6) rfl bn bn dc) (fun p31 _ => (Ey rfl ((f5 fo_Fact_1 ty_Is dc rfl).yd) (j8 (Est rfl (Ns [_, _] ty_Is rfl) (fun _ _ => (En (s9 (Et (Ez Z3 (Em rfl (Ey rfl ((Y.add rfl rfl om om).yd) (Ei rfl (Eu (o4 (o4 (j8 (o4 ?_))))))))))))))))))))))))))
  exact Ea (g + 1, ys ++ [x26], p31.1, ((ys).length + 1), p31.2) ⟨oz, (show (ys ++ [x26]).length = (g + 1) from by simp [pa])⟩
 ·refine Eu (o0 rfl (E.exit (q1 (q1 (y4 (Et (Ew Z2 (Ey rfl (o6 (cs := [_, _]) ty_Fact rfl (Has.pt (mS m0)) rfl) (o4 (Est rfl (Ns [_, _] ty_Fact rfl) (fun _ _ => (Eu (E.ret (d9 (o4 (d9 ?_))))))))))))))))
  exact O2 br rfl rfl (mS (mS m0)) ty_Fact rfl (x13, ys, (_, _, _)) (show (0 ≤ x13 ∧ x13 < s.length) ∧ 1 ≤ ys.length ∧ ys.length ≤ 3 from by omega) rfl (J := _) (.refl _) (.inl rfl)
theorem a9o {most : Int} {bs : List UInt8} (h1 : 1 ≤ s.length) (hsz : ∀ z ∈ s, 1 ≤ z ∧ z ≤ 3) (hm : 0 ≤ most ∧ most ≤ 8) : Tr Tryz.prog 185 [.pointer (some ⟨b_c, 0, none⟩), .slice a_s m_s c_s, .int .i64 most] (fun w L => Ro w L eIs [.slice a_s m_s c_s] s ∧ Ro w L Y6 [.slice a_b m_b c_b] bs) [cur b_c a_b m_b c_b] (κ := (List (Int × List Int)) × Option Addr × Nat × Nat) (fun k => (↑k.1.length : Int) ≤ most ∧ ∀ f ∈ k.1, 1 ≤ f.2.length ∧ f.2.length ≤ 3) (fun k => .slice k.2.1 k.2.2.1 k.2.2.2) (fun k => [ow m8 [.slice k.2.1 k.2.2.1 k.2.2.2] k.1, cur b_c a_b m_b c_b]) := by
 refine Tr.intro Tryz.func185 rfl (n := 24) rfl (by decide +kernel) bl (fr := [(0, .pointer (some ⟨b_c, 0, none⟩)), (1, .slice a_s m_s c_s), (2, .int .i64 most)]) rfl fun w L hR => ?_
 obtain ⟨hs, hbs⟩ := hR
 obtain ⟨rfl, ls⟩ := hs.slen
 obtain ⟨rfl, lb⟩ := hbs.slen
 refine Ew Z1 (Ei rfl (Ev Z2 (Est rfl (Nb [] [] us_Facts ty_Fact rfl rfl) (fun b9 _ => (Ent.drop (Ei rfl (Eu (Eq_ (Ew Z5 (Em rfl (Em rfl (Ey rfl ((Y.add rfl rfl om om).yd) (Est rfl (N.call (pre := [_]) y7 rfl rfl rfl dc rfl (fun w Lp hA => hA.ro hbs)) (fun x13 o13 => ?_))))))))))))))
 replace o13 : 0 ≤ x13 ∧ ((most + 1) ≤ 0 → x13 = 0) ∧ (0 < (most + 1) → x13 < (most + 1)) := o13
 try (conv => arg 5; dsimp only [List.cons_append, List.nil_append, List.append_nil])
 refine Ei rfl (Eu (E.block (u9 (A := []) (Own.nil (E := C9) (e := tFact) (a := (some ⟨b9, 0, none⟩))) rfl (E.loop (κ := Nat × (List (Int × List Int)) × Option Addr × Nat × Nat) (fun g => g.1 ≤ (x13).toNat ∧ g.2.1.length ≤ g.1 ∧ ∀ f ∈ g.2.1, 1 ≤ f.2.length ∧ f.2.length ≤ 3) (fun g => [(0, .pointer (some ⟨b_c, 0, none⟩)), (1, .slice a_s s.length c_s), (7, .slice g.2.2.1 g.2.2.2.1 g.2.2.2.2), (8, .int .i64 (x13 - (↑g.1 : Int)))]) (fun g => [ow m8 [.slice g.2.2.1 g.2.2.2.1 g.2.2.2.2] g.2.1, cur b_c a_b bs.length c_b]) (fun g => (x13).toNat - g.1) (0, [], (some ⟨b9, 0, none⟩), 0, 0) ⟨Nat.zero_le _, by simp⟩ ⟨rfl, rfl, rfl, frI om, trivial⟩ (.refl _) (fun g pg => ?_)))))
 obtain ⟨g, ys, aA0_0, mA0_0, cA0_0⟩ := g
 try dsimp only at pg
 try dsimp only
 obtain ⟨pk, pa⟩ := pg
 refine d7 m0 fun eaA0_0 laA0_0 => ?_
 subst eaA0_0
 refine Eq_ (Ew Z2 (Em rfl (Ey rfl ((Y.gtr rfl rfl).yd) (o3 (fun q15 => ?_) (fun q15 => ?_)))))
 ·refine Eu (n8 rfl (i7 (Et (Eq_ (E.block (Ez Z6 (Em rfl (Em rfl (Em rfl (d9 (Est rfl (N.call (pre := [_]) (b0B fo fo fo) rfl rfl rfl dc rfl (fun w Lp hA => ⟨hA.ro hs, hA.ro hbs⟩)) (fun k21 o21 => ?_))))))))))))
  obtain ⟨rl21, vs21, ⟨a21, m21, c21⟩⟩ := k21
  replace o21 : (0 ≤ rl21 ∧ rl21 < s.length) ∧ 1 ≤ vs21.length ∧ vs21.length ≤ 3 := o21
  try (conv => arg 4; dsimp only)
  try (conv => arg 5; dsimp only [List.cons_append, List.nil_append, List.append_nil])
  refine d7 m0 fun e21 l21 => ?_
  subst e21
  refine Est rfl (N.call (T9 om (fun x hx => Nat.le_trans (pa.2 x hx).2 dc) om) rfl rfl rfl dc rfl (fun w Lp hA => ⟨hA.ow (mS (mS m0)), i6, hA.ow m0⟩)) (fun k22 _ => ?_)
  obtain ⟨a22, m22, c22⟩ := k22
  refine d7 m0 fun e22 l22 => ?_
  subst e22
  refine Ei rfl (En (s9 (Et (Ez Z3 (Em rfl (Ey rfl ((Y.sub rfl rfl om om).yd) (Ei rfl (Eu (d9 (Ent.drop (j8 (Ent.drop (d9 (d9 ?_))))))))))))))
  exact x6 br (g + 1, w4 ys (rl21, vs21), a22, (w4 ys (rl21, vs21)).length, c22) ⟨rfl, rfl, rfl, frI om, trivial⟩ (.refl _) ⟨oz, (show (w4 ys (rl21, vs21)).length ≤ (g + 1) ∧ ∀ f ∈ (w4 ys (rl21, vs21)), 1 ≤ f.2.length ∧ f.2.length ≤ 3 from by exact b5t pa o21.2)⟩ oz
 ·refine Eu (o0 rfl (E.exit (q1 (q1 (y4 (Et (Ew Z2 (Em rfl (Ei rfl (Eu (E.ret (d9 (d9 ?_)))))))))))))
  exact F.r1 br rfl rfl (ys, (_, _, _)) (show (↑ys.length : Int) ≤ most ∧ ∀ f ∈ ys, 1 ≤ f.2.length ∧ f.2.length ≤ 3 from by exact ⟨by omega, pa.2⟩) rfl (J := _) (.refl _) (.inl rfl)
end Go.Proofs.YthapcdhdfaibkaaGreatDoor
end
