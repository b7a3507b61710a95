import Derived.Test.YtlfhopooaejpfaaGreatHg
import Derived.Test.YtlfhopooaejpfaaGreatBo
import Derived.Test.YtlfhopooaejpfaaGreatT13
namespace Go.Proofs.YtlfhopooaejpfaaGreat
open Go.RowKit
set_option linter.all false
set_option maxHeartbeats 2000000
attribute [local irreducible] Nop Yd Yp Ent Has Tr FnP FnP2 Src M0 S8 V1 W0 G4
variable {n : Int} {s : List Int} {b_c m_b c_b m_s c_s : Nat} {a_b a_s : Option Addr}
theorem a5a {a_code : Option Addr} {m_code c_code : Nat} {code : List UInt8} (hcl : code.length ≤ 1048576) : Tr Tryz.prog 37 [.slice a_code m_code c_code] (fun w L => Ro w L U3 [.slice a_code m_code c_code] code) [] (κ := Nat) (fun k => True) (fun k => .pointer (some ⟨k, 0, none⟩)) (fun k => [cur k a_code m_code c_code]) := by
 refine Tr.intro Tryz.func37 rfl (n := 32) rfl (by decide +kernel) bl (fr := [(0, .slice a_code m_code c_code)]) rfl fun w L hR => ?_
 have hcode := hR
 obtain ⟨rfl, lcode⟩ := hcode.slen
 refine Ew Z1 (Ei rfl (Ev Z4 (Em rfl (Ey rfl ((Y.len us_U8s rfl).yd) (Ey rfl ((Y.add rfl rfl om om).yd) (Ei rfl (Eu (Eq_ (Ew Z1 (Ei rfl (Eu (E.block (E.loop (κ := Nat × Int) (fun g => g.1 ≤ code.length ∧ 0 ≤ g.2 ∧ g.2 ≤ 2000000000) (fun g => [(0, .slice a_code code.length c_code), (3, .int .i64 g.2), (4, .int .i64 (↑g.1 : Int))]) (fun g => []) (fun g => code.length - g.1) (0, (10101 + (↑code.length : Int))) ⟨Nat.zero_le _, by omega⟩ ⟨rfl, rfl, rfl, trivial⟩ (.refl _) (fun g pg => ?_))))))))))))))
 obtain ⟨g, hh⟩ := g
 try dsimp only at pg
 try dsimp only
 obtain ⟨pk, pa⟩ := pg
 refine Eq_ (Ew Z8 (Em rfl (Em rfl (Ey rfl ((Y.len us_U8s rfl).yd) (Ey rfl ((Y.lss rfl rfl).yd) (n0 (fun q11 => ?_) (fun q11 => ?_)))))))
 ·refine Em rfl (Em rfl (Ey rfl ((Y.lss rfl rfl).yd) (n0 (fun q14 => ?_) (fun q14 => ?_))))
  ·refine Ey rfl ((s6 rfl rfl).yd) (Eu (l4 rfl (i8 (Et (Eq_ (E.block (Ez Z11 (Em rfl (Ey rfl ((a7k rfl rfl om).yd) (Em rfl (Em rfl ?_)))))))))))
   obtain ⟨eb22, eo22, ea22, eh22⟩ := hcode.elemU g om
   have u822 : 0 ≤ (↑code[g].toNat : Int) ∧ (↑code[g].toNat : Int) ≤ 255 := ub8
   refine Ey rfl ((o6 us_U8s a9b rfl ea22 rfl g rfl om).yd) (Ey rfl (f8 a9b rfl (eh22 _) rfl) (Ey rfl ((b4W b4J b6z rfl om).yd) (Ey rfl ((Y.add rfl rfl om om).yd) (Ey rfl ((Y.add rfl rfl om om).yd) (Ey rfl ((Y.and rfl rfl).yd) (Ei rfl (En (o4 (Et (Ez Z3 (Em rfl (Ey rfl ((Y.add rfl rfl om om).yd) (Ei rfl ?_)))))))))))))
   exact Eu (u9 br (g + 1, (W1 (((hh * 131) + (↑code[g].toNat : Int)) + 7) 1073741823)) rs (.refl _) ⟨oz, (show 0 ≤ (W1 (((hh * 131) + (↑code[g].toNat : Int)) + 7) 1073741823) ∧ (W1 (((hh * 131) + (↑code[g].toNat : Int)) + 7) 1073741823) ≤ 2000000000 from by exact ⟨b4P.1, by have := (b4P (a := hh * 131 + (↑code[g].toNat : Int) + 7)).2; omega⟩)⟩ oz)
  ·refine Ey rfl ((s6 rfl rfl).yd) (Eu (l6 rfl (E.exit (n8 (n8 (w5 (Et (Ew Z5 (Em rfl (Em rfl (Ey rfl ((I6 (pvs := [_, _]) (cs := [_, _, _]) ty_l1Cur pl_l1Cur rfl rfl).yd) (Est rfl (N.box (cs := [_, _, _]) rfl dc rfl) (fun b31 _ => (Ei rfl (Eu (E.ret (Ent.curC om (by unfold I64; omega) ?_)))))))))))))))))
   exact Fg rfl rfl b31 rfl rfl
 ·refine Em rfl (Es rfl (Es rfl (Ey rfl ((r9 rfl rfl).yd) (Eu (l6 rfl (E.exit (n8 (n8 (w5 (Et (Ew Z5 (Em rfl (Em rfl (Ey rfl ((I6 (pvs := [_, _]) (cs := [_, _, _]) ty_l1Cur pl_l1Cur rfl rfl).yd) (Est rfl (N.box (cs := [_, _, _]) rfl dc rfl) (fun b31 _ => (Ei rfl (Eu (E.ret (Ent.curC om (by unfold I64; omega) ?_))))))))))))))))))))
  exact Fg rfl rfl b31 rfl rfl
theorem a0s {bs : List UInt8} : Tr Tryz.prog 114 [.pointer (some ⟨b_c, 0, none⟩)] (fun w L => Ro w L U3 [.slice a_b m_b c_b] bs) [cur b_c a_b m_b c_b] (κ := Int) (fun k => 0 ≤ k ∧ k ≤ 255) (fun k => .int .i64 k) (fun k => [cur b_c a_b m_b c_b]) := by
 refine Tr.intro Tryz.func114 rfl (n := 58) rfl (by decide +kernel) bl (fr := [(0, .pointer (some ⟨b_c, 0, none⟩))]) rfl fun w L hR => ?_
 have hbs := hR
 obtain ⟨rfl, lb⟩ := hbs.slen
 refine Ent.curO fun ci ch hci hch => (Ew Z1 (Ei rfl (Ev Z10 (Em rfl (Em rfl (Ey rfl ((Y.nil rfl).yd) (Ey rfl ((i7 fo_l1Cur_2 f0 dc rfl).yd) (Ey rfl (f8 f0 rfl (Hz m0 2 rfl) rfl) (Ey rfl ((b3x rfl rfl).yd) (Ey rfl ((b6L rfl rfl).yd) (Ey rfl ((Y.nil rfl).yd) (Ey rfl ((i7 fo_l1Cur_2 f0 dc rfl).yd) (Est rfl (Ns [_, _, _] f0 rfl) (fun _ _ => (Eu (Eq_ (D.region (fun j => true) mixed (Dyp 0 rfl (j4 rfl) (Dyp 1 rfl (Y.nil rfl) (Dyp 2 rfl (i7 fo_l1Cur_2 f0 dc rfl) ?_))))))))))))))))))))
 refine Dy 3 rfl (f8 f0 rfl (Hz m0 2 rfl) rfl) (Dyp 4 rfl (b3D rfl rfl om om) (Dyp 5 rfl (j4 rfl) (Dyp 6 rfl (Y.nil rfl) (Dyp 7 rfl (i7 fo_l1Cur_2 f0 dc rfl) (Dy 8 rfl (f8 f0 rfl (Hz m0 2 rfl) rfl) (Dyp 9 rfl (b3D rfl rfl om om) (Dyp 10 rfl (Y.xor rfl rfl) (Dyp 11 rfl (Y.and rfl rfl) (Dyp 12 rfl (G1 rfl) (o3 kr (Et (Eq_ (Eq_ (D.region (fun j => true) mixed (Dyp 0 rfl (j4 rfl) (Dyp 1 rfl (Y.nil rfl) (Dyp 2 rfl (i7 fo_l1Cur_1 f0 dc rfl) (Dy 3 rfl (f8 f0 rfl (Hz m0 1 rfl) rfl) (Dyp 4 rfl (j4 rfl) ?_)))))))))))))))))))
 refine Dyp 5 rfl (Y.nil rfl) (Dyp 6 rfl (i7 fo_l1Cur_0 ty_U8s dc rfl) (Dy 7 rfl (f8 ty_U8s rfl (Hz m0 0 rfl) rfl) (Dyp 8 rfl (Y.len us_U8s rfl) (Dyp 9 rfl (Y.lss rfl rfl) (n0 (fun q34 => ?_) (fun q34 => ?_))))))
 ·refine o3 kr (Et (l4 rfl (Eq_ (D.region (fun j => true) mixed (Dyp 0 rfl (j4 rfl) (Dyp 1 rfl (j4 rfl) (Dyp 2 rfl (Y.nil rfl) (Dyp 3 rfl (i7 fo_l1Cur_0 ty_U8s dc rfl) (Dy 4 rfl (f8 ty_U8s rfl (Hz m0 0 rfl) rfl) (Dyp 5 rfl (j4 rfl) (Dyp 6 rfl (Y.nil rfl) (Dyp 7 rfl (i7 fo_l1Cur_1 f0 dc rfl) (Dy 8 rfl (f8 f0 rfl (Hz m0 1 rfl) rfl) ?_)))))))))))))
  obtain ⟨eb44, eo44, ea44, eh44⟩ := hbs.elemU ci.toNat om
  have u844 : 0 ≤ (↑bs[ci.toNat].toNat : Int) ∧ (↑bs[ci.toNat].toNat : Int) ≤ 255 := ub8
  refine Dyp 9 rfl (o6 us_U8s a9b rfl ea44 rfl ci.toNat om om) (Dy 10 rfl (f8 a9b rfl (eh44 _) rfl) (Dyp 11 rfl (b4W b4J b6z rfl om) ?_))
  have ja : 0 ≤ (W1 (a3e ((IntKind.i64.wrap ((IntKind.i64.wrap (ch * 6364136223846793005)) + 1442695040888963407)) / 2 ^ (33 : Int).toNat) ((IntKind.i64.wrap ((IntKind.i64.wrap (ch * 6364136223846793005)) + 1442695040888963407)) / 2 ^ (45 : Int).toNat)) 255) ∧ (W1 (a3e ((IntKind.i64.wrap ((IntKind.i64.wrap (ch * 6364136223846793005)) + 1442695040888963407)) / 2 ^ (33 : Int).toNat) ((IntKind.i64.wrap ((IntKind.i64.wrap (ch * 6364136223846793005)) + 1442695040888963407)) / 2 ^ (45 : Int).toNat)) 255) ≤ 255 := a9y
  refine Dyp 12 rfl (Y.add rfl rfl om om) (Dyp 13 rfl (Y.and rfl rfl) (Dyp 14 rfl (G1 rfl) (o3 kr (Et (Ez Z9 (Em rfl (Em rfl (Ey rfl ((Y.nil rfl).yd) (Ey rfl ((i7 fo_l1Cur_1 f0 dc rfl).yd) (Ey rfl (f8 f0 rfl (Hz m0 1 rfl) rfl) (Ey rfl ((Y.add rfl rfl om om).yd) (Ey rfl ((Y.nil rfl).yd) (Ey rfl ((i7 fo_l1Cur_1 f0 dc rfl).yd) (Est rfl (Ns [_, _, _] f0 rfl) (fun _ _ => (Ev Z2 (Em rfl (Ei rfl (Eu (E.ret (Ent.curC om (by first | exact b0l _ | assumption) ?_)))))))))))))))))))))
  exact F.r1 br rfl rfl (W1 ((W1 (a3e ((IntKind.i64.wrap ((IntKind.i64.wrap (ch * 6364136223846793005)) + 1442695040888963407)) / 2 ^ (33 : Int).toNat) ((IntKind.i64.wrap ((IntKind.i64.wrap (ch * 6364136223846793005)) + 1442695040888963407)) / 2 ^ (45 : Int).toNat)) 255) + (↑bs[ci.toNat].toNat : Int)) 255) (show 0 ≤ (W1 ((W1 (a3e ((IntKind.i64.wrap ((IntKind.i64.wrap (ch * 6364136223846793005)) + 1442695040888963407)) / 2 ^ (33 : Int).toNat) ((IntKind.i64.wrap ((IntKind.i64.wrap (ch * 6364136223846793005)) + 1442695040888963407)) / 2 ^ (45 : Int).toNat)) 255) + (↑bs[ci.toNat].toNat : Int)) 255) ∧ (W1 ((W1 (a3e ((IntKind.i64.wrap ((IntKind.i64.wrap (ch * 6364136223846793005)) + 1442695040888963407)) / 2 ^ (33 : Int).toNat) ((IntKind.i64.wrap ((IntKind.i64.wrap (ch * 6364136223846793005)) + 1442695040888963407)) / 2 ^ (45 : Int).toNat)) 255) + (↑bs[ci.toNat].toNat : Int)) 255) ≤ 255 from by exact a9y) rfl (J := _) (.refl _) (.inl rfl)
 ·refine o3 kr (Et (l6 rfl (i8 (Et (Ew Z2 (Em rfl (Ei rfl (Eu (E.ret (Ent.curC om (by first | exact b0l _ | assumption) ?_))))))))))
  exact F.r1 br rfl rfl (W1 (a3e ((IntKind.i64.wrap ((IntKind.i64.wrap (ch * 6364136223846793005)) + 1442695040888963407)) / 2 ^ (33 : Int).toNat) ((IntKind.i64.wrap ((IntKind.i64.wrap (ch * 6364136223846793005)) + 1442695040888963407)) / 2 ^ (45 : Int).toNat)) 255) (show 0 ≤ (W1 (a3e ((IntKind.i64.wrap ((IntKind.i64.wrap (ch * 6364136223846793005)) + 1442695040888963407)) / 2 ^ (33 : Int).toNat) ((IntKind.i64.wrap ((IntKind.i64.wrap (ch * 6364136223846793005)) + 1442695040888963407)) / 2 ^ (45 : Int).toNat)) 255) ∧ (W1 (a3e ((IntKind.i64.wrap ((IntKind.i64.wrap (ch * 6364136223846793005)) + 1442695040888963407)) / 2 ^ (33 : Int).toNat) ((IntKind.i64.wrap ((IntKind.i64.wrap (ch * 6364136223846793005)) + 1442695040888963407)) / 2 ^ (45 : Int).toNat)) 255) ≤ 255 from by exact a9y) rfl (J := _) (.refl _) (.inl rfl)
theorem x5 {bs : List UInt8} : Tr Tryz.prog 43 [.pointer (some ⟨b_c, 0, none⟩), .int .i64 n] (fun w L => Ro w L U3 [.slice a_b m_b c_b] bs) [cur b_c a_b m_b c_b] (κ := Int) (fun k => 0 ≤ k ∧ (n ≤ 0 → k = 0) ∧ (0 < n → k < n)) (fun k => .int .i64 k) (fun k => [cur b_c a_b m_b c_b]) := by
 refine Tr.intro Tryz.func43 rfl (n := 37) rfl (by decide +kernel) bl (fr := [(0, .pointer (some ⟨b_c, 0, none⟩)), (1, .int .i64 n)]) rfl fun w L hR => ?_
 have hbs := hR
 obtain ⟨rfl, lb⟩ := hbs.slen
 refine Ew Z1 (Ei rfl (Eu (Eq_ (Ew Z2 (Em rfl (Ey rfl ((Y.leq rfl rfl).yd) (n0 (fun q10 => ?_) (fun q10 => ?_))))))))
 ·refine Eu (l4 rfl (Ew Z1 (Ei rfl ?_)))
  exact Eu (E.ret (l0 (F.r1 br rfl rfl 0 (show 0 ≤ (0 : Int) ∧ (n ≤ 0 → (0 : Int) = 0) ∧ (0 < n → (0 : Int) < n) from by first | omega | exact a7I om) rfl (J := _) (.refl _) (.inl rfl))))
 ·refine Eu (l6 rfl (i8 (Et (Eq_ (Ew Z2 (Em rfl (Ey rfl ((Y.leq rfl rfl).yd) (n0 (fun q12 => ?_) (fun q12 => ?_)))))))))
  ·refine Eu (l4 rfl (Ew Z5 (Em rfl (Est rfl (N.call (pre := [_]) a0s rfl rfl rfl dc rfl (fun w Lp hA => hA.ro hbs)) (fun x14 o14 => ?_)))))
   replace o14 : 0 ≤ x14 ∧ x14 ≤ 255 := o14
   try (conv => arg 5; dsimp only [List.cons_append, List.nil_append, List.append_nil])
   refine Em rfl (Ey rfl ((a3L rfl rfl om om).yd) (Ei rfl ?_))
   exact Eu (E.ret (l0 (F.r1 br rfl rfl (x14 % n) (show 0 ≤ (x14 % n) ∧ (n ≤ 0 → (x14 % n) = 0) ∧ (0 < n → (x14 % n) < n) from by first | omega | exact a7I om) rfl (J := _) (.refl _) (.inl rfl))))
  ·refine Eu (l6 rfl (i8 (Et (Ew Z3 (Em rfl (Est rfl (N.call (pre := [_]) a0s rfl rfl rfl dc rfl (fun w Lp hA => hA.ro hbs)) (fun x18 o18 => ?_)))))))
   replace o18 : 0 ≤ x18 ∧ x18 ≤ 255 := o18
   try (conv => arg 5; dsimp only [List.cons_append, List.nil_append, List.append_nil])
   refine Ei rfl (Ev Z3 (Em rfl (Est rfl (N.call (pre := [_]) a0s rfl rfl rfl dc rfl (fun w Lp hA => hA.ro hbs)) (fun x20 o20 => ?_))))
   replace o20 : 0 ≤ x20 ∧ x20 ≤ 255 := o20
   try (conv => arg 5; dsimp only [List.cons_append, List.nil_append, List.append_nil])
   refine Ei rfl (Ev Z3 (Em rfl (Est rfl (N.call (pre := [_]) a0s rfl rfl rfl dc rfl (fun w Lp hA => hA.ro hbs)) (fun x22 o22 => ?_))))
   replace o22 : 0 ≤ x22 ∧ x22 ≤ 255 := o22
   try (conv => arg 5; dsimp only [List.cons_append, List.nil_append, List.append_nil])
   refine Ei rfl (Ev Z3 (Em rfl (Est rfl (N.call (pre := [_]) a0s rfl rfl rfl dc rfl (fun w Lp hA => hA.ro hbs)) (fun x24 o24 => ?_))))
   replace o24 : 0 ≤ x24 ∧ x24 ≤ 255 := o24
   try (conv => arg 5; dsimp only [List.cons_append, List.nil_append, List.append_nil])
   refine Ei rfl (Ev Z13 (Em rfl (Ey rfl ((a7k rfl rfl om).yd) (Em rfl (Ey rfl ((a7k rfl rfl om).yd) (Ey rfl ((Y.add rfl rfl om om).yd) (Em rfl (Ey rfl ((a7k rfl rfl om).yd) (Ey rfl ((Y.add rfl rfl om om).yd) (Em rfl (Ey rfl ((Y.add rfl rfl om om).yd) (Em rfl (Ey rfl ((a3L rfl rfl om om).yd) (Ei rfl ?_))))))))))))))
   exact Eu (E.ret (F.r1 br rfl rfl (((((x18 * 16777216) + (x20 * 65536)) + (x22 * 256)) + x24) % n) (show 0 ≤ (((((x18 * 16777216) + (x20 * 65536)) + (x22 * 256)) + x24) % n) ∧ (n ≤ 0 → (((((x18 * 16777216) + (x20 * 65536)) + (x22 * 256)) + x24) % n) = 0) ∧ (0 < n → (((((x18 * 16777216) + (x20 * 65536)) + (x22 * 256)) + x24) % n) < n) from by first | omega | exact a7I om) rfl (J := _) (.refl _) (.inl rfl)))
theorem R5 {bs : List UInt8} : Tr Tryz.prog 40 [.pointer (some ⟨b_c, 0, none⟩), .int .i64 n] (fun w L => Ro w L U3 [.slice a_b m_b c_b] bs) [cur b_c a_b m_b c_b] (κ := Bool) (fun k => True) (fun k => .bool k) (fun k => [cur b_c a_b m_b c_b]) := by
 refine Tr.intro Tryz.func40 rfl (n := 9) rfl (by decide +kernel) bl (fr := [(0, .pointer (some ⟨b_c, 0, none⟩)), (1, .int .i64 n)]) rfl fun w L hR => ?_
 have hbs := hR
 obtain ⟨rfl, lb⟩ := hbs.slen
 refine Ew Z1 (Ei rfl (Ev Z5 (Em rfl (Em rfl (Est rfl (N.call (pre := [_]) x5 rfl rfl rfl dc rfl (fun w Lp hA => hA.ro hbs)) (fun x7 o7 => ?_))))))
 replace o7 : 0 ≤ x7 ∧ (n ≤ 0 → x7 = 0) ∧ (0 < n → x7 < n) := o7
 try (conv => arg 5; dsimp only [List.cons_append, List.nil_append, List.append_nil])
 refine Ey rfl ((Y.eql rfl rfl).yd) (Ei rfl ?_)
 exact Eu (E.ret (F.r1 br rfl rfl (decide (x7 = 0)) (show True from by trivial) rfl (J := _) (.refl _) (.inl rfl)))
theorem G9 {a_list : Option Addr} {m_list c_list : Nat} {list : List Int} {bs : List UInt8} (hl : 0 < list.length) : Tr Tryz.prog 171 [.pointer (some ⟨b_c, 0, none⟩), .slice a_list m_list c_list] (fun w L => Ro w L eIs [.slice a_list m_list c_list] list ∧ Ro w L U3 [.slice a_b m_b c_b] bs) [cur b_c a_b m_b c_b] (κ := Int) (fun k => k ∈ list) (fun k => .int .i64 k) (fun k => [cur b_c a_b m_b c_b]) := by
 refine Tr.intro Tryz.func171 rfl (n := 12) rfl (by decide +kernel) bl (fr := [(0, .pointer (some ⟨b_c, 0, none⟩)), (1, .slice a_list m_list c_list)]) rfl fun w L hR => ?_
 obtain ⟨hlist, hbs⟩ := hR
 obtain ⟨rfl, llist⟩ := hlist.slen
 obtain ⟨rfl, lb⟩ := hbs.slen
 refine Ew Z1 (Ei rfl (Ev Z8 (Em rfl (Em rfl (Em rfl (Ey rfl ((Y.len us_Is rfl).yd) (Est rfl (N.call (pre := [_]) x5 rfl rfl rfl dc rfl (fun w Lp hA => hA.ro hbs)) (fun x9 o9 => ?_))))))))
 replace o9 : 0 ≤ x9 ∧ ((↑list.length : Int) ≤ 0 → x9 = 0) ∧ (0 < (↑list.length : Int) → x9 < (↑list.length : Int)) := o9
 try (conv => arg 5; dsimp only [List.cons_append, List.nil_append, List.append_nil])
 obtain ⟨eb10, eo10, ea10, ei10, eh10⟩ := hlist.elemI x9.toNat om
 refine Ey rfl ((o6 us_Is f0 rfl ea10 rfl x9.toNat om om).yd) (Ey rfl (f8 f0 rfl (eh10 _) rfl) (Ei rfl ?_))
 exact Eu (E.ret (F.r1 br rfl rfl list[x9.toNat] (show list[x9.toNat] ∈ list from by exact List.getElem_mem _) rfl (J := _) (.refl _) (.inl rfl)))
theorem a1x {bs : List UInt8} : Tr Tryz.prog 103 [.pointer (some ⟨b_c, 0, none⟩)] (fun w L => Ro w L U3 [.slice a_b m_b c_b] bs) [cur b_c a_b m_b c_b] (κ := (List Int) × Option Addr × Nat × Nat) (fun k => 1 ≤ k.1.length ∧ k.1.length ≤ 3 ∧ ∀ z ∈ k.1, 1 ≤ z ∧ z ≤ 3) (fun k => .slice k.2.1 k.2.2.1 k.2.2.2) (fun k => [ow eIs [.slice k.2.1 k.2.2.1 k.2.2.2] k.1, cur b_c a_b m_b c_b]) := by
 refine Tr.intro Tryz.func103 rfl (n := 24) rfl (by decide +kernel) bl (fr := [(0, .pointer (some ⟨b_c, 0, none⟩))]) rfl fun w L hR => ?_
 have hbs := hR
 obtain ⟨rfl, lb⟩ := hbs.slen
 refine Ew Z1 (Ei rfl (Ev Z2 (Est rfl (Nb [] [] us_Is f0 rfl rfl) (fun b6 _ => (Ent.drop (Ei rfl (Eu (Eq_ (Ew Z4 (Em rfl (Est rfl (N.call (pre := [_]) x5 rfl rfl rfl dc rfl (fun w Lp hA => hA.ro hbs)) (fun x8 o8 => ?_))))))))))))
 replace o8 : 0 ≤ x8 ∧ ((3 : Int) ≤ 0 → x8 = 0) ∧ (0 < (3 : Int) → x8 < (3 : Int)) := o8
 try (conv => arg 5; dsimp only [List.cons_append, List.nil_append, List.append_nil])
 refine Ey rfl ((Y.add rfl rfl om om).yd) (Ei rfl (Eu (E.block (n9 (A := []) (Own.nil (E := Enc.int) (e := tI) (a := (some ⟨b6, 0, none⟩))) rfl (E.loop (κ := Nat × (List Int) × Option Addr × Nat × Nat) (fun g => g.1 ≤ (1 + x8).toNat ∧ g.2.1.length = g.1 ∧ ∀ z ∈ g.2.1, 1 ≤ z ∧ z ≤ 3) (fun g => [(0, .pointer (some ⟨b_c, 0, none⟩)), (3, .slice g.2.2.1 g.2.2.2.1 g.2.2.2.2), (4, .int .i64 (1 + x8 - (↑g.1 : Int)))]) (fun g => [ow eIs [.slice g.2.2.1 g.2.2.2.1 g.2.2.2.2] g.2.1, cur b_c a_b bs.length c_b]) (fun g => (1 + x8).toNat - g.1) (0, [], (some ⟨b6, 0, none⟩), 0, 0) ⟨Nat.zero_le _, by simp⟩ ⟨rfl, rfl, frI om, trivial⟩ (.refl _) (fun g pg => ?_))))))
 obtain ⟨g, ys, aA0_0, mA0_0, cA0_0⟩ := g
 try dsimp only at pg
 try dsimp only
 obtain ⟨pk, pa⟩ := pg
 refine i9 m0 fun eaA0_0 laA0_0 => ?_
 subst eaA0_0
 refine Eq_ (Ew Z2 (Em rfl (Ey rfl ((Y.gtr rfl rfl).yd) (n0 (fun q11 => ?_) (fun q11 => ?_)))))
 ·refine Eu (l4 rfl (i8 (Et (Eq_ (E.block (Ew Z4 (Em rfl (f7 (Est rfl (N.call (pre := [_]) x5 rfl rfl rfl dc rfl (fun w Lp hA => hA.ro hbs)) (fun x15 o15 => ?_))))))))))
  replace o15 : 0 ≤ x15 ∧ ((2 : Int) ≤ 0 → x15 = 0) ∧ (0 < (2 : Int) → x15 < (2 : Int)) := o15
  try (conv => arg 5; dsimp only [List.cons_append, List.nil_append, List.append_nil])
  refine Ey rfl ((Y.add rfl rfl om om).yd) (Ei rfl (Eu (Eq_ (Ew Z2 (Em rfl (Est rfl (N.call (pre := [_]) R5 rfl rfl rfl dc rfl (fun w Lp hA => hA.ro hbs)) (fun o18 o18 => ?_)))))))
  replace o18 : True := o18
  try (conv => arg 5; dsimp only [List.cons_append, List.nil_append, List.append_nil])
  refine Ent.b (fun q18 => ?_) (fun q18 => ?_)
  ·refine Eu (l4 rfl (Ez Z1 (Ei rfl (Eu (Ez Z5 (Em rfl (Em rfl (Est rfl (Nb [_] [_] us_Is f0 rfl rfl) (fun b21 _ => (j6 (Est rfl (y6 (E := Enc.int) (ex := 3) us_Is f0 rfl rfl rfl (Own.int i6) rfl bn bn dc) (fun p22 _ => (Ei rfl (En (o4 (Et (Ez Z3 (Em rfl (Ey rfl ((Y.sub rfl rfl om om).yd) (Ei rfl (Eu (f7 (f7 ?_)))))))))))))))))))))))
   exact u9 br (g + 1, ys ++ [3], p22.1, ((ys).length + 1), p22.2) ⟨rfl, rfl, frI om, trivial⟩ (.refl _) ⟨oz, (show (ys ++ [3]).length = (g + 1) ∧ ∀ z ∈ (ys ++ [3]), 1 ≤ z ∧ z ≤ 3 from by exact a9K pa om)⟩ oz
  ·refine Eu (l6 rfl (i8 (Et (Ez Z5 (Em rfl (Em rfl (Est rfl (Nb [_] [_] us_Is f0 rfl rfl) (fun b21 _ => (j6 (Est rfl (y6 (E := Enc.int) (ex := (1 + x15)) us_Is f0 rfl rfl rfl (Own.int i6) rfl bn bn dc) (fun p22 _ => (Ei rfl (En (o4 (Et (Ez Z3 (Em rfl (Ey rfl ((Y.sub rfl rfl om om).yd) (Ei rfl (Eu (f7 (f7 ?_))))))))))))))))))))))
   exact u9 br (g + 1, ys ++ [(1 + x15)], p22.1, ((ys).length + 1), p22.2) ⟨rfl, rfl, frI om, trivial⟩ (.refl _) ⟨oz, (show (ys ++ [(1 + x15)]).length = (g + 1) ∧ ∀ z ∈ (ys ++ [(1 + x15)]), 1 ≤ z ∧ z ≤ 3 from by exact a9K pa om)⟩ oz
 ·refine Eu (l6 rfl (E.exit (n8 (n8 (w5 (Et (Ew Z2 (Em rfl (Ei rfl (Eu (E.ret (f7 (f7 ?_)))))))))))))
  exact F.r1 br rfl rfl (ys, (_, _, _)) (show 1 ≤ ys.length ∧ ys.length ≤ 3 ∧ ∀ z ∈ ys, 1 ≤ z ∧ z ≤ 3 from by exact b4Z pa om om) rfl (J := _) (.refl _) (.inl rfl)
theorem a1T {bs : List UInt8} : Tr Tryz.prog 108 [.pointer (some ⟨b_c, 0, none⟩)] (fun w L => Ro w L U3 [.slice a_b m_b c_b] bs) [cur b_c a_b m_b c_b] (κ := (List Int) × Option Addr × Nat × Nat) (fun k => 1 ≤ k.1.length ∧ k.1.length ≤ 4) (fun k => .slice k.2.1 k.2.2.1 k.2.2.2) (fun k => [ow eIs [.slice k.2.1 k.2.2.1 k.2.2.2] k.1, cur b_c a_b m_b c_b]) := by
 refine Tr.intro Tryz.func108 rfl (n := 15) rfl (by decide +kernel) bl (fr := [(0, .pointer (some ⟨b_c, 0, none⟩))]) rfl fun w L hR => ?_
 have hbs := hR
 obtain ⟨rfl, lb⟩ := hbs.slen
 refine Ew Z1 (Ei rfl (Ev Z3 (Em rfl (Est rfl (N.call (pre := [_]) a1x rfl rfl rfl dc rfl (fun w Lp hA => hA.ro hbs)) (fun k5 o5 => ?_)))))
 obtain ⟨xs5, ⟨a5, m5, c5⟩⟩ := k5
 replace o5 : 1 ≤ xs5.length ∧ xs5.length ≤ 3 ∧ ∀ z ∈ xs5, 1 ≤ z ∧ z ≤ 3 := o5
 try (conv => arg 4; dsimp only)
 try (conv => arg 5; dsimp only [List.cons_append, List.nil_append, List.append_nil])
 refine i9 m0 fun e5 l5 => ?_
 subst e5
 refine Ei rfl (Eu (Eq_ (Ew Z2 (Em rfl (f7 (Est rfl (N.call (pre := [_]) R5 rfl rfl rfl dc rfl (fun w Lp hA => hA.ro hbs)) (fun o7 o7 => ?_)))))))
 replace o7 : True := o7
 try (conv => arg 5; dsimp only [List.cons_append, List.nil_append, List.append_nil])
 refine Ent.b (fun q7 => ?_) (fun q7 => ?_)
 ·refine Eu (l4 rfl (Ez Z7 (Em rfl (Em rfl (Est rfl (Nb [_, _, _] [_, _, _] us_Is f0 rfl rfl) (fun b10 _ => (n9 (A := [_]) (Own.ints (e := tI) (xs := [0, 1, 4]) rfl (by simp [maxLen]) (by simp only [List.forall_mem_cons]; exact ⟨i6, i6, i6, List.forall_mem_nil _⟩)) rfl (f7 (Est rfl (N.call (pre := [_]) (G9 dc) rfl rfl rfl dc rfl (fun w Lp hA => ⟨hA.ow m0, hA.ro hbs⟩)) (fun x11 o11 => ?_))))))))))
  replace o11 : x11 ∈ ([0, 1, 4]) := o11
  try (conv => arg 5; dsimp only [List.cons_append, List.nil_append, List.append_nil])
  have jp : -10 ≤ x11 ∧ x11 ≤ 10 := by simp at o11; omega
  refine Est rfl (Nb [_] [_] us_Is f0 rfl rfl) (fun b12 _ => (m6 (Est rfl (y6 (E := Enc.int) (ex := x11) us_Is f0 rfl rfl rfl (Own.int i6) rfl bn bn dc) (fun p13 _ => (Ei rfl (Ev Z2 (Em rfl (Ei rfl (Eu (E.ret (f7 (f7 ?_))))))))))))
  exact F.r1 br rfl rfl (xs5 ++ [x11], (_, _, _)) (show 1 ≤ (xs5 ++ [x11]).length ∧ (xs5 ++ [x11]).length ≤ 4 from by first | (simp only [List.length_append, List.length_singleton]; omega) | omega) rfl (J := _) (.refl _) (.inl rfl)
 ·refine Eu (l6 rfl (i8 (Et (Ew Z2 (Em rfl (Ei rfl (Eu (E.ret (f7 (f7 (f7 ?_)))))))))))
  exact F.r1 br rfl rfl (xs5, (_, _, _)) (show 1 ≤ xs5.length ∧ xs5.length ≤ 4 from by first | (simp only [List.length_append, List.length_singleton]; omega) | omega) rfl (J := _) (.refl _) (.inl rfl)
theorem a4x {wide : Int} {bs : List UInt8} (h1 : 1 ≤ s.length) (hsz : ∀ z ∈ s, 1 ≤ z ∧ z ≤ 3) (hw : 1 ≤ wide ∧ wide ≤ 100) : Tr Tryz.prog 173 [.pointer (some ⟨b_c, 0, none⟩), .slice a_s m_s c_s, .int .i64 wide] (fun w L => Ro w L eIs [.slice a_s m_s c_s] s ∧ Ro w L U3 [.slice a_b m_b c_b] bs) [cur b_c a_b m_b c_b] (κ := Int × (List Int) × Option Addr × Nat × Nat) (fun k => (0 ≤ k.1 ∧ k.1 < s.length) ∧ 1 ≤ k.2.1.length ∧ k.2.1.length ≤ 3) (fun k => .agg #[.int .i64 k.1, .slice k.2.2.1 k.2.2.2.1 k.2.2.2.2]) (fun k => [ow eIs [.slice k.2.2.1 k.2.2.2.1 k.2.2.2.2] k.2.1, cur b_c a_b m_b c_b]) := by
 refine Tr.intro Tryz.func173 rfl (n := 34) rfl (by decide +kernel) bl (fr := [(0, .pointer (some ⟨b_c, 0, none⟩)), (1, .slice a_s m_s c_s), (2, .int .i64 wide)]) rfl fun w L hR => ?_
 obtain ⟨hs, hbs⟩ := hR
 obtain ⟨rfl, ls⟩ := hs.slen
 obtain ⟨rfl, lb⟩ := hbs.slen
 refine Ew Z1 (Est rfl (N.alloc ty_Fact dc) (fun b6 _ => (Ev Z7 (Em rfl (Em rfl (Ey rfl ((Y.len us_Is rfl).yd) (f7 (Est rfl (N.call (pre := [_]) x5 rfl rfl rfl dc rfl (fun w Lp hA => hA.ro hbs)) (fun x13 o13 => ?_)))))))))
 replace o13 : 0 ≤ x13 ∧ ((↑s.length : Int) ≤ 0 → x13 = 0) ∧ (0 < (↑s.length : Int) → x13 < (↑s.length : Int)) := o13
 try (conv => arg 5; dsimp only [List.cons_append, List.nil_append, List.append_nil])
 have jx : x13.toNat < s.length := by omega
 have jz := hsz _ (List.getElem_mem jx)
 refine Ey rfl ((I6 (pvs := [_]) (cs := [_, _]) ty_Fact a5t rfl rfl).yd) (Est rfl (N.alloc ty_Fact dc) (fun b7 _ => (Est rfl (Ns [_, _] ty_Fact rfl) (fun _ _ => (Eu (Eq_ (Ew Z1 (Ei rfl (Eu (E.block (n9 (A := []) (Own.nil (E := Enc.int) (e := tI) (a := none)) rfl (E.loop (κ := Nat × (List Int) × Option Addr × Nat × Nat) (fun g => g.1 ≤ s[x13.toNat].toNat ∧ g.2.1.length = g.1) (fun g => [(0, .pointer (some ⟨b_c, 0, none⟩)), (1, .slice a_s s.length c_s), (2, .int .i64 wide), (6, .pointer (some ⟨b6, 0, none⟩)), (7, .pointer (some ⟨b7, 0, none⟩)), (8, .int .i64 (↑g.1 : Int))]) (fun g => [ow eIs [.slice g.2.2.1 g.2.2.2.1 g.2.2.2.2] g.2.1, pt b7 91 [.int .i64 x13, .slice g.2.2.1 g.2.2.2.1 g.2.2.2.2], cur b_c a_b bs.length c_b, pt b6 91 [.int .i64 0, .slice none 0 0]]) (fun g => s[x13.toNat].toNat - g.1) (0, [], none, 0, 0) ⟨Nat.zero_le _, by rfl⟩ ⟨rfl, rfl, rfl, rfl, rfl, rfl, trivial⟩ (.refl _) (fun g pg => ?_)))))))))))))
 obtain ⟨g, ys, aA0_0, mA0_0, cA0_0⟩ := g
 try dsimp only at pg
 try dsimp only
 obtain ⟨pk, pa⟩ := pg
 refine i9 m0 fun eaA0_0 laA0_0 => ?_
 subst eaA0_0
 refine Eq_ (Ew Z7 (Em rfl (Em rfl (Ey rfl ((i7 fo_Fact_0 f0 dc rfl).yd) (Ey rfl (f8 f0 rfl (Hz (mS m0) 0 rfl) rfl) ?_)))))
 obtain ⟨eb19, eo19, ea19, ei19, eh19⟩ := hs.elemI x13.toNat om
 refine Ey rfl ((o6 us_Is f0 rfl ea19 rfl x13.toNat om om).yd) (Ey rfl (f8 f0 rfl (eh19 _) rfl) (Ey rfl ((Y.lss rfl rfl).yd) (n0 (fun q21 => ?_) (fun q21 => ?_))))
 ·refine Eu (l4 rfl (i8 (Et (Eq_ (E.block (Ew Z4 (Em rfl (Em rfl (j6 (Est rfl (N.call (pre := [_]) x5 rfl rfl rfl dc rfl (fun w Lp hA => hA.ro hbs)) (fun x26 o26 => ?_)))))))))))
  replace o26 : 0 ≤ x26 ∧ (wide ≤ 0 → x26 = 0) ∧ (0 < wide → x26 < wide) := o26
  try (conv => arg 5; dsimp only [List.cons_append, List.nil_append, List.append_nil])
  refine Ei rfl (Eu (Ez Z7 (Ey rfl ((i7 fo_Fact_1 ty_Is dc rfl).yd) (Ey rfl (f8 ty_Is rfl (Hz (mS (mS m0)) 1 rfl) rfl) (Em rfl (Est rfl (Nb [_] [_] us_Is f0 rfl rfl) (fun b30 _ => (j6 (Est rfl (y6 (E := Enc.int) (ex := x26) us_Is f0 rfl rfl rfl (Own.int i6) rfl bn bn dc) (fun p31 _ => (Ey rfl ((i7 fo_Fact_1 ty_Is dc rfl).yd) (j6 (Est rfl (Ns [_, _] ty_Is rfl) (fun _ _ => (En (o4 (Et (Ez Z3 (Em rfl (Ey rfl ((Y.add rfl rfl om om).yd) (Ei rfl (Eu (m6 (m6 ?_))))))))))))))))))))))))
  refine j6 (m6 ?_)
  exact Ea (g + 1, ys ++ [x26], p31.1, ((ys).length + 1), p31.2) ⟨oz, (show (ys ++ [x26]).length = (g + 1) from by simp [pa])⟩
 ·refine Eu (l6 rfl (E.exit (n8 (n8 (w5 (Et (Ew Z2 (Ey rfl (o0 (cs := [_, _]) ty_Fact rfl (Has.pt (mS m0)) rfl) (m6 (Est rfl (Ns [_, _] ty_Fact rfl) (fun _ _ => (Eu (E.ret (f7 (m6 (f7 ?_))))))))))))))))
  exact J2 br rfl rfl (mS (mS m0)) ty_Fact rfl (x13, ys, (_, _, _)) (show (0 ≤ x13 ∧ x13 < s.length) ∧ 1 ≤ ys.length ∧ ys.length ≤ 3 from by omega) rfl (J := _) (.refl _) (.inl rfl)
theorem a3D {most : Int} {bs : List UInt8} (h1 : 1 ≤ s.length) (hsz : ∀ z ∈ s, 1 ≤ z ∧ z ≤ 3) (hm : 0 ≤ most ∧ most ≤ 8) : Tr Tryz.prog 112 [.pointer (some ⟨b_c, 0, none⟩), .slice a_s m_s c_s, .int .i64 most] (fun w L => Ro w L eIs [.slice a_s m_s c_s] s ∧ Ro w L U3 [.slice a_b m_b c_b] bs) [cur b_c a_b m_b c_b] (κ := (List (Int × List Int)) × Option Addr × Nat × Nat) (fun k => (↑k.1.length : Int) ≤ most ∧ ∀ f ∈ k.1, 1 ≤ f.2.length ∧ f.2.length ≤ 3) (fun k => .slice k.2.1 k.2.2.1 k.2.2.2) (fun k => [ow r7 [.slice k.2.1 k.2.2.1 k.2.2.2] k.1, cur b_c a_b m_b c_b]) := by
 refine Tr.intro Tryz.func112 rfl (n := 24) rfl (by decide +kernel) bl (fr := [(0, .pointer (some ⟨b_c, 0, none⟩)), (1, .slice a_s m_s c_s), (2, .int .i64 most)]) rfl fun w L hR => ?_
 obtain ⟨hs, hbs⟩ := hR
 obtain ⟨rfl, ls⟩ := hs.slen
 obtain ⟨rfl, lb⟩ := hbs.slen
 refine Ew Z1 (Ei rfl (Ev Z2 (Est rfl (Nb [] [] us_Facts ty_Fact rfl rfl) (fun b9 _ => (Ent.drop (Ei rfl (Eu (Eq_ (Ew Z5 (Em rfl (Em rfl (Ey rfl ((Y.add rfl rfl om om).yd) (Est rfl (N.call (pre := [_]) x5 rfl rfl rfl dc rfl (fun w Lp hA => hA.ro hbs)) (fun x13 o13 => ?_))))))))))))))
 replace o13 : 0 ≤ x13 ∧ ((most + 1) ≤ 0 → x13 = 0) ∧ (0 < (most + 1) → x13 < (most + 1)) := o13
 try (conv => arg 5; dsimp only [List.cons_append, List.nil_append, List.append_nil])
 refine Ei rfl (Eu (E.block (n9 (A := []) (Own.nil (E := F0) (e := tFact) (a := (some ⟨b9, 0, none⟩))) rfl (E.loop (κ := Nat × (List (Int × List Int)) × Option Addr × Nat × Nat) (fun g => g.1 ≤ (x13).toNat ∧ g.2.1.length ≤ g.1 ∧ ∀ f ∈ g.2.1, 1 ≤ f.2.length ∧ f.2.length ≤ 3) (fun g => [(0, .pointer (some ⟨b_c, 0, none⟩)), (1, .slice a_s s.length c_s), (7, .slice g.2.2.1 g.2.2.2.1 g.2.2.2.2), (8, .int .i64 (x13 - (↑g.1 : Int)))]) (fun g => [ow r7 [.slice g.2.2.1 g.2.2.2.1 g.2.2.2.2] g.2.1, cur b_c a_b bs.length c_b]) (fun g => (x13).toNat - g.1) (0, [], (some ⟨b9, 0, none⟩), 0, 0) ⟨Nat.zero_le _, by simp⟩ ⟨rfl, rfl, rfl, frI om, trivial⟩ (.refl _) (fun g pg => ?_)))))
 obtain ⟨g, ys, aA0_0, mA0_0, cA0_0⟩ := g
 try dsimp only at pg
 try dsimp only
 obtain ⟨pk, pa⟩ := pg
 refine i9 m0 fun eaA0_0 laA0_0 => ?_
 subst eaA0_0
 refine Eq_ (Ew Z2 (Em rfl (Ey rfl ((Y.gtr rfl rfl).yd) (n0 (fun q15 => ?_) (fun q15 => ?_)))))
 ·refine Eu (l4 rfl (i8 (Et (Eq_ (E.block (Ez Z6 (Em rfl (Em rfl (Em rfl (f7 (Est rfl (N.call (pre := [_]) (a4x fo fo fo) rfl rfl rfl dc rfl (fun w Lp hA => ⟨hA.ro hs, hA.ro hbs⟩)) (fun k21 o21 => ?_))))))))))))
  obtain ⟨rl21, vs21, ⟨a21, m21, c21⟩⟩ := k21
  replace o21 : (0 ≤ rl21 ∧ rl21 < s.length) ∧ 1 ≤ vs21.length ∧ vs21.length ≤ 3 := o21
  try (conv => arg 4; dsimp only)
  try (conv => arg 5; dsimp only [List.cons_append, List.nil_append, List.append_nil])
  refine i9 m0 fun e21 l21 => ?_
  subst e21
  refine Est rfl (N.call (a1I om (fun x hx => Nat.le_trans (pa.2 x hx).2 dc) om) rfl rfl rfl dc rfl (fun w Lp hA => ⟨hA.ow (mS (mS m0)), i6, hA.ow m0⟩)) (fun k22 _ => ?_)
  obtain ⟨a22, m22, c22⟩ := k22
  refine i9 m0 fun e22 l22 => ?_
  subst e22
  refine Ei rfl (En (o4 (Et (Ez Z3 (Em rfl (Ey rfl ((Y.sub rfl rfl om om).yd) (Ei rfl (Eu (f7 (Ent.drop (j6 (Ent.drop (f7 (f7 ?_))))))))))))))
  exact u9 br (g + 1, D1 ys (rl21, vs21), a22, (D1 ys (rl21, vs21)).length, c22) ⟨rfl, rfl, rfl, frI om, trivial⟩ (.refl _) ⟨oz, (show (D1 ys (rl21, vs21)).length ≤ (g + 1) ∧ ∀ f ∈ (D1 ys (rl21, vs21)), 1 ≤ f.2.length ∧ f.2.length ≤ 3 from by exact b3X pa o21.2)⟩ oz
 ·refine Eu (l6 rfl (E.exit (n8 (n8 (w5 (Et (Ew Z2 (Em rfl (Ei rfl (Eu (E.ret (f7 (f7 ?_)))))))))))))
  exact F.r1 br rfl rfl (ys, (_, _, _)) (show (↑ys.length : Int) ≤ most ∧ ∀ f ∈ ys, 1 ≤ f.2.length ∧ f.2.length ≤ 3 from by exact ⟨by omega, pa.2⟩) rfl (J := _) (.refl _) (.inl rfl)
theorem a2p {bs : List UInt8} : Tr Tryz.prog 113 [.pointer (some ⟨b_c, 0, none⟩), .slice a_s m_s c_s] (fun w L => Ro w L eIs [.slice a_s m_s c_s] s ∧ Ro w L U3 [.slice a_b m_b c_b] bs) [cur b_c a_b m_b c_b] (κ := Int × (List Int) × Option Addr × Nat × Nat) (fun k => (-1 ≤ k.1 ∧ k.1 ≤ 10) ∧ 1 ≤ k.2.1.length ∧ k.2.1.length ≤ 4) (fun k => .agg #[.int .i64 k.1, .slice k.2.2.1 k.2.2.2.1 k.2.2.2.2]) (fun k => [ow eIs [.slice k.2.2.1 k.2.2.2.1 k.2.2.2.2] k.2.1, cur b_c a_b m_b c_b]) := by
 refine Tr.intro Tryz.func113 rfl (n := 37) rfl (by decide +kernel) bl (fr := [(0, .pointer (some ⟨b_c, 0, none⟩)), (1, .slice a_s m_s c_s)]) rfl fun w L hR => ?_
 obtain ⟨hs, hbs⟩ := hR
 obtain ⟨rfl, ls⟩ := hs.slen
 obtain ⟨rfl, lb⟩ := hbs.slen
 have js0 : 0 ≤ s.length := Nat.zero_le _
 refine Ew Z1 (Est rfl (N.alloc ty_Fact dc) (fun b4 _ => (Ev Z4 (Est rfl (Nb [_] [_] us_Is f0 rfl rfl) (fun b6 _ => (n9 (A := _ :: _) (R3 (E := Enc.int) (e := tI) (Own.int i6)) rfl (Ey rfl ((I6 (pvs := [_]) (cs := [_, _]) ty_Fact a5t rfl rfl).yd) (Est rfl (N.alloc ty_Fact dc) (fun b5 _ => (Est rfl (Ns [_, _] ty_Fact rfl) (fun _ _ => (Eu (Eq_ (Ew Z2 (Em rfl (Est rfl (k6 L6 rfl rfl rfl dc (fun w Lp hA => hA.ro hs)) (fun _ _ => (Ent.b (fun q9 => ?_) (fun q9 => ?_)))))))))))))))))))
 ·have js := a0V q9
  refine Eu (l4 rfl (Ez Z4 (Em rfl (Em rfl (m6 (Est rfl (N.call (pre := [_]) (a4x (a0V q9).1 (a0V q9).2.2 fo) rfl rfl rfl dc rfl (fun w Lp hA => ⟨hA.ro hs, hA.ro hbs⟩)) (fun k12 o12 => ?_)))))))
  obtain ⟨rl12, vs12, ⟨a12, m12, c12⟩⟩ := k12
  replace o12 : (0 ≤ rl12 ∧ rl12 < s.length) ∧ 1 ≤ vs12.length ∧ vs12.length ≤ 3 := o12
  try (conv => arg 4; dsimp only)
  try (conv => arg 5; dsimp only [List.cons_append, List.nil_append, List.append_nil])
  refine i9 m0 fun e12 l12 => ?_
  subst e12
  refine j6 (Est rfl (Ns [_, _] ty_Fact rfl) (fun _ _ => (Eu (Eq_ (Ew Z2 (Em rfl (j6 (Est rfl (N.call (pre := [_]) x5 rfl rfl rfl dc rfl (fun w Lp hA => hA.ro hbs)) (fun x14 o14 => ?_)))))))))
  replace o14 : 0 ≤ x14 ∧ ((8 : Int) ≤ 0 → x14 = 0) ∧ (0 < (8 : Int) → x14 < (8 : Int)) := o14
  try (conv => arg 5; dsimp only [List.cons_append, List.nil_append, List.append_nil])
  refine Eu (E.block (Ew Z2 (Ey rfl ((Y.eql rfl rfl).yd) (Ei rfl (n0 (fun q15 => ?_) (fun q15 => ?_))))))
  ·refine Eu (l4 rfl (Ez Z5 (Em rfl (Est rfl (N.call (pre := [_]) x5 rfl rfl rfl dc rfl (fun w Lp hA => hA.ro hbs)) (fun x18 o18 => ?_)))))
   replace o18 : 0 ≤ x18 ∧ ((5 : Int) ≤ 0 → x18 = 0) ∧ (0 < (5 : Int) → x18 < (5 : Int)) := o18
   try (conv => arg 5; dsimp only [List.cons_append, List.nil_append, List.append_nil])
   refine Ey rfl ((Y.sub rfl rfl om om).yd) (Ey rfl ((i7 fo_Fact_0 f0 dc rfl).yd) (f7 (Est rfl (Ns [_, _] f0 rfl) (fun _ _ => (En (o4 (Et (Ew Z2 (Ey rfl (o0 (cs := [_, _]) ty_Fact rfl (Has.pt m0) rfl) (v7 (Est rfl (Ns [_, _] ty_Fact rfl) (fun _ _ => (Eu (E.ret (m6 (m6 (f7 ?_)))))))))))))))))
   exact J2 br rfl rfl (mS (mS m0)) ty_Fact rfl ((x18 - 1), vs12, (_, _, _)) (show (-1 ≤ (x18 - 1) ∧ (x18 - 1) ≤ 10) ∧ 1 ≤ vs12.length ∧ vs12.length ≤ 4 from by first | omega | (simp only [List.length_set, List.length_append, List.length_cons, List.length_nil]; omega)) rfl (J := _) (.refl _) (.inl rfl)
  ·refine Eu (l6 rfl (Ew Z2 (Ey rfl ((Y.eql rfl rfl).yd) (Ei rfl (n0 (fun q21 => ?_) (fun q21 => ?_))))))
   ·refine Eu (l4 rfl (O0 [b5, b4] (fun j => !(Nat.beq j 6)) mixed (C0 0 rfl rfl dc (i7 fo_Fact_1 ty_Is dc rfl) kr (Y6 1 rfl rfl dc (R2 ty_Is rfl ((O9.pt (mS m0) (by simp)).sub (cs' := [_]) 1 rfl) rfl) kr (C0 2 rfl rfl dc (j4 rfl) kr (F3 3 rfl rfl kr (fun _ _ => SameI.out) (Nb [_, _, _] [_, _, _] us_Is f0 rfl rfl) (fun b26 _ => (n9 (A := [_]) (Own.ints (e := tI) (xs := [-1, 9, 10]) rfl (by simp [maxLen]) (by simp only [List.forall_mem_cons]; exact ⟨i6, i6, i6, List.forall_mem_nil _⟩)) rfl (f7 (F3 4 rfl rfl kr (fun _ _ => SameI.out) (N.call (pre := [_]) (G9 dc) rfl rfl rfl dc rfl (fun w Lp hA => ⟨hA.ow m0, hA.ro hbs⟩)) (fun x27 o27 => ?_)))))))))))
    replace o27 : x27 ∈ ([-1, 9, 10]) := o27
    try (conv => arg 5; dsimp only [List.cons_append, List.nil_append, List.append_nil])
    have jp : -10 ≤ x27 ∧ x27 ≤ 10 := by simp at o27; omega
    refine a0R (mS (mS (mS m0))) om fun ab28 ae28 => (C0 5 rfl rfl dc (o6 us_Is f0 rfl ae28 rfl 0 rfl om) kr (m6 (F3 6 rfl rfl kr (fun _ _ => SameI.out) (N.set (E := Enc.int) (j := 0) (ex := x27) (ce := [_]) f0 rfl rfl rfl rfl (Own.int i6) ae28 (Nat.zero_add _) rfl (by first | (simp; omega) | omega | (simp; done))) (fun _ _ => (Q6 kr (o4 (Et (Ew Z2 (Ey rfl (o0 (cs := [_, _]) ty_Fact rfl (Has.pt (mS (mS (mS m0)))) rfl) (w9 (Est rfl (Ns [_, _] ty_Fact rfl) (fun _ _ => (Eu (E.ret (f7 (j6 (f7 ?_)))))))))))))))))
    exact J2 br rfl rfl (mS (mS m0)) ty_Fact rfl (rl12, vs12.set 0 x27, (_, _, _)) (show (-1 ≤ rl12 ∧ rl12 ≤ 10) ∧ 1 ≤ (vs12.set 0 x27).length ∧ (vs12.set 0 x27).length ≤ 4 from by first | omega | (simp only [List.length_set, List.length_append, List.length_cons, List.length_nil]; omega)) rfl (J := _) (.refl _) (.inl rfl)
   ·refine Eu (l6 rfl (Ew Z2 (Ey rfl ((Y.eql rfl rfl).yd) (Ei rfl (n0 (fun q29 => ?_) (fun q29 => ?_))))))
    ·refine Eu (l4 rfl (Ez Z6 (Ey rfl ((i7 fo_Fact_1 ty_Is dc rfl).yd) (Ey rfl (f8 ty_Is rfl (Hz (mS m0) 1 rfl) rfl) (Est rfl (Nb [_] [_] us_Is f0 rfl rfl) (fun b33 _ => (m6 (Est rfl (y6 (E := Enc.int) (ex := 1) us_Is f0 rfl rfl rfl (Own.int i6) rfl bn bn dc) (fun p34 _ => (Ey rfl ((i7 fo_Fact_1 ty_Is dc rfl).yd) (j6 (Est rfl (Ns [_, _] ty_Is rfl) (fun _ _ => (En (o4 (Et (Ew Z2 (Ey rfl (o0 (cs := [_, _]) ty_Fact rfl (Has.pt m0) rfl) (v7 (Est rfl (Ns [_, _] ty_Fact rfl) (fun _ _ => (Eu (E.ret (j6 (m6 (f7 ?_))))))))))))))))))))))))))
     exact J2 br rfl rfl (mS (mS m0)) ty_Fact rfl (rl12, vs12 ++ [1], (_, _, _)) (show (-1 ≤ rl12 ∧ rl12 ≤ 10) ∧ 1 ≤ (vs12 ++ [1]).length ∧ (vs12 ++ [1]).length ≤ 4 from by first | omega | (simp only [List.length_set, List.length_append, List.length_cons, List.length_nil]; omega)) rfl (J := _) (.refl _) (.inl rfl)
    ·refine Eu (l6 rfl (i8 (o4 (Et (Ew Z2 (Ey rfl (o0 (cs := [_, _]) ty_Fact rfl (Has.pt (mS m0)) rfl) (v7 (Est rfl (Ns [_, _] ty_Fact rfl) (fun _ _ => (Eu (E.ret (m6 (j6 (f7 ?_))))))))))))))
     exact J2 br rfl rfl (mS (mS m0)) ty_Fact rfl (rl12, vs12, (_, _, _)) (show (-1 ≤ rl12 ∧ rl12 ≤ 10) ∧ 1 ≤ vs12.length ∧ vs12.length ≤ 4 from by first | omega | (simp only [List.length_set, List.length_append, List.length_cons, List.length_nil]; omega)) rfl (J := _) (.refl _) (.inl rfl)
 ·refine Eu (l6 rfl (i8 (Et (Eq_ (Ew Z2 (Em rfl (m6 (Est rfl (N.call (pre := [_]) x5 rfl rfl rfl dc rfl (fun w Lp hA => hA.ro hbs)) (fun x14 o14 => ?_)))))))))
  replace o14 : 0 ≤ x14 ∧ ((8 : Int) ≤ 0 → x14 = 0) ∧ (0 < (8 : Int) → x14 < (8 : Int)) := o14
  try (conv => arg 5; dsimp only [List.cons_append, List.nil_append, List.append_nil])
  refine Eu (E.block (Ew Z2 (Ey rfl ((Y.eql rfl rfl).yd) (Ei rfl (n0 (fun q15 => ?_) (fun q15 => ?_))))))
  ·refine Eu (l4 rfl (Ez Z5 (Em rfl (Est rfl (N.call (pre := [_]) x5 rfl rfl rfl dc rfl (fun w Lp hA => hA.ro hbs)) (fun x18 o18 => ?_)))))
   replace o18 : 0 ≤ x18 ∧ ((5 : Int) ≤ 0 → x18 = 0) ∧ (0 < (5 : Int) → x18 < (5 : Int)) := o18
   try (conv => arg 5; dsimp only [List.cons_append, List.nil_append, List.append_nil])
   refine Ey rfl ((Y.sub rfl rfl om om).yd) (Ey rfl ((i7 fo_Fact_0 f0 dc rfl).yd) (f7 (Est rfl (Ns [_, _] f0 rfl) (fun _ _ => (En (o4 (Et (Ew Z2 (Ey rfl (o0 (cs := [_, _]) ty_Fact rfl (Has.pt m0) rfl) (m6 (Est rfl (Ns [_, _] ty_Fact rfl) (fun _ _ => (Eu (E.ret (m6 (m6 (f7 ?_)))))))))))))))))
   exact J2 br rfl rfl (mS (mS m0)) ty_Fact rfl ((x18 - 1), [1], (_, _, _)) (show (-1 ≤ (x18 - 1) ∧ (x18 - 1) ≤ 10) ∧ 1 ≤ ([1] : List Int).length ∧ ([1] : List Int).length ≤ 4 from by first | omega | (simp only [List.length_set, List.length_append, List.length_cons, List.length_nil]; omega)) rfl (J := _) (.refl _) (.inl rfl)
  ·refine Eu (l6 rfl (Ew Z2 (Ey rfl ((Y.eql rfl rfl).yd) (Ei rfl (n0 (fun q21 => ?_) (fun q21 => ?_))))))
   ·refine Eu (l4 rfl (O0 [b5, b4] (fun j => !(Nat.beq j 6)) mixed (C0 0 rfl rfl dc (i7 fo_Fact_1 ty_Is dc rfl) kr (Y6 1 rfl rfl dc (R2 ty_Is rfl ((O9.pt (mS m0) (by simp)).sub (cs' := [_]) 1 rfl) rfl) kr (C0 2 rfl rfl dc (j4 rfl) kr (F3 3 rfl rfl kr (fun _ _ => SameI.out) (Nb [_, _, _] [_, _, _] us_Is f0 rfl rfl) (fun b26 _ => (n9 (A := [_]) (Own.ints (e := tI) (xs := [-1, 9, 10]) rfl (by simp [maxLen]) (by simp only [List.forall_mem_cons]; exact ⟨i6, i6, i6, List.forall_mem_nil _⟩)) rfl (f7 (F3 4 rfl rfl kr (fun _ _ => SameI.out) (N.call (pre := [_]) (G9 dc) rfl rfl rfl dc rfl (fun w Lp hA => ⟨hA.ow m0, hA.ro hbs⟩)) (fun x27 o27 => ?_)))))))))))
    replace o27 : x27 ∈ ([-1, 9, 10]) := o27
    try (conv => arg 5; dsimp only [List.cons_append, List.nil_append, List.append_nil])
    have jp : -10 ≤ x27 ∧ x27 ≤ 10 := by simp at o27; omega
    refine C0 5 rfl rfl dc (o6 us_Is f0 rfl rfl rfl 0 rfl om) kr (m6 (F3 6 rfl rfl kr (fun _ _ => SameI.out) (N.set (E := Enc.int) (j := 0) (ex := x27) (ce := [_]) f0 rfl rfl rfl rfl (Own.int i6) rfl (Nat.zero_add _) rfl (by first | (simp; omega) | omega | (simp; done))) (fun _ _ => (Q6 kr (o4 (Et (Ew Z2 (Ey rfl (o0 (cs := [_, _]) ty_Fact rfl (Has.pt (mS (mS (mS m0)))) rfl) (v7 (Est rfl (Ns [_, _] ty_Fact rfl) (fun _ _ => (Eu (E.ret (f7 (j6 (f7 ?_))))))))))))))))
    exact J2 br rfl rfl (mS (mS m0)) ty_Fact rfl (0, ([1]).set 0 x27, (_, _, _)) (show (-1 ≤ (0 : Int) ∧ (0 : Int) ≤ 10) ∧ 1 ≤ (([1]).set 0 x27).length ∧ (([1]).set 0 x27).length ≤ 4 from by first | omega | (simp only [List.length_set, List.length_append, List.length_cons, List.length_nil]; omega)) rfl (J := _) (.refl _) (.inl rfl)
   ·refine Eu (l6 rfl (Ew Z2 (Ey rfl ((Y.eql rfl rfl).yd) (Ei rfl (n0 (fun q29 => ?_) (fun q29 => ?_))))))
    ·refine Eu (l4 rfl (Ez Z6 (Ey rfl ((i7 fo_Fact_1 ty_Is dc rfl).yd) (Ey rfl (f8 ty_Is rfl (Hz (mS m0) 1 rfl) rfl) (Est rfl (Nb [_] [_] us_Is f0 rfl rfl) (fun b33 _ => (m6 (Est rfl (y6 (E := Enc.int) (ex := 1) us_Is f0 rfl rfl rfl (Own.int i6) rfl bn bn dc) (fun p34 _ => (Ey rfl ((i7 fo_Fact_1 ty_Is dc rfl).yd) (j6 (Est rfl (Ns [_, _] ty_Is rfl) (fun _ _ => (En (o4 (Et (Ew Z2 (Ey rfl (o0 (cs := [_, _]) ty_Fact rfl (Has.pt m0) rfl) (m6 (Est rfl (Ns [_, _] ty_Fact rfl) (fun _ _ => (Eu (E.ret (j6 (m6 (f7 ?_))))))))))))))))))))))))))
     exact J2 br rfl rfl (mS (mS m0)) ty_Fact rfl (0, ([1]) ++ [1], (_, _, _)) (show (-1 ≤ (0 : Int) ∧ (0 : Int) ≤ 10) ∧ 1 ≤ (([1]) ++ [1]).length ∧ (([1]) ++ [1]).length ≤ 4 from by first | omega | (simp only [List.length_set, List.length_append, List.length_cons, List.length_nil]; omega)) rfl (J := _) (.refl _) (.inl rfl)
    ·refine Eu (l6 rfl (i8 (o4 (Et (Ew Z2 (Ey rfl (o0 (cs := [_, _]) ty_Fact rfl (Has.pt (mS m0)) rfl) (m6 (Est rfl (Ns [_, _] ty_Fact rfl) (fun _ _ => (Eu (E.ret (m6 (j6 (f7 ?_))))))))))))))
     exact J2 br rfl rfl (mS (mS m0)) ty_Fact rfl (0, [1], (_, _, _)) (show (-1 ≤ (0 : Int) ∧ (0 : Int) ≤ 10) ∧ 1 ≤ ([1] : List Int).length ∧ ([1] : List Int).length ≤ 4 from by first | omega | (simp only [List.length_set, List.length_append, List.length_cons, List.length_nil]; omega)) rfl (J := _) (.refl _) (.inl rfl)
theorem a0S {bs : List UInt8} : Tr Tryz.prog 42 [.pointer (some ⟨b_c, 0, none⟩), .slice a_s m_s c_s] (fun w L => Ro w L eIs [.slice a_s m_s c_s] s ∧ Ro w L U3 [.slice a_b m_b c_b] bs) [cur b_c a_b m_b c_b] (κ := (List (Int × List Int)) × Option Addr × Nat × Nat) (fun k => k.1.length ≤ 9 ∧ ∀ f ∈ k.1, 1 ≤ f.2.length ∧ f.2.length ≤ 4) (fun k => .slice k.2.1 k.2.2.1 k.2.2.2) (fun k => [ow r7 [.slice k.2.1 k.2.2.1 k.2.2.2] k.1, cur b_c a_b m_b c_b]) := by
 refine Tr.intro Tryz.func42 rfl (n := 21) rfl (by decide +kernel) bl (fr := [(0, .pointer (some ⟨b_c, 0, none⟩)), (1, .slice a_s m_s c_s)]) rfl fun w L hR => ?_
 obtain ⟨hs, hbs⟩ := hR
 obtain ⟨rfl, ls⟩ := hs.slen
 obtain ⟨rfl, lb⟩ := hbs.slen
 refine Ew Z1 (Ei rfl (Ev Z2 (Est rfl (Nb [] [] us_Facts ty_Fact rfl rfl) (fun b6 _ => (Ent.drop (Ei rfl (Eu (Eq_ (Ew Z2 (Em rfl (Est rfl (k6 L6 rfl rfl rfl dc (fun w Lp hA => hA.ro hs)) (fun _ _ => (Ent.b (fun q8 => ?_) (fun q8 => ?_))))))))))))))
 ·refine Eu (l4 rfl (Ez Z4 (Em rfl (Em rfl (Est rfl (N.call (pre := [_]) (a3D (a0V q8).1 (a0V q8).2.2 fo) rfl rfl rfl dc rfl (fun w Lp hA => ⟨hA.ro hs, hA.ro hbs⟩)) (fun k11 o11 => ?_))))))
  obtain ⟨fl11, ⟨a11, m11, c11⟩⟩ := k11
  replace o11 : (↑fl11.length : Int) ≤ (8 : Int) ∧ ∀ f ∈ fl11, 1 ≤ f.2.length ∧ f.2.length ≤ 3 := o11
  try (conv => arg 4; dsimp only)
  try (conv => arg 5; dsimp only [List.cons_append, List.nil_append, List.append_nil])
  refine i9 m0 fun e11 l11 => ?_
  subst e11
  refine Ei rfl (Eu (Eq_ (Ew Z2 (Em rfl (f7 (Est rfl (N.call (pre := [_]) R5 rfl rfl rfl dc rfl (fun w Lp hA => hA.ro hbs)) (fun o13 o13 => ?_)))))))
  replace o13 : True := o13
  try (conv => arg 5; dsimp only [List.cons_append, List.nil_append, List.append_nil])
  refine Ent.b (fun q13 => ?_) (fun q13 => ?_)
  ·refine Eu (l4 rfl (Ez Z7 (Em rfl (Em rfl (Em rfl (Est rfl (N.call (pre := [_]) a2p rfl rfl rfl dc rfl (fun w Lp hA => ⟨hA.ro hs, hA.ro hbs⟩)) (fun k17 o17 => ?_)))))))
   obtain ⟨rl17, vs17, ⟨a17, m17, c17⟩⟩ := k17
   replace o17 : (-1 ≤ rl17 ∧ rl17 ≤ 10) ∧ 1 ≤ vs17.length ∧ vs17.length ≤ 4 := o17
   try (conv => arg 4; dsimp only)
   try (conv => arg 5; dsimp only [List.cons_append, List.nil_append, List.append_nil])
   refine i9 m0 fun e17 l17 => ?_
   subst e17
   refine Est rfl (Nb [_] [_, _] us_Facts ty_Fact rfl rfl) (fun b18 _ => (f7 (f7 (m6 (Est rfl (y6 (E := F0) (ex := (rl17, vs17)) us_Facts ty_Fact rfl rfl rfl (I9 (x := (rl17, vs17)) i6 Own.ow) rfl bn bn dc) (fun p19 _ => (Ei rfl (Ev Z2 (Em rfl (Ei rfl (Eu (E.ret (f7 (f7 ?_))))))))))))))
   exact F.r1 br rfl rfl (fl11 ++ [(rl17, vs17)], (_, _, _)) (show (fl11 ++ [(rl17, vs17)]).length ≤ 9 ∧ ∀ f ∈ (fl11 ++ [(rl17, vs17)]), 1 ≤ f.2.length ∧ f.2.length ≤ 4 from by first | exact a4b rfl | exact a0J o11 | exact a2X o11 o17.2 | exact a2N o17.2) rfl (J := _) (.refl _) (.inl rfl)
  ·refine Eu (l6 rfl (i8 (Et (Ew Z2 (Em rfl (Ei rfl (Eu (E.ret (f7 (f7 (f7 ?_)))))))))))
   exact F.r1 br rfl rfl (fl11, (_, _, _)) (show fl11.length ≤ 9 ∧ ∀ f ∈ fl11, 1 ≤ f.2.length ∧ f.2.length ≤ 4 from by first | exact a4b rfl | exact a0J o11 | exact a2X o11 o17.2 | exact a2N o17.2) rfl (J := _) (.refl _) (.inl rfl)
 ·refine Eu (l6 rfl (i8 (Et (Eq_ (Ew Z2 (Em rfl (Est rfl (N.call (pre := [_]) R5 rfl rfl rfl dc rfl (fun w Lp hA => hA.ro hbs)) (fun o13 o13 => ?_))))))))
  replace o13 : True := o13
  try (conv => arg 5; dsimp only [List.cons_append, List.nil_append, List.append_nil])
  refine Ent.b (fun q13 => ?_) (fun q13 => ?_)
  ·refine Eu (l4 rfl (Ez Z7 (Em rfl (Em rfl (Em rfl (Est rfl (N.call (pre := [_]) a2p rfl rfl rfl dc rfl (fun w Lp hA => ⟨hA.ro hs, hA.ro hbs⟩)) (fun k17 o17 => ?_)))))))
   obtain ⟨rl17, vs17, ⟨a17, m17, c17⟩⟩ := k17
   replace o17 : (-1 ≤ rl17 ∧ rl17 ≤ 10) ∧ 1 ≤ vs17.length ∧ vs17.length ≤ 4 := o17
   try (conv => arg 4; dsimp only)
   try (conv => arg 5; dsimp only [List.cons_append, List.nil_append, List.append_nil])
   refine i9 m0 fun e17 l17 => ?_
   subst e17
   refine Est rfl (Nb [_] [_, _] us_Facts ty_Fact rfl rfl) (fun b18 _ => (n9 (A := []) (Own.nil (E := F0) (e := tFact) (a := (some ⟨b6, 0, none⟩))) rfl (j6 (j6 (j6 (Est rfl (y6 (E := F0) (ex := (rl17, vs17)) us_Facts ty_Fact rfl rfl rfl (I9 (x := (rl17, vs17)) i6 Own.ow) rfl bn bn dc) (fun p19 _ => (Ei rfl (Ev Z2 (Em rfl (Ei rfl (Eu (E.ret (f7 (f7 ?_)))))))))))))))
   exact F.r1 br rfl rfl ([] ++ [(rl17, vs17)], (_, _, _)) (show ([] ++ [(rl17, vs17)] : List (Int × List Int)).length ≤ 9 ∧ ∀ f ∈ ([] ++ [(rl17, vs17)] : List (Int × List Int)), 1 ≤ f.2.length ∧ f.2.length ≤ 4 from by first | exact a4b rfl | exact a0J o11 | exact a2X o11 o17.2 | exact a2N o17.2) rfl (J := _) (.refl _) (.inl rfl)
  ·refine Eu (l6 rfl (i8 (Et (Ew Z2 (Em rfl (Ei rfl (Eu (E.ret (n9 (A := []) (Own.nil (E := F0) (e := tFact) (a := (some ⟨b6, 0, none⟩))) rfl (f7 (f7 ?_)))))))))))
   exact F.r1 br rfl rfl ([], ((some ⟨b6, 0, none⟩), 0, 0)) (show ([] : List (Int × List Int)).length ≤ 9 ∧ ∀ f ∈ ([] : List (Int × List Int)), 1 ≤ f.2.length ∧ f.2.length ≤ 4 from by first | exact a4b rfl | exact a0J o11 | exact a2X o11 o17.2 | exact a2N o17.2) rfl (J := _) (.refl _) (.inl rfl)
end Go.Proofs.YtlfhopooaejpfaaGreat
