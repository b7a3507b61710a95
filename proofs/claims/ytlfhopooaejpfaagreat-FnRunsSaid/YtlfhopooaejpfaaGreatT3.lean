import Derived.Test.YtlfhopooaejpfaaGreatT1
namespace Go.Proofs.YtlfhopooaejpfaaGreat
open Go.RowKit
set_option linter.all false
set_option maxHeartbeats 2000000
attribute [local irreducible] Nop Yd Yp Ent Has Tr FnP FnP2 Src
variable {method : Int} {l : List (Int × List Int × Int × Int × Int)} {log : List (Int × List Int)} {m_log c_log m_l c_l : Nat} {a_log a_l : Option Addr}
theorem b1W {is : Bool} : Tr Tryz.prog 73 [.bool is] (fun w L => True) [] (κ := Unit) (fun k => True) (fun k => .int .i64 (a3i is)) (fun k => []) := by
 refine Tr.intro Tryz.func73 rfl (n := 4) rfl (by decide +kernel) bl (fr := [(0, .bool is)]) rfl fun w L hR => (Ew Z1 (Ei rfl (Eu (Eq_ (Ew Z1 (Em rfl (Ent.b (fun q3 => ?_) (fun q3 => ?_))))))))
 ·refine Eu (l4 rfl (Ew Z1 (Ei rfl ?_)))
  exact Eu (E.ret (l0 (Fg rfl rfl () (congrArg (Value.int .i64) (by simp_all [a3i])) rfl)))
 ·refine Eu (l6 rfl (i8 (Et (Ew Z1 (Ei rfl ?_)))))
  exact Eu (E.ret (Fg rfl rfl () (congrArg (Value.int .i64) (by simp_all [a3i])) rfl))
theorem a4y : Tr Tryz.prog 20 [.slice a_log m_log c_log, .int .i64 method] (fun w L => Ro w L B5 [.slice a_log m_log c_log] log) [] (κ := Unit) (fun k => True) (fun k => .int .i64 (a0T log method)) (fun k => []) := by
 refine Tr.intro Tryz.func20 rfl (n := 23) rfl (by decide +kernel) bl (fr := [(0, .slice a_log m_log c_log), (1, .int .i64 method)]) rfl fun w L hR => ?_
 have hlog := hR
 obtain ⟨rfl, llog⟩ := hlog.slen
 refine Ew Z1 (Ei rfl (Ev Z1 (Ei rfl (Eu (Eq_ (Ew Z3 (Em rfl (Ey rfl ((Y.len us_Accesss rfl).yd) (Em rfl (Eu (E.block (E.loop (κ := Nat) (fun g => g ≤ log.length) (fun g => [(1, .int .i64 method), (5, .int .i64 (a0T (log.take g) method)), (8, .slice a_log log.length c_log), (9, .int .i64 (↑log.length : Int)), (10, .int .i64 (g : Int))]) (fun g => []) (fun g => log.length - g) 0 (Nat.zero_le _) ⟨rfl, rfl, rfl, rfl, rfl, trivial⟩ (.refl _) (fun g pg => ?_)))))))))))))
 have u1 := b1F (l := log.take g) (m := method)
 have u2 := b0N (l := log) (m := method) (g := g)
 refine Ew Z1 (Ey rfl ((Y.lss rfl rfl).yd) (n0 (fun q11 => ?_) (fun q11 => ?_)))
 ·obtain ⟨eb12, eo12, ec12, ea12, er12, el12, eh12⟩ := hlog.elem g om
  obtain ⟨xa12_0, xc12_0, rfl, ei12_0, xh12_0⟩ := N0 er12
  have := xh12_0.slen.2
  refine Eu (Eq_ (l4 rfl (i8 (Et (Eq_ (E.block (Ew Z4 (Ey rfl ((o6 us_Accesss ty_Access rfl ea12 rfl g rfl om).yd) (Ey rfl (o0 (cs := [_, _]) ty_Access rfl (eh12 _) rfl) (Est rfl (N.alloc ty_Access dc) (fun b7 _ => (Est rfl (Ns [_, _] ty_Access rfl) (fun _ _ => (Eu (Ez Z8 (Em rfl (Ey rfl ((i7 fo_Access_0 f0 dc rfl).yd) (Ey rfl (f8 f0 rfl (Hz m0 0 rfl) rfl) (Em rfl (Ey rfl ((Y.eql rfl rfl).yd) (Est rfl (k6 b1W rfl rfl rfl dc tv) (fun _ _ => ?_))))))))))))))))))))))
  have u3 : 0 ≤ a3i (decide (log[g].1 = method)) ∧ a3i (decide (log[g].1 = method)) ≤ 1 := by unfold a3i; split <;> omega
  refine Ey rfl ((Y.add rfl rfl om om).yd) (Ei rfl (En (o4 (Et (Ez Z2 (Ey rfl ((Y.add rfl rfl om om).yd) (Em rfl (Eu (Ent.drop ?_)))))))))
  exact u9 br (g + 1) ⟨rfl, frI (a5e om).symm, rfl, rfl, rfl, trivial⟩ (.refl _) om om
 ·refine Eu (Eq_ (l6 rfl (E.exit (n8 (n8 (w5 (Et (Ew Z2 (Em rfl (Ei rfl ?_))))))))))
  exact Eu (E.ret (Fg rfl rfl () (congrArg (Value.int .i64) (by rw [List.take_of_length_le om])) rfl))
theorem a8N : Tr Tryz.prog 77 [.slice a_log m_log c_log, .int .i64 method] (fun w L => Ro w L B5 [.slice a_log m_log c_log] log) [] (κ := Unit) (fun k => True) (fun k => .int .i64 (a0T log method)) (fun k => []) := by
 refine Tr.intro Tryz.func77 rfl (n := 23) rfl (by decide +kernel) bl (fr := [(0, .slice a_log m_log c_log), (1, .int .i64 method)]) rfl fun w L hR => ?_
 have hlog := hR
 obtain ⟨rfl, llog⟩ := hlog.slen
 refine Ew Z1 (Ei rfl (Ev Z1 (Ei rfl (Eu (Eq_ (Ew Z1 (Ei rfl (Eu (E.block (E.loop (κ := Nat) (fun g => g ≤ log.length) (fun g => [(0, .slice a_log log.length c_log), (1, .int .i64 method), (5, .int .i64 (a0T (log.take g) method)), (6, .int .i64 (g : Int))]) (fun g => []) (fun g => log.length - g) 0 (Nat.zero_le _) ⟨rfl, rfl, rfl, rfl, trivial⟩ (.refl _) (fun g pg => ?_)))))))))))
 have u1 := b1F (l := log.take g) (m := method)
 have u2 := b0N (l := log) (m := method) (g := g)
 refine Eq_ (Ew Z4 (Em rfl (Em rfl (Ey rfl ((Y.len us_Accesss rfl).yd) (Ey rfl ((Y.lss rfl rfl).yd) (n0 (fun q10 => ?_) (fun q10 => ?_)))))))
 ·refine Eu (l4 rfl (i8 (Et (Eq_ (E.block (Ew Z7 (Em rfl (Em rfl ?_))))))))
  obtain ⟨eb15, eo15, ec15, ea15, er15, el15, eh15⟩ := hlog.elem g om
  obtain ⟨xa15_0, xc15_0, rfl, ei15_0, xh15_0⟩ := N0 er15
  have := xh15_0.slen.2
  refine Ey rfl ((o6 us_Accesss ty_Access rfl ea15 rfl g rfl om).yd) (Ey rfl ((i7 fo_Access_0 f0 dc rfl).yd) (Ey rfl (f8 f0 rfl ((eh15 _).sub (cs' := [_]) 0 rfl) rfl) (Em rfl (Ey rfl ((Y.eql rfl rfl).yd) (n0 (fun q19 => ?_) (fun q19 => ?_))))))
  ·refine Eu (l4 rfl (Ez Z3 (Em rfl (Ey rfl ((Y.add rfl rfl om om).yd) (Ei rfl (En (o4 (Et (Ez Z3 (Em rfl (Ey rfl ((Y.add rfl rfl om om).yd) (Ei rfl ?_))))))))))))
   exact Eu (u9 br (g + 1) ⟨rfl, rfl, frI (by rw [a5e om]; simp [a3i, q19]), rfl, trivial⟩ (.refl _) om om)
  ·refine Eu (l6 rfl (i8 (o4 (Et (Ez Z3 (Em rfl (Ey rfl ((Y.add rfl rfl om om).yd) (Ei rfl ?_))))))))
   exact Eu (u9 br (g + 1) ⟨rfl, rfl, frI (by rw [a5e om]; simp [a3i, q19]), rfl, trivial⟩ (.refl _) om om)
 ·refine Eu (l6 rfl (E.exit (n8 (n8 (w5 (Et (Ew Z2 (Em rfl (Ei rfl ?_)))))))))
  exact Eu (E.ret (Fg rfl rfl () (congrArg (Value.int .i64) (by rw [List.take_of_length_le om])) rfl))
theorem a3g {j3 : Int} {w4 : Option Addr} {y5 w3 : Nat} {j9 : List Int} {b_l : Nat} {b_log : Nat} : Tr Tryz.prog 76 [.agg #[.int .i64 j3, .slice w4 y5 w3], .pointer (some ⟨b_l, 0, none⟩), .pointer (some ⟨b_log, 0, none⟩)] (fun w L => (I64 j3 ∧ Ro w L eIs [.slice w4 y5 w3] j9) ∧ RoPt w L b_l [.slice a_l m_l c_l] ∧ Ro w L C8 [.slice a_l m_l c_l] l ∧ RoPt w L b_log [.slice a_log m_log c_log] ∧ Ro w L B5 [.slice a_log m_log c_log] log) [] (κ := Unit) (fun k => True) (fun k => .bool (U6 l log j3)) (fun k => []) := by
 refine Tr.intro Tryz.func76 rfl (n := 25) rfl (by decide +kernel) bl (fr := [(0, .agg #[.int .i64 j3, .slice w4 y5 w3]), (1, .pointer (some ⟨b_l, 0, none⟩)), (2, .pointer (some ⟨b_log, 0, none⟩))]) rfl fun w L hR => ?_
 obtain ⟨⟨I8, C5⟩, hb_l, hl, hb_log, hlog⟩ := hR
 obtain ⟨rfl, P2⟩ := C5.slen
 obtain ⟨rfl, ll⟩ := hl.slen
 obtain ⟨rfl, llog⟩ := hlog.slen
 refine Ew Z2 (Est rfl (N.box (cs := [_, _]) rfl dc rfl) (fun b3 _ => (Ei rfl (Eu (Eq_ (D.region (fun j => true) mixed (Dyp 0 rfl (i7 fo_Access_0 f0 dc rfl) (Dy 1 rfl (f8 f0 rfl (Hz m0 0 rfl) rfl) (Dy 2 rfl (f8 ty_Methods rfl (hb_l.has) rfl) (Dyp 3 rfl (Y.len us_Methods rfl) (Dyp 4 rfl (Y.sub rfl rfl om om) (u7 5 rfl rfl kr (fun _ => rfl) (k6 I1 rfl rfl rfl dc tv) (fun _ _ => (Ent.b (fun q10 => ?_) (fun q10 => ?_)))))))))))))))
 ·obtain ⟨z1, z2⟩ := a1G q10
  refine Dyp 6 rfl (Y.not (b := true) rfl) (Dyp 7 rfl (j4 rfl) (Dy 8 rfl (f8 ty_Accesss rfl (hb_log.has) rfl) (Dyp 9 rfl (i7 fo_Access_0 f0 dc rfl) (Dy 10 rfl (f8 f0 rfl (Hz m0 0 rfl) rfl) (Dy 12 rfl (f8 ty_Methods rfl (hb_l.has) rfl) (Dyp 13 rfl (i7 fo_Access_0 f0 dc rfl) (Dy 14 rfl (f8 f0 rfl (Hz m0 0 rfl) rfl) ?_)))))))
  obtain ⟨eb20, eo20, ec20, ea20, er20, el20, eh20⟩ := hl.elem j3.toNat om
  obtain ⟨xa20_0, xc20_0, rfl, ei20_0, xh20_0, ei20_2, ei20_3, ei20_4⟩ := H9 er20
  have := xh20_0.slen.2
  refine Dyp 15 rfl (o6 us_Methods ty_Method rfl ea20 rfl j3.toNat om om) (Dyp 16 rfl (i7 fo_Method_4 f0 dc rfl) (Dy 17 rfl (f8 f0 rfl ((eh20 _).sub (cs' := [_]) 4 rfl) rfl) (u7 11 rfl rfl kr (fun _ => rfl) (k6 a4y rfl rfl rfl dc (fun w Lp hA => hA.ro hlog)) (fun _ _ => (Dyp 18 rfl (Y.gtr rfl rfl) (Dyp 19 rfl (r9 rfl rfl) (Dyp 20 rfl (G1 rfl) ?_)))))))
  exact o3 kr (Et (E.ret (Fb rfl rfl (by rw [a4M q10 (a7L om)]))))
 ·refine Dyp 6 rfl (Y.not (b := false) rfl) (Dyp 7 rfl (j4 rfl) (Dsk 8 rfl (Dsk 9 rfl (Dsk 10 rfl (Dsk 11 rfl (Dsk 12 rfl (Dsk 13 rfl (Dsk 14 rfl (Dsk 15 rfl (Dsk 16 rfl (Dsk 17 rfl (Dsk 18 rfl (Dyp 19 rfl (s6 rfl rfl) (Dyp 20 rfl (G1 rfl) ?_))))))))))))))
  exact o3 kr (Et (E.ret (Fb rfl rfl (by rw [a8p q10]))))
theorem a4g : Tr Tryz.prog 22 [.slice a_l m_l c_l, .slice a_log m_log c_log] (fun w L => Ro w L C8 [.slice a_l m_l c_l] l ∧ Ro w L B5 [.slice a_log m_log c_log] log) [] (κ := Unit) (fun k => True) (fun k => .bool (a3z l log)) (fun k => []) := by
 refine Tr.intro Tryz.func22 rfl (n := 9) rfl (by decide +kernel) bl (fr := [(0, .slice a_l m_l c_l), (1, .slice a_log m_log c_log)]) rfl fun w L hR => ?_
 obtain ⟨hl, hlog⟩ := hR
 obtain ⟨rfl, ll⟩ := hl.slen
 obtain ⟨rfl, llog⟩ := hlog.slen
 refine Ew Z3 (Est rfl (N.box (cs := [_]) rfl dc rfl) (fun b2 _ => (Est rfl (N.box (cs := [_]) rfl dc rfl) (fun b3 _ => (Ei rfl (Ev Z5 (Ey rfl (f8 ty_Accesss rfl (Has.pt m0) rfl) (Ey rfl ((Y.fn (vs := [_, _]) rfl).yd) (Est rfl (k6 (a1n (f := (fun z => U6 l log z.1)) (D_f := (fun _ => True)) (by intros; exact trivial)) rfl rfl rfl dc (fun w Lp hA => ⟨hA.ro hlog, a5h (D := (fun _ => True)) (fun hd => a3g) (fun w' hk => ⟨(hA.pt (mS m0)).keep hk, (hA.ro hl).keep hk, (hA.pt m0).keep hk, (hA.ro hlog).keep hk⟩)⟩)) (fun _ _ => (Ey rfl ((Y.not rfl).yd) (Ei rfl ?_))))))))))))
 exact Eu (E.ret (Fb rfl rfl (by rfl)))
theorem a3U : Tr Tryz.prog 23 [.slice a_l m_l c_l, .slice a_log m_log c_log] (fun w L => Ro w L C8 [.slice a_l m_l c_l] l ∧ Ro w L B5 [.slice a_log m_log c_log] log) [] (κ := Unit) (fun k => True) (fun k => .bool (a3z l log)) (fun k => []) := by
 refine Tr.intro Tryz.func23 rfl (n := 41) rfl (by decide +kernel) bl (fr := [(0, .slice a_l m_l c_l), (1, .slice a_log m_log c_log)]) rfl fun w L hR => ?_
 obtain ⟨hl, hlog⟩ := hR
 obtain ⟨rfl, ll⟩ := hl.slen
 obtain ⟨rfl, llog⟩ := hlog.slen
 refine Ew Z1 (Ei rfl (Eu (Eq_ (Ew Z1 (Ei rfl (Eu (E.block (E.loop (κ := Nat) (fun g => g ≤ log.length ∧ ∀ x ∈ log.take g, U6 l log x.1 = false) (fun g => [(0, .slice a_l l.length c_l), (1, .slice a_log log.length c_log), (5, .int .i64 (g : Int))]) (fun g => []) (fun g => log.length - g) 0 ⟨by omega, by simp⟩ ⟨rfl, rfl, rfl, trivial⟩ (.refl _) (fun g pg => ?_)))))))))
 obtain ⟨pk, pa⟩ := pg
 refine Eq_ (Ew Z4 (Em rfl (Em rfl (Ey rfl ((Y.len us_Accesss rfl).yd) (Ey rfl ((Y.lss rfl rfl).yd) (n0 (fun q9 => ?_) (fun q9 => ?_)))))))
 ·refine Eu (l4 rfl (i8 (Et (Eq_ (E.block (Eq_ (D.region (fun j => true) mixed (Dyp 0 rfl (j4 rfl) (Dyp 1 rfl (j4 rfl) ?_)))))))))
  obtain ⟨eb14, eo14, ec14, ea14, er14, el14, eh14⟩ := hlog.elem g om
  obtain ⟨xa14_0, xc14_0, rfl, ei14_0, xh14_0⟩ := N0 er14
  have := xh14_0.slen.2
  refine Dyp 2 rfl (o6 us_Accesss ty_Access rfl ea14 rfl g rfl om) (Dyp 3 rfl (i7 fo_Access_0 f0 dc rfl) (Dy 4 rfl (f8 f0 rfl ((eh14 _).sub (cs' := [_]) 0 rfl) rfl) (Dyp 5 rfl (j4 rfl) (Dyp 6 rfl (Y.len us_Methods rfl) (Dyp 7 rfl (Y.sub rfl rfl om om) (u7 8 rfl rfl kr (fun _ => rfl) (k6 F9 rfl rfl rfl dc tv) (fun _ _ => (Ent.b (fun q20 => ?_) (fun q20 => ?_)))))))))
  ·obtain ⟨z1, z2⟩ := a1G q20
   refine Dyp 9 rfl (Y.not (b := true) rfl) (Dyp 10 rfl (j4 rfl) (Dyp 11 rfl (j4 rfl) (Dyp 12 rfl (j4 rfl) (Dyp 13 rfl (j4 rfl) (Dyp 14 rfl (o6 us_Accesss ty_Access rfl ea14 rfl g rfl om) (Dyp 15 rfl (i7 fo_Access_0 f0 dc rfl) (Dy 16 rfl (f8 f0 rfl ((eh14 _).sub (cs' := [_]) 0 rfl) rfl) (Dyp 18 rfl (j4 rfl) (Dyp 19 rfl (j4 rfl) (Dyp 20 rfl (j4 rfl) (Dyp 21 rfl (o6 us_Accesss ty_Access rfl ea14 rfl g rfl om) (Dyp 22 rfl (i7 fo_Access_0 f0 dc rfl) (Dy 23 rfl (f8 f0 rfl ((eh14 _).sub (cs' := [_]) 0 rfl) rfl) ?_)))))))))))))
   obtain ⟨eb36, eo36, ec36, ea36, er36, el36, eh36⟩ := hl.elem log[g].1.toNat om
   obtain ⟨xa36_0, xc36_0, rfl, ei36_0, xh36_0, ei36_2, ei36_3, ei36_4⟩ := H9 er36
   have := xh36_0.slen.2
   refine Dyp 24 rfl (o6 us_Methods ty_Method rfl ea36 rfl log[g].1.toNat om om) (Dyp 25 rfl (i7 fo_Method_4 f0 dc rfl) (Dy 26 rfl (f8 f0 rfl ((eh36 _).sub (cs' := [_]) 4 rfl) rfl) (u7 17 rfl rfl kr (fun _ => rfl) (k6 a8N rfl rfl rfl dc (fun w Lp hA => hA.ro hlog)) (fun _ _ => (Dyp 27 rfl (Y.gtr rfl rfl) (n0 (fun q39 => ?_) (fun q39 => ?_)))))))
   ·refine Dyp 28 rfl (r9 rfl rfl) (o3 kr (Et (l4 rfl (Ew Z1 (Ei rfl ?_)))))
    exact Eu (E.ret (t7 (l0 (l0 (t7 (l0 (Fb rfl rfl (by rw [a3z, a3w (p := fun a => U6 l log a.1) (show g < log.length by omega) ((a4M q20 (a7L om)).trans (decide_eq_true q39))]; rfl))))))))
   ·refine Dyp 28 rfl (r9 rfl rfl) (o3 kr (Et (l6 rfl (i8 (o4 (Et (Ez Z3 (Em rfl (Ey rfl ((Y.add rfl rfl om om).yd) (Ei rfl ?_))))))))))
    exact Eu (u9 br (g + 1) rs (.refl _) ⟨by omega, Q4 (s := log) (p := fun a => U6 l log a.1) om pa ((a4M q20 (a7L om)).trans (decide_eq_false q39))⟩ om)
  ·refine Dyp 9 rfl (Y.not (b := false) rfl) (Dyp 10 rfl (j4 rfl) (Dsk 11 rfl (Dsk 12 rfl (Dsk 13 rfl (Dsk 14 rfl (Dsk 15 rfl (Dsk 16 rfl (Dsk 17 rfl (Dsk 18 rfl (Dsk 19 rfl (Dsk 20 rfl (Dsk 21 rfl (Dsk 22 rfl (Dsk 23 rfl ?_))))))))))))))
   refine Dsk 24 rfl (Dsk 25 rfl (Dsk 26 rfl (Dsk 27 rfl (Dyp 28 rfl (s6 rfl rfl) (o3 kr (Et (l4 rfl (Ew Z1 (Ei rfl ?_)))))))))
   exact Eu (E.ret (t7 (l0 (l0 (t7 (l0 (Fb rfl rfl (by rw [a3z, a3w (p := fun a => U6 l log a.1) (show g < log.length by omega) (a8p q20)]; rfl))))))))
 ·refine Eu (l6 rfl (E.exit (n8 (n8 (w5 (Et (Ew Z1 (Ei rfl ?_))))))))
  exact Eu (E.ret (Fb rfl rfl (by rw [a3z, a3P (p := fun a => U6 l log a.1) (show ¬ g < log.length by omega) pa]; rfl)))
end Go.Proofs.YtlfhopooaejpfaaGreat
