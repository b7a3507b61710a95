import Derived.Test.YthapcdhdfaibkaaGreatDoorBq
section
namespace Go.Proofs.YthapcdhdfaibkaaGreatDoor
open Go.RowKit
set_option linter.all false
set_option maxHeartbeats 2000000
attribute [local irreducible] Nop Yd Yp Ent Has Tr FnP FnP2 Src
theorem a6N {a_s : Option Addr} {m_s c_s : Nat} {s : List IL} {i : Int} {a_v : Option Addr} {m_v c_v : Nat} {v : List IL} (hi : 0 ≤ i ∧ i ≤ s.length) (hv0 : 0 < v.length) (hz : s.length + v.length ≤ 1099511627776) : Tr Tryz.prog 294 [.slice a_s m_s c_s, .int .i64 i, .slice a_v m_v c_v] (fun w L => True) [ow s5 [.slice a_s m_s c_s] s, ow s5 [.slice a_v m_v c_v] v] (κ := SL) (fun k => True) (fun k => .slice k.1 k.2.1 k.2.2) (fun k => [ow s5 [.slice k.1 k.2.1 k.2.2] (s.take i.toNat ++ v ++ s.drop i.toNat)]) := by
 refine Ti3 Tryz.func294 95 rfl fun w L hR => r8 m0 fun es ls => ?_
 subst es
 refine r8 (mS m0) ?_
 rintro rfl lv
 obtain ⟨j, rfl⟩ : ∃ j : Nat, i = (j : Int) := ⟨i.toNat, by omega⟩
 refine a3H fun cs hcs => ?_
 replace hcs : cs.length = s.length * 2 := hcs
 show Ent _ _ _ _ (row tFact 2 a_s s.length c_s cs :: _) _
 refine a2h (mS m0) fun h1s => a3F m0 fun hms => i8<|a3H fun cv hcv => ?_
 replace hcv : cv.length = v.length * 2 := hcv
 show Ent _ _ _ _ (row tFact 2 a_v v.length c_v cv :: _) _
 refine a2h (mS m0) fun h1v => a3F m0 fun hmv => a2R m0 om fun vb hvb _ => ?_
 subst hvb
 refine Ew Z1<|Ei rfl<|Ev Z3<|Em rfl<|Em rfl<|Ey rfl ((a9i (l := j) us_Facts ty_Fact rfl rfl om).yd)<|Ev Z3<|Em rfl<|Yln us_Facts rfl<|Ei rfl<|Eu<|Eq_<|Ew Z2<|Em rfl<|Yeq rfl<|l3 (fun q16 => ?_)<|fun q16 => ?_
 ·exact absurd q16 om
 ·refine Eu<|Cf<|Ew Z3<|Em rfl<|Yln us_Facts rfl<|Ei rfl<|Eu<|Eq_<|Ew Z3<|Em rfl<|Em rfl<|Yeq rfl<|l3 (fun q22 => ?_)<|fun q22 => ?_
  ·refine Eu<|r6 rfl<|Ew Z4<|Em rfl<|Em rfl<|i8<|Est rfl (N.app us_Facts ty_Fact dc rfl rfl (fun w hw => Src.row (mS m0) dc hw) (by simpa using hcv) h1v mx om dc)<|fun p25 _ => Ei rfl<|Eu<|E.ret<|i9<|i8<|a4G<|a3E (i := j) om<|f5<|g9 (congrArg (row tFact 2 p25.1 (s.length + v.length) p25.2) (show cs ++ cv = cs.take (j * 2) ++ cv ++ cs.drop (j * 2) from a6G hcs om))<|a2p (E := J8) (by simp only [List.length_append, List.length_take, List.length_drop]; omega) mx ?_
   exact Fg rfl rfl (_, _, _) rfl rfl
  ·refine a2R (mS<|mS m0) om fun sb hsb _ => ?_
   subst hsb
   refine Eu<|Cf<|Eq_<|Ew Z6<|Em rfl<|Em rfl<|Yad rfl om om<|Em rfl<|Ey rfl ((Y.cap us_Facts rfl).yd)<|Ey rfl ((Y.gtr rfl rfl).yd)<|l3 (fun q31 => ?_)<|fun q31 => ?_
   ·refine Eu<|r6 rfl<|Ew Z10<|Em rfl<|Em rfl<|Ey rfl ((a3Q (h := j) us_Facts ty_Fact rfl rfl om).yd)<|Em rfl<|Em rfl<|Yad rfl om om<|Em rfl<|Ey rfl ((Y.sub rfl rfl om om).yd)<|Est rfl (b6r (zn := (s.length + v.length - j)) us_Facts kr ty_Fact dc rfl rfl om om om (mS<|mS m0) om om om dc)<|fun p40 hp40 => ?_
    obtain ⟨pb40, pc40, pz40⟩ := p40
    obtain ⟨hp40, hq40⟩ := hp40
    try dsimp only at hp40 hq40
    refine Ei rfl (Ev Z5<|Em rfl<|Em rfl<|Ey rfl ((a0t (l := j) (b := pb40) (m := ((j) + (s.length + v.length - j))) (c := pc40) us_Facts ty_Fact rfl rfl om om).yd)<|Em rfl<|Est rfl (a5k (p := j) (q := v.length) (news := cv) us_Facts ty_Fact rfl rfl rfl om (by simp only [Nat.min_def]; split <;> omega) (.inr ⟨_, _, rfl, a6B<|mS m0⟩) (by first | omega | (simp only [List.length_take, List.length_drop, List.length_append]; omega)) h1v om dc rfl)<|fun _ _ => Eu<|Eq_<|D.region (fun j => !(Nat.beq j 8)) mixed<|Dyp 0 rfl (O5 rfl)<|Dyp 1 rfl (O5 rfl)<|Dyp 2 rfl (O5 rfl)<|Dyp 3 rfl (Y.add rfl rfl om om)<|Dyp 4 rfl (a0t (l := j + v.length) (b := pb40) (m := ((j) + (s.length + v.length - j))) (c := pc40) us_Facts ty_Fact rfl rfl om om)<|Dyp 5 rfl (O5 rfl)<|Dyp 6 rfl (O5 rfl)<|Dyp 7 rfl (a0t (l := j) (b := sb) (m := s.length) (c := c_s) us_Facts ty_Fact rfl rfl om om)<|E7 8 rfl rfl kr (fun h => by cases h) (a5k (p := j + v.length) (q := s.length - j) (news := cs.drop<|j * 2) us_Facts ty_Fact rfl rfl rfl om (by simp only [Nat.min_def]; split <;> omega) (.inr ⟨_, _, rfl, a2S (mS<|mS<|mS m0) j (rest := [])<|(List.append_nil _).symm⟩) (by first | omega | (simp only [List.length_take, List.length_drop, List.length_append]; omega)) (fun u hu => h1s u<|List.mem_of_mem_drop hu) om dc rfl)<|fun _ _ => n9 kr<|Et<|Ew Z2<|Em rfl<|Ei rfl<|Eu<|E.ret<|i9<|i8<|s4<|a3E (i := j) om<|f5<|g9 (congrArg (row tFact 2 (some ⟨pb40, 0, none⟩) ((j) + (s.length + v.length - j)) pc40) (show ((cs.take ((j) * 2) ++ pz40).take (j * 2) ++ cv ++ (cs.take ((j) * 2) ++ pz40).drop (j * 2 + v.length * 2)).take ((j + v.length) * 2) ++ (cs.drop<|j * 2) ++ ((cs.take ((j) * 2) ++ pz40).take (j * 2) ++ cv ++ (cs.take ((j) * 2) ++ pz40).drop (j * 2 + v.length * 2)).drop ((j + v.length) * 2 + (s.length - j) * 2) = cs.take (j * 2) ++ cv ++ cs.drop (j * 2) from b1l hcs hcv hp40 om))<|a2p (E := J8) (by simp only [List.length_append, List.length_take, List.length_drop]; omega) mx ?_)
    exact Fg rfl rfl (_, _, _) rfl rfl
   ·refine Eu (r7 rfl<|v8<|Et<|Ew Z6<|Em rfl<|Em rfl<|Em rfl<|Ey rfl ((Y.add rfl rfl om om).yd)<|i8<|b4p (m' := s.length + v.length) om om om fun tl60 htl60 => Ey rfl ((a3Q (h := s.length + v.length) us_Facts ty_Fact rfl rfl om).yd)<|Ei rfl<|Eu<|Eq_<|Ew Z8<|Em rfl<|Em rfl<|Em rfl<|Em rfl<|Ey rfl ((Y.add rfl rfl om om).yd)<|Ey rfl ((a0t (l := j + v.length) (b := sb) (m := (s.length + v.length)) (c := c_s) us_Facts ty_Fact rfl rfl om om).yd)<|f5<|f5<|Est rfl (b7W (tR := 4) Tryz.func344 rfl kr kr kr us_Facts ty_Fact dc rfl rfl rfl om om dc)<|fun _ _ => Ey rfl ((Y.not (b := false) rfl).yd)<|Eu<|r6 rfl<|Eq_<|D.region (fun j => !(Nat.beq j 8)) mixed<|Dyp 0 rfl (O5 rfl)<|Dyp 1 rfl (O5 rfl)<|Dyp 2 rfl (O5 rfl)<|Dyp 3 rfl (Y.add rfl rfl om om)<|Dyp 4 rfl (a0t (l := j + v.length) (b := sb) (m := (s.length + v.length)) (c := c_s) us_Facts ty_Fact rfl rfl om om)<|Dyp 5 rfl (O5 rfl)<|Dyp 6 rfl (O5 rfl)<|Dyp 7 rfl (a0t (l := j) (b := sb) (m := (s.length + v.length)) (c := c_s) us_Facts ty_Fact rfl rfl om om)<|E7 8 rfl rfl kr (fun h => by cases h) (a5k (p := j + v.length) (q := s.length - j) (news := cs.drop<|j * 2) us_Facts ty_Fact rfl rfl rfl om (by simp only [Nat.min_def]; split <;> omega) (.inr ⟨_, _, rfl, a2S m0 j (rest := tl60)<|List.drop_append_of_le_length (by have := Nat.mul_le_mul_right 2 (show j ≤ s.length by omega); omega)⟩) (by first | omega | (simp only [List.length_take, List.length_drop, List.length_append]; omega)) (fun u hu => h1s u<|List.mem_of_mem_drop hu) om dc rfl)<|fun _ _ => n9 kr<|Et<|Ew Z5<|Em rfl<|Em rfl<|Ey rfl ((a0t (l := j) (b := sb) (m := (s.length + v.length)) (c := c_s) us_Facts ty_Fact rfl rfl om om).yd)<|Em rfl<|Est rfl (a5k (p := j) (q := v.length) (news := cv) us_Facts ty_Fact rfl rfl rfl om (by simp only [Nat.min_def]; split <;> omega) (.inr ⟨_, _, rfl, a6B<|mS m0⟩) (by first | omega | (simp only [List.length_take, List.length_drop, List.length_append]; omega)) h1v om dc rfl)<|fun _ _ => Ev Z2<|Em rfl<|Ei rfl<|Eu<|E.ret<|i9<|i8<|a4G<|a3E (i := j) om<|f5<|g9 (congrArg (row tFact 2 (some ⟨sb, 0, none⟩) (s.length + v.length) c_s) (show ((cs ++ tl60).take ((j + v.length) * 2) ++ (cs.drop<|j * 2) ++ (cs ++ tl60).drop ((j + v.length) * 2 + (s.length - j) * 2)).take (j * 2) ++ cv ++ ((cs ++ tl60).take ((j + v.length) * 2) ++ (cs.drop<|j * 2) ++ (cs ++ tl60).drop ((j + v.length) * 2 + (s.length - j) * 2)).drop (j * 2 + v.length * 2) = cs.take (j * 2) ++ cv ++ cs.drop (j * 2) from a9k hcs hcv (htl60.trans (by congr 1; omega)) om))<|a2p (E := J8) (by simp only [List.length_append, List.length_take, List.length_drop]; omega) mx ?_)
    exact Fg rfl rfl (_, _, _) rfl rfl
end Go.Proofs.YthapcdhdfaibkaaGreatDoor
end
section
namespace Go.Proofs.YthapcdhdfaibkaaGreatDoor
open Go.RowKit
set_option linter.all false
set_option maxHeartbeats 2000000
attribute [local irreducible] Nop Yd Yp Ent Has Tr FnP FnP2 Src
theorem a8t {a_s : Option Addr} {m_s c_s : Nat} {s : List (List Int)} {i : Int} {a_v : Option Addr} {m_v c_v : Nat} {v : List (List Int)} (hi : 0 ≤ i ∧ i ≤ s.length) (hv0 : 0 < v.length) (hz : s.length + v.length ≤ 1099511627776) : Tr Tryz.prog 301 [.slice a_s m_s c_s, .int .i64 i, .slice a_v m_v c_v] (fun w L => True) [ow H3 [.slice a_s m_s c_s] s, ow H3 [.slice a_v m_v c_v] v] (κ := SL) (fun k => True) (fun k => .slice k.1 k.2.1 k.2.2) (fun k => [ow H3 [.slice k.1 k.2.1 k.2.2] (s.take i.toNat ++ v ++ s.drop i.toNat)]) := by
 refine Ti3 Tryz.func301 95 rfl fun w L hR => r8 m0 fun es ls => ?_
 subst es
 refine r8 (mS m0) ?_
 rintro rfl lv
 obtain ⟨j, rfl⟩ : ∃ j : Nat, i = (j : Int) := ⟨i.toNat, by omega⟩
 refine a3H fun cs hcs => ?_
 replace hcs : cs.length = s.length * 1 := hcs
 show Ent _ _ _ _ (row tIs 1 a_s s.length c_s cs :: _) _
 refine a2h (mS m0) fun h1s => a3F m0 fun hms => i8<|a3H fun cv hcv => ?_
 replace hcv : cv.length = v.length * 1 := hcv
 show Ent _ _ _ _ (row tIs 1 a_v v.length c_v cv :: _) _
 refine a2h (mS m0) fun h1v => a3F m0 fun hmv => a2R m0 om fun vb hvb _ => ?_
 subst hvb
 refine Ew Z1<|Ei rfl<|Ev Z3<|Em rfl<|Em rfl<|Ey rfl ((a9i (l := j) us_Iss ty_Is rfl rfl om).yd)<|Ev Z3<|Em rfl<|Yln us_Iss rfl<|Ei rfl<|Eu<|Eq_<|Ew Z2<|Em rfl<|Yeq rfl<|l3 (fun q16 => ?_)<|fun q16 => ?_
 ·exact absurd q16 om
 ·refine Eu<|Cf<|Ew Z3<|Em rfl<|Yln us_Iss rfl<|Ei rfl<|Eu<|Eq_<|Ew Z3<|Em rfl<|Em rfl<|Yeq rfl<|l3 (fun q22 => ?_)<|fun q22 => ?_
  ·refine Eu<|r6 rfl<|Ew Z4<|Em rfl<|Em rfl<|i8<|Est rfl (N.app us_Iss ty_Is dc rfl rfl (fun w hw => Src.row (mS m0) dc hw) (by simpa using hcv) h1v mx om dc)<|fun p25 _ => Ei rfl<|Eu<|E.ret<|i9<|i8<|a4G<|a3E (i := j) om<|f5<|g9 (congrArg (row tIs 1 p25.1 (s.length + v.length) p25.2) (show cs ++ cv = cs.take (j * 1) ++ cv ++ cs.drop (j * 1) from a6G hcs om))<|a2p (E := eIs) (by simp only [List.length_append, List.length_take, List.length_drop]; omega) mx<|Fg rfl rfl (_, _, _) rfl rfl
  ·refine a2R (mS<|mS m0) om fun sb hsb _ => ?_
   subst hsb
   refine Eu<|Cf<|Eq_<|Ew Z6<|Em rfl<|Em rfl<|Yad rfl om om<|Em rfl<|Ey rfl ((Y.cap us_Iss rfl).yd)<|Ey rfl ((Y.gtr rfl rfl).yd)<|l3 (fun q31 => ?_)<|fun q31 => ?_
   ·refine Eu<|r6 rfl<|Ew Z10<|Em rfl<|Em rfl<|Ey rfl ((a3Q (h := j) us_Iss ty_Is rfl rfl om).yd)<|Em rfl<|Em rfl<|Yad rfl om om<|Em rfl<|Ey rfl ((Y.sub rfl rfl om om).yd)<|Est rfl (b6r (zn := (s.length + v.length - j)) us_Iss kr ty_Is dc rfl rfl om om om (mS<|mS m0) om om om dc)<|fun p40 hp40 => ?_
    obtain ⟨pb40, pc40, pz40⟩ := p40
    obtain ⟨hp40, hq40⟩ := hp40
    try dsimp only at hp40 hq40
    refine Ei rfl (Ev Z5<|Em rfl<|Em rfl<|Ey rfl ((a0t (l := j) (b := pb40) (m := ((j) + (s.length + v.length - j))) (c := pc40) us_Iss ty_Is rfl rfl om om).yd)<|Em rfl<|Est rfl (a5k (p := j) (q := v.length) (news := cv) us_Iss ty_Is rfl rfl rfl om (by simp only [Nat.min_def]; split <;> omega) (.inr ⟨_, _, rfl, a6B<|mS m0⟩) (by first | omega | (simp only [List.length_take, List.length_drop, List.length_append]; omega)) h1v om dc rfl)<|fun _ _ => Eu<|Eq_<|D.region (fun j => !(Nat.beq j 8)) mixed<|Dyp 0 rfl (O5 rfl)<|Dyp 1 rfl (O5 rfl)<|Dyp 2 rfl (O5 rfl)<|Dyp 3 rfl (Y.add rfl rfl om om)<|Dyp 4 rfl (a0t (l := j + v.length) (b := pb40) (m := ((j) + (s.length + v.length - j))) (c := pc40) us_Iss ty_Is rfl rfl om om)<|Dyp 5 rfl (O5 rfl)<|Dyp 6 rfl (O5 rfl)<|Dyp 7 rfl (a0t (l := j) (b := sb) (m := s.length) (c := c_s) us_Iss ty_Is rfl rfl om om)<|E7 8 rfl rfl kr (fun h => by cases h) (a5k (p := j + v.length) (q := s.length - j) (news := cs.drop<|j * 1) us_Iss ty_Is rfl rfl rfl om (by simp only [Nat.min_def]; split <;> omega) (.inr ⟨_, _, rfl, a2S (mS<|mS<|mS m0) j (rest := [])<|(List.append_nil _).symm⟩) (by first | omega | (simp only [List.length_take, List.length_drop, List.length_append]; omega)) (fun u hu => h1s u<|List.mem_of_mem_drop hu) om dc rfl)<|fun _ _ => n9 kr<|Et<|Ew Z2<|Em rfl<|Ei rfl<|Eu<|E.ret<|i9<|i8<|s4<|a3E (i := j) om<|f5<|g9 (congrArg (row tIs 1 (some ⟨pb40, 0, none⟩) ((j) + (s.length + v.length - j)) pc40) (show ((cs.take ((j) * 1) ++ pz40).take (j * 1) ++ cv ++ (cs.take ((j) * 1) ++ pz40).drop (j * 1 + v.length * 1)).take ((j + v.length) * 1) ++ (cs.drop<|j * 1) ++ ((cs.take ((j) * 1) ++ pz40).take (j * 1) ++ cv ++ (cs.take ((j) * 1) ++ pz40).drop (j * 1 + v.length * 1)).drop ((j + v.length) * 1 + (s.length - j) * 1) = cs.take (j * 1) ++ cv ++ cs.drop (j * 1) from b1l hcs hcv hp40 om))<|a2p (E := eIs) (by simp only [List.length_append, List.length_take, List.length_drop]; omega) mx<|Fg rfl rfl (_, _, _) rfl rfl)
   ·refine Eu (r7 rfl<|v8<|Et<|Ew Z6<|Em rfl<|Em rfl<|Em rfl<|Ey rfl ((Y.add rfl rfl om om).yd)<|i8<|b4p (m' := s.length + v.length) om om om fun tl60 htl60 => Ey rfl ((a3Q (h := s.length + v.length) us_Iss ty_Is rfl rfl om).yd)<|Ei rfl<|Eu<|Eq_<|Ew Z8<|Em rfl<|Em rfl<|Em rfl<|Em rfl<|Ey rfl ((Y.add rfl rfl om om).yd)<|Ey rfl ((a0t (l := j + v.length) (b := sb) (m := (s.length + v.length)) (c := c_s) us_Iss ty_Is rfl rfl om om).yd)<|f5<|f5<|Est rfl (b7W (tR := 4) Tryz.func348 rfl kr kr kr us_Iss ty_Is dc rfl rfl rfl om om dc)<|fun _ _ => Ey rfl ((Y.not (b := false) rfl).yd)<|Eu<|r6 rfl<|Eq_<|D.region (fun j => !(Nat.beq j 8)) mixed<|Dyp 0 rfl (O5 rfl)<|Dyp 1 rfl (O5 rfl)<|Dyp 2 rfl (O5 rfl)<|Dyp 3 rfl (Y.add rfl rfl om om)<|Dyp 4 rfl (a0t (l := j + v.length) (b := sb) (m := (s.length + v.length)) (c := c_s) us_Iss ty_Is rfl rfl om om)<|Dyp 5 rfl (O5 rfl)<|Dyp 6 rfl (O5 rfl)<|Dyp 7 rfl (a0t (l := j) (b := sb) (m := (s.length + v.length)) (c := c_s) us_Iss ty_Is rfl rfl om om)<|E7 8 rfl rfl kr (fun h => by cases h) (a5k (p := j + v.length) (q := s.length - j) (news := cs.drop<|j * 1) us_Iss ty_Is rfl rfl rfl om (by simp only [Nat.min_def]; split <;> omega) (.inr ⟨_, _, rfl, a2S m0 j (rest := tl60)<|List.drop_append_of_le_length (by have := Nat.mul_le_mul_right 1 (show j ≤ s.length by omega); omega)⟩) (by first | omega | (simp only [List.length_take, List.length_drop, List.length_append]; omega)) (fun u hu => h1s u<|List.mem_of_mem_drop hu) om dc rfl)<|fun _ _ => n9 kr<|Et<|Ew Z5<|Em rfl<|Em rfl<|Ey rfl ((a0t (l := j) (b := sb) (m := (s.length + v.length)) (c := c_s) us_Iss ty_Is rfl rfl om om).yd)<|Em rfl<|Est rfl (a5k (p := j) (q := v.length) (news := cv) us_Iss ty_Is rfl rfl rfl om (by simp only [Nat.min_def]; split <;> omega) (.inr ⟨_, _, rfl, a6B<|mS m0⟩) (by first | omega | (simp only [List.length_take, List.length_drop, List.length_append]; omega)) h1v om dc rfl)<|fun _ _ => Ev Z2<|Em rfl<|Ei rfl<|Eu<|E.ret<|i9<|i8<|a4G<|a3E (i := j) om<|f5<|g9 (congrArg (row tIs 1 (some ⟨sb, 0, none⟩) (s.length + v.length) c_s) (show ((cs ++ tl60).take ((j + v.length) * 1) ++ (cs.drop<|j * 1) ++ (cs ++ tl60).drop ((j + v.length) * 1 + (s.length - j) * 1)).take (j * 1) ++ cv ++ ((cs ++ tl60).take ((j + v.length) * 1) ++ (cs.drop<|j * 1) ++ (cs ++ tl60).drop ((j + v.length) * 1 + (s.length - j) * 1)).drop (j * 1 + v.length * 1) = cs.take (j * 1) ++ cv ++ cs.drop (j * 1) from a9k hcs hcv (htl60.trans (by congr 1; omega)) om))<|a2p (E := eIs) (by simp only [List.length_append, List.length_take, List.length_drop]; omega) mx ?_)
    exact Fg rfl rfl (_, _, _) rfl rfl
end Go.Proofs.YthapcdhdfaibkaaGreatDoor
end
