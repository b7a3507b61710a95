import Derived.Test.YtonkkkjgdohooaaGreatBs
import Derived.Test.YtonkkkjgdohooaaGreatT12
import Derived.Test.YtonkkkjgdohooaaGreatBj
import Derived.Test.YtonkkkjgdohooaaGreatEs
namespace Go.Proofs.YtonkkkjgdohooaaGreat
open Go.RowKit
set_option linter.unusedVariables false
set_option linter.unusedSimpArgs false
set_option maxHeartbeats 2000000
attribute [local irreducible] Nop Yd Yp Ent Has Tr FnP FnP2 Src listsF opnF opn1 opnR chainB
theorem t_Delete_QueryB {a_s : Option Addr} {m_s c_s : Nat} {s : List ((Option Addr × Nat × Nat) × Option Addr × Nat × Nat)} {i : Int} {j : Int} (hij : 0 ≤ i ∧ i ≤ j ∧ j ≤ s.length) : Tr Tryz.prog 126 [.slice a_s m_s c_s, .int .i64 i, .int .i64 j] (fun w L => True) [ow eQueryBs [.slice a_s m_s c_s] s] (κ := Option Addr × Nat × Nat) (fun k => True) (fun k => .slice k.1 k.2.1 k.2.2) (fun k => [ow eQueryBs [.slice k.1 k.2.1 k.2.2] (s.take i.toNat ++ s.drop j.toNat)]) := by
  refine Tr.intro Tryz.func126 rfl (n := 33) rfl (by decide +kernel) bl (fr := [(0, .slice a_s m_s c_s), (1, .int .i64 i), (2, .int .i64 j)]) rfl fun w L hR => (Ent.lenow m0 fun es ls => ?_)
  subst es
  obtain ⟨x, rfl⟩ : ∃ x : Nat, i = (x : Int) := ⟨i.toNat, by omega⟩
  obtain ⟨y, rfl⟩ : ∃ y : Nat, j = (y : Int) := ⟨j.toNat, by omega⟩
  refine Ent.spl fun cs hcs => ?_
  replace hcs : cs.length = s.length * 2 := hcs
  show Ent _ _ _ _ (row tQueryB 2 a_s s.length c_s cs :: _) _
  refine Ent.elone (mS m0) fun h1s => (Ent.rmc m0 fun hms => (Ew Z1 (Eas rfl rfl (Ev Z6 (Emv rfl rfl (Emv rfl rfl (Emv rfl rfl (Emv rfl rfl (Ey rfl ((Y.len us_Querys rfl).yd) (Ey rfl ((Y.sl3 (l := x) (h := y) (b := s.length) us_Querys ty_Query rfl rfl rfl rfl om om om).yd) (Eu (Eq_ (Ew Z3 (Emv rfl rfl (Emv rfl rfl (Ey rfl ((Y.eql rfl rfl).yd) (Ent.d (fun q16 => ?_) (fun q16 => ?_))))))))))))))))))
  · refine Eu (E.ct rfl (Ew Z2 (Emv rfl rfl (Eas rfl rfl (Eu (E.ret (E.thr (Ent.p1 (Ent.p1 (Ent.joi (E := eQueryB) rfl mx (Ent.cv (congrArg (ow eQueryBs [_]) (show s = s.take x ++ s.drop y from by rw [show x = y by omega, List.take_append_drop])) ?_)))))))))))
    exact Fg rfl rfl (_, _, _) rfl rfl
  · refine Ent.radr m0 om fun sb hsb _ => ?_
    subst hsb
    refine Eu (E.cf rfl (E.skipc (Et (Ew Z3 (Emv rfl rfl (Ey rfl ((Y.len us_Querys rfl).yd) (Eas rfl rfl (Eu (Eq_ (D.region (fun j => !(Nat.beq j 6)) mixed (Dyp 0 rfl (Y.mv rfl) (Dyp 1 rfl (Y.mv rfl) (Dyp 2 rfl (Y.slTo (h := x) us_Querys ty_Query rfl rfl om) (Dyp 3 rfl (Y.mv rfl) (Dyp 4 rfl (Y.mv rfl) (Dyp 5 rfl (Y.slFrom (l := y) us_Querys ty_Query rfl rfl om) (D.st 6 rfl rfl kr (fun h => by cases h) (N.appin (i := x) (m2 := s.length - y) (news := cs.drop (y * 2)) us_Querys ty_Query rfl rfl rfl om (src_from m0 hcs om hms.1) (by rw [List.length_drop, hcs, Nat.sub_mul]) (fun u hu => h1s u (List.mem_of_mem_drop hu)) om dc rfl) (fun _ _ => (Dyp 7 rfl (Y.as rfl) (D.done kr (Et (Ew Z6 (Emv rfl rfl (Emv rfl rfl (Ey rfl ((Y.len us_Querys rfl).yd) (Emv rfl rfl ?_))))))))))))))))))))))))))
    refine Ey rfl ((Y.slLH (l := (x + (s.length - y))) (h := s.length) (b := sb) us_Querys ty_Query rfl rfl rfl om om om).yd) (Est rfl (N.clr (p := (x + (s.length - y))) (q := (s.length - ((x + (s.length - y))))) us_Querys ty_Query (by simp [Value.oneCell']) rfl rfl om om om rfl) (fun _ _ => (Ev Z2 (Emv rfl rfl (Eas rfl rfl (Eu (E.ret (Ent.p1 (Ent.edel (i := x) (j := y) om om (Ent.p1 (Ent.cv (congrArg (row tQueryB 2 (some ⟨sb, 0, none⟩) (x + (s.length - y)) c_s) (del_cells hcs om om)) (Ent.joi (E := eQueryB) (by simp only [List.length_append, List.length_take, List.length_drop]; omega) mx ?_))))))))))))
    exact Fg rfl rfl (_, _, _) rfl rfl
theorem t_Clone_QueryBs {a_s : Option Addr} {m_s c_s : Nat} {s : List ((Option Addr × Nat × Nat) × Option Addr × Nat × Nat)} (hz : s.length ≤ 1048576) : Tr Tryz.prog 127 [.slice a_s m_s c_s] (fun w L => Ro w L eQueryBs [.slice a_s m_s c_s] s) [] (κ := Option Addr × Nat × Nat) (fun k => True) (fun k => .slice k.1 k.2.1 k.2.2) (fun k => [ow eQueryBs [.slice k.1 k.2.1 k.2.2] s]) := by
  refine Tr.intro Tryz.func127 rfl (n := 8) rfl (by decide +kernel) bl (fr := [(0, .slice a_s m_s c_s)]) rfl fun w L hR => ?_
  have hs := hR
  obtain ⟨rfl, ls⟩ := hs.slen
  refine Ew Z1 (Eas rfl rfl (Eu (Eq_ (Ew Z2 (Emv rfl rfl (Ey rfl ((Y.eqlN us_Querys rfl rfl).yd) (Ent.b (fun q4 => ?_) (fun q4 => ?_))))))))
  · refine Eu (E.ct rfl (Ew Z1 (Eas rfl rfl (Eu (E.ret (E.thr (Ent.mkow (A := []) (Own.nil (E := eQueryB) (e := tQueryB) (a := none)) rfl (Ent.cv (congrArg (ow eQueryBs [_]) (show _ = s by (cases a_s with | none => exact hs.none_nil.symm | some x => cases q4))) ?_))))))))
    exact Fg rfl rfl (none, 0, 0) rfl rfl
  · refine Eu (E.cf rfl (E.skipc (Et (Ew Z4 (Est rfl (N.bsl (pvs := []) (cs := []) us_Querys ty_Query rfl dc dc (fillZ rfl rfl) rfl dc) (fun b5 _ => (Ent.drop (Emv rfl rfl (Est rfl (N.pushR0 (E := eQueryB) plainQueryB us_Querys ty_Query rfl rfl rfl hs bn bn dc) (fun p7 _ => (Eas rfl rfl ?_)))))))))))
    exact Eu (E.ret (Fg rfl rfl (_, _, _) rfl rfl))
end Go.Proofs.YtonkkkjgdohooaaGreat
