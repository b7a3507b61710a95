import Derived.Test.YtdopeopehgdccaaBs
import Derived.Test.YtdopeopehgdccaaT4
import Derived.Test.YtdopeopehgdccaaT5
import Derived.Test.YtdopeopehgdccaaBc
namespace Go.Proofs.Ytdopeopehgdccaa
open Go.RowKit
set_option linter.all false
set_option maxHeartbeats 2000000
attribute [local irreducible] Nop Yd Yp Ent Has Tr FnP FnP2 Src
theorem S1 {a_s : Option Addr} {m_s c_s : Nat} {s : List Int} (hz : s.length ≤ 1048576) : Tr Try.prog 44 [.slice a_s m_s c_s] (fun w L => Ro w L eIs [.slice a_s m_s c_s] s) [] (κ := Option Addr × Nat × Nat) (fun k => True) (fun k => .slice k.1 k.2.1 k.2.2) (fun k => [ow eIs [.slice k.1 k.2.1 k.2.2] s]) := by
 refine Tr.intro Try.func44 rfl (n := 8) rfl (by decide +kernel) bl (fr := [(0, .slice a_s m_s c_s)]) rfl fun w L hR => ?_
 have hs := hR
 obtain ⟨rfl, ls⟩ := hs.slen
 refine Ew Z1 (Eas rfl rfl (Eu (Eq_ (Ew Z2 (Emv rfl rfl (Ey rfl ((Y.eqlN us_Is rfl rfl).yd) (Ent.b (fun q4 => ?_) (fun q4 => ?_))))))))
 ·refine Eu (E.ct rfl (Ew Z1 (Eas rfl rfl (Eu (E.ret (E.thr (Ent.mkow (A := []) (Own.nil (E := Enc.int) (e := tI) (a := none)) rfl (Ent.cv (congrArg (ow eIs [_]) (show _ = s by (cases a_s with | none => exact hs.none_nil.symm | some x => cases q4))) ?_))))))))
  exact Fg rfl rfl (none, 0, 0) rfl rfl
 ·refine Eu (E.cf rfl (E.skipc (Et (Ew Z4 (Est rfl (N.bsl (pvs := []) (cs := []) us_Is c6 rfl dc dc (l6 rfl rfl) rfl dc) (fun b5 _ => (Ent.drop (Emv rfl rfl (Est rfl (N.pushR0 (E := Enc.int) t4.int us_Is c6 rfl rfl rfl hs bn bn dc) (fun p7 _ => (Eas rfl rfl ?_)))))))))))
  exact Eu (E.ret (Fg rfl rfl (_, _, _) rfl rfl))
end Go.Proofs.Ytdopeopehgdccaa
