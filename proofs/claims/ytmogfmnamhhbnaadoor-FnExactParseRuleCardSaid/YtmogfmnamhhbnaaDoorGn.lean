/- Strings: bytes of a text, parts of a text, an error against nil, lists of texts that are owned. No program's walk in sight. -/
import Derived.Test.YtmogfmnamhhbnaaDoorEh
import Derived.Test.YtmogfmnamhhbnaaDoorBy
import Derived.Laws.Strings3
namespace Go.Proofs.YtmogfmnamhhbnaaDoor
open Go.RowKit
set_option linter.unusedVariables false
set_option linter.unusedSimpArgs false
theorem ub8 {c : UInt8} : 0 ≤ (↑c.toNat : Int) ∧ (↑c.toNat : Int) ≤ 255 := by
  have := c.toNat_lt
  omega
/-- an error: none, or some pointer -/
def errV (T : TypeId) : Bool → Nat → Value
  | true, _ => .nilIface
  | false, k => .iface T (.pointer (some ⟨k, 0, none⟩))
section
variable {P : Program} {n : Nat} {fr : Fr}
theorem Y.idxS {x y : Operand} {T : TypeId} {s : List UInt8} {i : Int} {j : Nat} (hT : P.underlying T = some .string) (hx : ev fr x = some (strV s)) (hy : ev fr y = some (.int .i64 i)) (hj : i = (j : Int)) (hl : j < s.length) :
    Yp P n fr (.index T x y) (.int .u8 (↑s[j].toNat : Int)) := fun ac hF w' d t p af g => by
  have h2 := run_index_string (P := P) w' T ⟨s.toArray⟩ .i64 i hT
  rw [dif_pos ⟨by omega, by simpa [ByteArray.size, hj] using hl⟩] at h2
  subst hj
  simp only [execOp, hF.ev hx, hF.ev hy, strV]
  simp [h2]
  rfl
theorem Y.lenS {x : Operand} {T : TypeId} {s : List UInt8} (hT : P.underlying T = some .string) (hx : ev fr x = some (strV s)) :
    Yp P n fr (.call ⟨.builtin .len, #[x], #[T]⟩) (.int .i64 (↑s.length : Int)) := fun a h w' d t p af g => by
  have e1 := h.ev hx
  have e2 : (ByteArray.mk s.toArray).size = s.length := by simp [ByteArray.size]
  simp [execOp, resolve, invoke, builtin, Builtin.len_, e1, run_underlying hT, goInt, strV, e2]
theorem Y.slSf {x y : Operand} {T : TypeId} {s : List UInt8} {i : Int} {j : Nat} (hT : P.underlying T = some .string) (hx : ev fr x = some (strV s)) (hy : ev fr y = some (.int .i64 i)) (hj : i = (j : Int)) (hl : j ≤ s.length) :
    Yp P n fr (.slice T x (some y) none none) (strV (s.drop j)) := fun ac hF w' d t p af g => by
  have h2 := run_slice_string_from_if (P := P) w' T ⟨s.toArray⟩ .i64 i hT
  rw [if_pos ⟨by omega, by simpa [ByteArray.size, hj] using hl⟩] at h2
  subst hj
  have h3 : ByteArray.extract ⟨s.toArray⟩ ((j : Int).toNat) (ByteArray.size ⟨s.toArray⟩) = ⟨(s.drop j).toArray⟩ := by
    apply ByteArray.ext
    simp [ByteArray.data_extract, List.extract_toArray, List.extract, ByteArray.size]
    exact List.take_of_length_le (by simp)
  rw [h3] at h2
  simp [execOp, hF.ev hx, hF.ev hy, Instr.sliceAt, run_underlying hT, strV, h2]
theorem Y.mulk {x y : Operand} {T U : TypeId} {a b : Int} (hx : ev fr x = some (.int .i64 a)) (hy : ev fr y = some (.int .i64 b)) (h : -9223372036854775808 ≤ a * b ∧ a * b ≤ 9223372036854775807) : Yp P n fr (.binOp .mul T x y U) (.int .i64 (a * b)) := by
  have := Y.mulw (P := P) (n := n) (T := T) (U := U) hx hy
  rwa [IntWalk.i64_in _ h] at this
theorem Y.subU8 {x y : Operand} {T U : TypeId} {a b : Int} (hx : ev fr x = some (.int .u8 a)) (hy : ev fr y = some (.int .u8 b)) (h : 0 ≤ a - b ∧ a - b ≤ 255) : Yp P n fr (.binOp .sub T x y U) (.int .u8 (a - b)) := fun ac hF w' d t p af g => by
  have h1 : IntKind.u8.wrap (a - b) = a - b := IntWalk.u8_in _ h
  simp [execOp, hF.ev hx, hF.ev hy, eqGuard_sub, binOp_sub, Op.intArith, h1]
theorem Y.neqE {x : Operand} {T T' U : TypeId} {b : Bool} {k : Nat} (hT : P.underlying T = some (.interface (P.methodsAt T))) (hx : ev fr x = some (errV T' b k)) : Yp P n fr (.binOp .neq T x (.const .nilIface) U) (.bool (!b)) := fun ac hF w' d t p af g => by
  have e1 := hF.ev hx
  have e2 : ac.eval (.const .nilIface) = .nilIface := rfl
  cases b
  · have h1 := run_neq_held_nil (P := P) w' T T' (.pointer (some ⟨k, 0, none⟩)) hT
    simp [execOp, e1, e2, errV, eqGuard, h1]
  · have h1 := run_neq_nil_nil (P := P) w' T hT
    simp [execOp, e1, e2, errV, eqGuard, h1]
end
section
variable {w0 : World} {L0 : List Nat} {H : List HP} {e : TypeId} {a : Option Addr} {m c b o : Nat} {xs : List (List UInt8)}
theorem Elems.strs {w : World} : ∀ {xs : List (List UInt8)} {cs : List Value} {L : List Nat} {o : Bool}, Elems Enc.str w cs xs L o → cs = xs.map strV
  | [], _, _, _, h => h.1
  | x :: xs, _, _, _, ⟨c1, c2, L1, L2, h1, h2, h3, h4⟩ => by rw [h1, h3.1, Elems.strs h4]; rfl
theorem Elems.strs' {w : World} : ∀ {xs : List (List UInt8)} {o : Bool}, Elems Enc.str w (xs.map strV) xs [] o
  | [], _ => ⟨rfl, rfl⟩
  | x :: xs, _ => ⟨[_], _, [], [], rfl, rfl, ⟨rfl, rfl⟩, Elems.strs'⟩
theorem Has.owSl (ha : a = some ⟨b, 0, none⟩) (hm : ow (Enc.sl e Enc.str) [.slice a m c] xs ∈ H) {i : Nat} (hi : i < xs.length) : Has w0 L0 H b (0 + i * 1) [strV xs[i]] := fun w h => by
  obtain ⟨L, hL⟩ := h.mem hm
  obtain ⟨ccs, L1, L2, _, g1, g2, g3, h0, g4⟩ := ow_sl hL
  have hc := Elems.strs g3
  rcases g4 with ⟨_, h, _⟩ | ⟨g, cur, h2, h3, h4, h5, h6, h7, _⟩
  · omega
  · rw [ha] at h2; cases h2
    intro j v hj
    match j, hj with
    | 0, hj =>
      simp at hj; subst hj
      have : (ccs : List Value)[i]? = some (strV xs[i]) := by rw [hc]; simp [hi]
      rw [← h7, List.getElem?_take] at this
      split at this
      · simpa [World.cell?, h3] using this
      · cases this
    | j + 1, hj => simp at hj
end
theorem slice1 {s : List UInt8} {i : Nat} (h : i < s.length) {x : Int} (hx : x = (i : Int) + 1) : (List.drop ((i : Int).toNat) s).take (x.toNat - (i : Int).toNat) = [s[i]] := by
  subst hx
  have e : ((i : Int) + 1).toNat - (i : Int).toNat = 1 := by omega
  rw [e, Int.toNat_natCast, List.drop_eq_getElem_cons h]; rfl
end Go.Proofs.YtmogfmnamhhbnaaDoor
