import Derived.Test.YtfnbilpemdgkkaaGreatDoorBx
section
namespace Go.Proofs.YtfnbilpemdgkkaaGreatDoor
open Go.RowKit
set_option linter.unusedVariables false
set_option linter.unusedSimpArgs false
section
variable {P : Program} {n : Nat} {fr : Fr}
theorem a6r (m : Int) : I64 (IntKind.i64.wrap m) := by
 unfold I64
 simp only [IntKind.wrap, IntKind.bits, IntKind.signed]
 simp
 split <;> omega
theorem b3N {x y : Operand} {T U : TypeId} {a b : Int} (hx : ev fr x = some (.int .i64 a)) (hy : ev fr y = some (.int .i64 b)) : Yp P n fr (.binOp .add T x y U) (.int .i64 (IntKind.i64.wrap (a + b))) := fun ac h w' d t p af g => by
 simp [execOp, h.ev hx, h.ev hy, eqGuard_add, binOp_add, Op.intArith]
theorem b0v {x y : Operand} {T U : TypeId} {a b : Int} (hx : ev fr x = some (.int .i64 a)) (hy : ev fr y = some (.int .i64 b)) : Yp P n fr (.binOp .mul T x y U) (.int .i64 (IntKind.i64.wrap (a * b))) := fun ac h w' d t p af g => by
 simp [execOp, h.ev hx, h.ev hy, eqGuard_mul, binOp_mul, Op.intArith]
def a1l (a b : Int) : Int := IntKind.i64.wrap ((BitVec.ofInt 64 a ^^^ BitVec.ofInt 64 b).toNat : Int)
theorem Y.xor {x y : Operand} {T U : TypeId} {a b : Int} (hx : ev fr x = some (.int .i64 a)) (hy : ev fr y = some (.int .i64 b)) : Yp P n fr (.binOp .xor T x y U) (.int .i64 (a1l a b)) := fun ac h w' d t p af g => by
 simp [execOp, h.ev hx, h.ev hy, eqGuard_xor, binOp_xor, Op.intBits, a1l]
 rfl
theorem a6k {a : Int} : 0 ≤ J3 a 255 ∧ J3 a 255 ≤ 255 := by
 have h : (BitVec.ofInt 64 a &&& BitVec.ofInt 64 255).toNat ≤ 255 := by
  rw [BitVec.toNat_and]
  exact Nat.le_trans Nat.and_le_right (by decide)
 unfold J3
 have e : IntKind.i64.wrap ((BitVec.ofInt 64 a &&& BitVec.ofInt 64 255).toNat : Int) = ((BitVec.ofInt 64 a &&& BitVec.ofInt 64 255).toNat : Int) := IntWalk.i64_in _ ⟨by omega, by omega⟩
 rw [e]; omega
theorem b2f {x : Operand} {S D : TypeId} {a : Int} (hS : P.underlying S = some (.int .u8)) (hD : P.underlying D = some (.int .i64)) (hx : ev fr x = some (.int .u8 a)) (h : 0 ≤ a ∧ a ≤ 255) : Yp P n fr (.convert S D x) (.int .i64 a) := fun ac hF w' d t p af g => by
 have h1 : IntKind.i64.wrap a = a := IntWalk.i64_in _ ⟨by omega, by omega⟩
 simp [execOp, convert, hF.ev hx, run_underlying hS, run_underlying hD, Conv.intToInt, h1]
end
end Go.Proofs.YtfnbilpemdgkkaaGreatDoor
end
section
namespace Go.Proofs.YtfnbilpemdgkkaaGreatDoor
open Go.RowKit
set_option linter.unusedVariables false
set_option linter.unusedSimpArgs false
abbrev tU8 : TypeId := 5
theorem a2E : TyOk Tryz.prog 5 false 1 [.int .u8 0] 1 := O4 (z := .int .u8 0) (by kernel_rfl) (by kernel_rfl) rfl rfl
theorem us_U8s : Tryz.prog.underlying 22 = some (.slice 5) := by kernel_rfl
theorem ty_U8s : TyOk Tryz.prog 22 false 1 [.slice none 0 0] 24 := O4 (z := .slice none 0 0) (by kernel_rfl) (by kernel_rfl) rfl rfl
theorem a8o : Tryz.prog.underlying 3 = some (.int .i64) := by kernel_rfl
theorem a2F : Tryz.prog.underlying 5 = some (.int .u8) := by kernel_rfl
theorem ub8 {c : UInt8} : 0 ≤ (↑c.toNat : Int) ∧ (↑c.toNat : Int) ≤ 255 := by
 have := c.toNat_lt
 omega
def Enc.u8 : Enc UInt8 where
 k := 1
 pos := by decide
 rep _ cs x L _ := cs = [.int .u8 (↑x.toNat : Int)] ∧ L = []
 len h := by rw [h.1]; rfl
 one h := by rw [h.1]; simp [Value.oneCell']
 stable h _ := h
 inh h := by rw [h.2]; simp
 ro h := ⟨[], by simp, h.1, rfl⟩
abbrev L7 : Enc (List UInt8) := Enc.sl tU8 Enc.u8
section
variable {w0 : World} {L0 : List Nat} {cs : List Value} {e : TypeId} {xs : List UInt8} {a : Option Addr} {m c : Nat}
theorem Ro.u8 {x : UInt8} (h : Ro w0 L0 Enc.u8 cs x) : cs = [.int .u8 (↑x.toNat : Int)] := let ⟨_, h1, _⟩ := h; h1.1
theorem Ro.elemU (h : Ro w0 L0 (Enc.sl e Enc.u8) [.slice a m c] xs) (i : Nat) (hi : i < xs.length) :
  ∃ b off, a = some ⟨b, off, none⟩ ∧ ∀ H, Has w0 L0 H b (off + i * 1) [.int .u8 (↑xs[i].toNat : Int)] := by
 obtain ⟨b, off, ci, h1, h2, h3, h4⟩ := h.elem i hi
 obtain rfl := h2.u8
 exact ⟨b, off, h1, h4⟩
end
abbrev tl1Cur : TypeId := 133
theorem ty_l1Cur : TyOk Tryz.prog tl1Cur true 3 [.slice none 0 0, .int .i64 0, .int .i64 0] 40 := O4 (z := .agg #[.slice none 0 0, .int .i64 0, .int .i64 0]) (by kernel_rfl) (by kernel_rfl) rfl rfl
theorem fo_l1Cur_0 : U5 Tryz.prog tl1Cur 0 = some (0, 22) := by kernel_rfl
theorem fo_l1Cur_1 : U5 Tryz.prog tl1Cur 1 = some (1, tI) := by kernel_rfl
theorem fo_l1Cur_2 : U5 Tryz.prog tl1Cur 2 = some (2, tI) := by kernel_rfl
theorem pl_l1Cur : a0o Tryz.prog tl1Cur = some [(0, 1), (1, 1), (2, 1)] := by kernel_rfl
abbrev b5G (m : Nat) : Type := { k : Int × Int // (0 ≤ k.1 ∧ k.1 ≤ (m : Int)) ∧ I64 k.2 }
def curF (b : Nat) (a : Option Addr) (m c : Nat) (k : b5G m) : List HP := [pt b tl1Cur [.slice a m c, .int .i64 k.1.1, .int .i64 k.1.2]]
def cur (b : Nat) (a : Option Addr) (m c : Nat) : HP := hpx (curF b a m c)
section
variable {n : Nat} {w0 : World} {L0 : List Nat} {fr : Fr} {R : List HP} {G : Act → World → Prop} {b : Nat} {a : Option Addr} {m c : Nat}
theorem Ent.curO (h : ∀ i h : Int, 0 ≤ i ∧ i ≤ (m : Int) → I64 h → Ent n w0 L0 fr (pt b tl1Cur [.slice a m c, .int .i64 i, .int .i64 h] :: R) G) : Ent n w0 L0 fr (cur b a m c :: R) G := b1D fun k => h k.1.1 k.1.2 k.2.1 k.2.2
theorem Ent.curC {i h : Int} (hi : 0 ≤ i ∧ i ≤ (m : Int)) (hh : I64 h) (k : Ent n w0 L0 fr (cur b a m c :: R) G) : Ent n w0 L0 fr (pt b tl1Cur [.slice a m c, .int .i64 i, .int .i64 h] :: R) G := b3a (F := curF b a m c) ⟨(i, h), hi, hh⟩ rfl k
end
section
variable {P : Program} {n : Nat} {fr : Fr}
theorem a4l {x y : Operand} {T U : TypeId} {a b : Int} (hx : ev fr x = some (.int .i64 a)) (hy : ev fr y = some (.int .i64 b)) (h : -9223372036854775808 ≤ a * b ∧ a * b ≤ 9223372036854775807) : Yp P n fr (.binOp .mul T x y U) (.int .i64 (a * b)) := by
 have := b0v (P := P) (n := n) (T := T) (U := U) hx hy
 rwa [IntWalk.i64_in _ h] at this
theorem b0w {x y : Operand} {T U : TypeId} {a b : Int} (hx : ev fr x = some (.int .i64 a)) (hy : ev fr y = some (.int .u64 b)) (h0 : 0 ≤ b) (h1 : b ≤ 64) : Yp P n fr (.binOp .shr T x y U) (.int .i64 (a / 2 ^ b.toNat)) := fun ac h w' d t p af g => by
 have e : min b.toNat 64 = b.toNat := by omega
 simp [execOp, h.ev hx, h.ev hy, eqGuard_shr, binOp_shr, e]
end
theorem b1M {a : Int} : 0 ≤ J3 a 1073741823 ∧ J3 a 1073741823 ≤ 1073741823 := by
 have h : (BitVec.ofInt 64 a &&& BitVec.ofInt 64 1073741823).toNat ≤ 1073741823 := by
  rw [BitVec.toNat_and]
  exact Nat.le_trans Nat.and_le_right (by decide)
 unfold J3
 have e : IntKind.i64.wrap ((BitVec.ofInt 64 a &&& BitVec.ofInt 64 1073741823).toNat : Int) = ((BitVec.ofInt 64 a &&& BitVec.ofInt 64 1073741823).toNat : Int) := IntWalk.i64_in _ ⟨by omega, by omega⟩
 rw [e]; omega
theorem a4A {x n : Int} (hn : 0 < n) : 0 ≤ x % n ∧ (n ≤ 0 → x % n = 0) ∧ (0 < n → x % n < n) := ⟨Int.emod_nonneg _ (by omega), fun h => by omega, fun _ => Int.emod_lt_of_pos _ hn⟩
theorem a7g {ys : List Int} {g : Nat} {a : Int} (h : ys.length = g ∧ ∀ z ∈ ys, 1 ≤ z ∧ z ≤ 3) (ha : 1 ≤ a ∧ a ≤ 3) : (ys ++ [a]).length = g + 1 ∧ ∀ z ∈ ys ++ [a], 1 ≤ z ∧ z ≤ 3 := by
 refine ⟨by simp [h.1], fun z hz => ?_⟩
 rcases List.mem_append.1 hz with hz | hz
 ·exact h.2 z hz
 ·rw [List.mem_singleton] at hz; omega
theorem b2R {ys : List Int} {g : Nat} (h : ys.length = g ∧ ∀ z ∈ ys, 1 ≤ z ∧ z ≤ 3) (h1 : 1 ≤ g) (h2 : g ≤ 3) : 1 ≤ ys.length ∧ ys.length ≤ 3 ∧ ∀ z ∈ ys, 1 ≤ z ∧ z ≤ 3 := ⟨by omega, by omega, h.2⟩
end Go.Proofs.YtfnbilpemdgkkaaGreatDoor
end
