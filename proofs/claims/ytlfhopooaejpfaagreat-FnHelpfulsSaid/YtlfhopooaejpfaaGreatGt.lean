import Derived.Test.YtlfhopooaejpfaaGreatT35
section
namespace Go.Proofs.YtlfhopooaejpfaaGreat
open Go.RowKit
set_option linter.unusedVariables false
set_option linter.unusedSimpArgs false
def hpx {κ : Type} (F : κ → List HP) : HP where
 holds w L := ∃ k, Sep (F k) w L
 stable := fun ⟨k, h⟩ hb => ⟨k, h.stable hb⟩
 inh := fun ⟨k, h⟩ => h.inh
def c3S (RR : World → List Nat → Prop) : Prop := ∀ (w0 : World) (L0 : List Nat) (pre rest : List HP) (w : World) (Lp : List Nat), At w0 L0 pre rest w Lp → RR w0 L0 → RR w Lp
def FnS {α σ : Type} (P : Program) (g : FuncId) (caps : List Value) (RR : World → List Nat → Prop) (E : Enc α) (val : List Value → Value) (D : σ → α → Prop) (p : α → Bool) (S : σ → HP) (st : σ → α → σ) : Prop :=
 ∀ cs x s, D s x → Tr P g (val cs :: caps) (fun w L => Ro w L E cs x ∧ RR w L) [S s] (κ := Unit) (fun _ => True) (fun _ => .bool (p x)) (fun _ => [S (st s x)])
section
variable {P : Program} {Q : Exit → Act → World → Prop} {n : Nat} {w0 : World} {L0 : List Nat} {fr : Fr} {H R A : List HP} {G : Act → World → Prop} {d : Nat} {ty : TypeId} {pos : String} {af : Array Edge} {g : Option (Nat × Bool)} {κ σ α : Type} {F F' : κ → List HP} {RR : World → List Nat → Prop}
theorem b9F (k : κ) (hH : H = F k ++ R) (h : Ent n w0 L0 fr (hpx F :: R) G) : Ent n w0 L0 fr H G := fun a w h1 h2 => by
 subst hH
 obtain ⟨L, hs, hn, hst⟩ := h2
 obtain ⟨L1, L2, rfl, g1, g2⟩ := Sep.append.1 hs
 exact h a w h1 ⟨L1 ++ L2, ⟨L1, L2, rfl, ⟨k, g1⟩, g2⟩, hn, hst⟩
theorem b8e (h : ∀ k, Ent n w0 L0 fr (F k ++ R) G) : Ent n w0 L0 fr (hpx F :: R) G := fun a w h1 h2 => by
 obtain ⟨L, ⟨L1, L2, rfl, ⟨k, g1⟩, g2⟩, hn, hst⟩ := h2
 exact h k a w h1 ⟨L1 ++ L2, Sep.append.2 ⟨L1, L2, rfl, g1, g2⟩, hn, hst⟩
theorem c3M {κ' : Type} [Inhabited κ] {F'' : κ' → List HP} {F' : κ' → List HP} {f : FuncId} {args : List Value} {φ : κ' → Prop} {ret : κ' → Value} {v : Value} (tr : ∀ k, Tr P f args RR (F k) (κ := κ') φ ret F'') (hp : ∀ k, (F'' k).Perm (F' k)) (hr : ∀ k, ret k = v) : Tr P f args RR [hpx F] (κ := Unit) (fun _ => True) (fun _ => v) (fun _ => [hpx F']) := by
 refine ⟨(tr default).1, fun w L hR hs hn => ?_⟩
 obtain ⟨L1, L2, rfl, ⟨k, g1⟩, g2⟩ := hs
 have e2 : L2 = [] := g2
 subst e2
 rw [List.append_nil] at hR hn ⊢
 refine ((tr k).2 w L1 hR g1 hn).mono ?_
 rintro e w' ⟨k', _, rfl, hh⟩
 obtain ⟨L, hs', hn', hst'⟩ := hh.perm (hp k')
 exact ⟨(), trivial, by rw [hr], L, ⟨L, [], (List.append_nil _).symm, ⟨k', hs'⟩, rfl⟩, hn', hst'⟩
end
section
variable {α σ : Type} {s : List α} {st : σ → α → σ} {s0 : σ} {p : α → Bool} {k : Nat}
def c3U (p : α → Bool) (s : List α) : Nat := if J8 p s < 0 then s.length else (J8 p s).toNat + 1
end
end Go.Proofs.YtlfhopooaejpfaaGreat
end
section
namespace Go.Proofs.YtlfhopooaejpfaaGreat
open Go.RowKit
set_option linter.unusedVariables false
set_option linter.unusedSimpArgs false
section
variable {P : Program} {n : Nat} {fr : Fr}
theorem b2O (m : Int) : I64 (IntKind.i64.wrap m) := by
 unfold I64
 simp only [IntKind.wrap, IntKind.bits, IntKind.signed]
 simp
 split <;> omega
theorem c0D {x y : Operand} {T U : TypeId} {a b : Int} (hx : ev fr x = some (.int .i64 a)) (hy : ev fr y = some (.int .i64 b)) : Yp P n fr (.binOp .add T x y U) (.int .i64 (IntKind.i64.wrap (a + b))) := fun ac h w' d t p af g => by
 simp [execOp, h.ev hx, h.ev hy, eqGuard_add, binOp_add, Op.intArith]
theorem b7d {x y : Operand} {T U : TypeId} {a b : Int} (hx : ev fr x = some (.int .i64 a)) (hy : ev fr y = some (.int .i64 b)) : Yp P n fr (.binOp .mul T x y U) (.int .i64 (IntKind.i64.wrap (a * b))) := fun ac h w' d t p af g => by
 simp [execOp, h.ev hx, h.ev hy, eqGuard_mul, binOp_mul, Op.intArith]
def a5G (a b : Int) : Int := IntKind.i64.wrap ((BitVec.ofInt 64 a ^^^ BitVec.ofInt 64 b).toNat : Int)
theorem Y.xor {x y : Operand} {T U : TypeId} {a b : Int} (hx : ev fr x = some (.int .i64 a)) (hy : ev fr y = some (.int .i64 b)) : Yp P n fr (.binOp .xor T x y U) (.int .i64 (a5G a b)) := fun ac h w' d t p af g => by
 simp [execOp, h.ev hx, h.ev hy, eqGuard_xor, binOp_xor, Op.intBits, a5G]
 rfl
theorem b2Z {a : Int} : 0 ≤ X8 a 255 ∧ X8 a 255 ≤ 255 := by
 have h : (BitVec.ofInt 64 a &&& BitVec.ofInt 64 255).toNat ≤ 255 := by
  rw [BitVec.toNat_and]
  exact Nat.le_trans Nat.and_le_right (by decide)
 unfold X8
 have e : IntKind.i64.wrap ((BitVec.ofInt 64 a &&& BitVec.ofInt 64 255).toNat : Int) = ((BitVec.ofInt 64 a &&& BitVec.ofInt 64 255).toNat : Int) := IntWalk.i64_in _ ⟨by omega, by omega⟩
 rw [e]; omega
theorem b8A {x : Operand} {S D : TypeId} {a : Int} (hS : P.underlying S = some (.int .u8)) (hD : P.underlying D = some (.int .i64)) (hx : ev fr x = some (.int .u8 a)) (h : 0 ≤ a ∧ a ≤ 255) : Yp P n fr (.convert S D x) (.int .i64 a) := fun ac hF w' d t p af g => by
 have h1 : IntKind.i64.wrap a = a := IntWalk.i64_in _ ⟨by omega, by omega⟩
 simp [execOp, convert, hF.ev hx, run_underlying hS, run_underlying hD, Conv.intToInt, h1]
end
end Go.Proofs.YtlfhopooaejpfaaGreat
end
section
namespace Go.Proofs.YtlfhopooaejpfaaGreat
open Go.RowKit
set_option linter.unusedVariables false
set_option linter.unusedSimpArgs false
abbrev tU8 : TypeId := 5
theorem b2b : TyOk Tryz.prog 5 false 1 [.int .u8 0] 1 := O2 (z := .int .u8 0) (by kernel_rfl) (by kernel_rfl) rfl rfl
theorem us_U8s : Tryz.prog.underlying 22 = some (.slice 5) := by kernel_rfl
theorem ty_U8s : TyOk Tryz.prog 22 false 1 [.slice none 0 0] 24 := O2 (z := .slice none 0 0) (by kernel_rfl) (by kernel_rfl) rfl rfl
theorem c0a : Tryz.prog.underlying 3 = some (.int .i64) := by kernel_rfl
theorem b8r : Tryz.prog.underlying 5 = some (.int .u8) := by kernel_rfl
theorem ub8 {c : UInt8} : 0 ≤ (↑c.toNat : Int) ∧ (↑c.toNat : Int) ≤ 255 := by
 have := c.toNat_lt
 omega
def Enc.u8 : Enc UInt8 where
 k := 1
 pos := by decide
 rep _ cs x L _ := cs = [.int .u8 (↑x.toNat : Int)] ∧ L = []
 len h := by rw [h.1]; rfl
 one h := by rw [h.1]; simp [Value.oneCell']
 stable h _ := h
 inh h := by rw [h.2]; simp
 ro h := ⟨[], by simp, h.1, rfl⟩
abbrev a0W : Enc (List UInt8) := Enc.sl tU8 Enc.u8
section
variable {w0 : World} {L0 : List Nat} {cs : List Value} {e : TypeId} {xs : List UInt8} {a : Option Addr} {m c : Nat}
theorem Ro.u8 {x : UInt8} (h : Ro w0 L0 Enc.u8 cs x) : cs = [.int .u8 (↑x.toNat : Int)] := let ⟨_, h1, _⟩ := h; h1.1
theorem Ro.elemU (h : Ro w0 L0 (Enc.sl e Enc.u8) [.slice a m c] xs) (i : Nat) (hi : i < xs.length) :
  ∃ b off, a = some ⟨b, off, none⟩ ∧ ∀ H, Has w0 L0 H b (off + i * 1) [.int .u8 (↑xs[i].toNat : Int)] := by
 obtain ⟨b, off, ci, h1, h2, h3, h4⟩ := h.elem i hi
 obtain rfl := h2.u8
 exact ⟨b, off, h1, h4⟩
end
abbrev tl1Cur : TypeId := 139
theorem ty_l1Cur : TyOk Tryz.prog tl1Cur true 3 [.slice none 0 0, .int .i64 0, .int .i64 0] 40 := O2 (z := .agg #[.slice none 0 0, .int .i64 0, .int .i64 0]) (by kernel_rfl) (by kernel_rfl) rfl rfl
theorem fo_l1Cur_0 : U2 Tryz.prog tl1Cur 0 = some (0, 22) := by kernel_rfl
theorem fo_l1Cur_1 : U2 Tryz.prog tl1Cur 1 = some (1, tI) := by kernel_rfl
theorem fo_l1Cur_2 : U2 Tryz.prog tl1Cur 2 = some (2, tI) := by kernel_rfl
theorem pl_l1Cur : a0w Tryz.prog tl1Cur = some [(0, 1), (1, 1), (2, 1)] := by kernel_rfl
abbrev c2d (m : Nat) : Type := { k : Int × Int // (0 ≤ k.1 ∧ k.1 ≤ (m : Int)) ∧ I64 k.2 }
def curF (b : Nat) (a : Option Addr) (m c : Nat) (k : c2d m) : List HP := [pt b tl1Cur [.slice a m c, .int .i64 k.1.1, .int .i64 k.1.2]]
def cur (b : Nat) (a : Option Addr) (m c : Nat) : HP := hpx (curF b a m c)
section
variable {n : Nat} {w0 : World} {L0 : List Nat} {fr : Fr} {R : List HP} {G : Act → World → Prop} {b : Nat} {a : Option Addr} {m c : Nat}
theorem Ent.curO (h : ∀ i h : Int, 0 ≤ i ∧ i ≤ (m : Int) → I64 h → Ent n w0 L0 fr (pt b tl1Cur [.slice a m c, .int .i64 i, .int .i64 h] :: R) G) : Ent n w0 L0 fr (cur b a m c :: R) G := b8e fun k => h k.1.1 k.1.2 k.2.1 k.2.2
theorem Ent.curC {i h : Int} (hi : 0 ≤ i ∧ i ≤ (m : Int)) (hh : I64 h) (k : Ent n w0 L0 fr (cur b a m c :: R) G) : Ent n w0 L0 fr (pt b tl1Cur [.slice a m c, .int .i64 i, .int .i64 h] :: R) G := b9F (F := curF b a m c) ⟨(i, h), hi, hh⟩ rfl k
end
section
variable {P : Program} {n : Nat} {fr : Fr}
theorem a9Z {x y : Operand} {T U : TypeId} {a b : Int} (hx : ev fr x = some (.int .i64 a)) (hy : ev fr y = some (.int .i64 b)) (h : -9223372036854775808 ≤ a * b ∧ a * b ≤ 9223372036854775807) : Yp P n fr (.binOp .mul T x y U) (.int .i64 (a * b)) := by
 have := b7d (P := P) (n := n) (T := T) (U := U) hx hy
 rwa [IntWalk.i64_in _ h] at this
theorem b6W {x y : Operand} {T U : TypeId} {a b : Int} (hx : ev fr x = some (.int .i64 a)) (hy : ev fr y = some (.int .u64 b)) (h0 : 0 ≤ b) (h1 : b ≤ 64) : Yp P n fr (.binOp .shr T x y U) (.int .i64 (a / 2 ^ b.toNat)) := fun ac h w' d t p af g => by
 have e : min b.toNat 64 = b.toNat := by omega
 simp [execOp, h.ev hx, h.ev hy, eqGuard_shr, binOp_shr, e]
end
theorem b8u {a : Int} : 0 ≤ X8 a 1073741823 ∧ X8 a 1073741823 ≤ 1073741823 := by
 have h : (BitVec.ofInt 64 a &&& BitVec.ofInt 64 1073741823).toNat ≤ 1073741823 := by
  rw [BitVec.toNat_and]
  exact Nat.le_trans Nat.and_le_right (by decide)
 unfold X8
 have e : IntKind.i64.wrap ((BitVec.ofInt 64 a &&& BitVec.ofInt 64 1073741823).toNat : Int) = ((BitVec.ofInt 64 a &&& BitVec.ofInt 64 1073741823).toNat : Int) := IntWalk.i64_in _ ⟨by omega, by omega⟩
 rw [e]; omega
theorem b0J {x n : Int} (hn : 0 < n) : 0 ≤ x % n ∧ (n ≤ 0 → x % n = 0) ∧ (0 < n → x % n < n) := ⟨Int.emod_nonneg _ (by omega), fun h => by omega, fun _ => Int.emod_lt_of_pos _ hn⟩
theorem b3w {ys : List Int} {g : Nat} {a : Int} (h : ys.length = g ∧ ∀ z ∈ ys, 1 ≤ z ∧ z ≤ 3) (ha : 1 ≤ a ∧ a ≤ 3) : (ys ++ [a]).length = g + 1 ∧ ∀ z ∈ ys ++ [a], 1 ≤ z ∧ z ≤ 3 := by
 refine ⟨by simp [h.1], fun z hz => ?_⟩
 rcases List.mem_append.1 hz with hz | hz
 ·exact h.2 z hz
 ·rw [List.mem_singleton] at hz; omega
theorem b9n {ys : List Int} {g : Nat} (h : ys.length = g ∧ ∀ z ∈ ys, 1 ≤ z ∧ z ≤ 3) (h1 : 1 ≤ g) (h2 : g ≤ 3) : 1 ≤ ys.length ∧ ys.length ≤ 3 ∧ ∀ z ∈ ys, 1 ≤ z ∧ z ≤ 3 := ⟨by omega, by omega, h.2⟩
end Go.Proofs.YtlfhopooaejpfaaGreat
end
