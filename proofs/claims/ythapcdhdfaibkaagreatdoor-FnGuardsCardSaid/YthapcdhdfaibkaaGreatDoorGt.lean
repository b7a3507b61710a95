import Derived.Test.YthapcdhdfaibkaaGreatDoorT31
section
namespace Go.Proofs.YthapcdhdfaibkaaGreatDoor
open Go.RowKit
set_option linter.all false
def hpx {κ : Type} (F : κ → List HP) : HP where
 holds w L := ∃ k, Sep (F k) w L
 stable := fun ⟨k, h⟩ hb => ⟨k, h.stable hb⟩
 inh := fun ⟨k, h⟩ => h.inh
def b4I (RR : World → List Nat → Prop) : Prop := ∀ (w0 : World) (L0 : List Nat) (pre rest : List HP) (w : World) (Lp : List Nat), At w0 L0 pre rest w Lp → RR w0 L0 → RR w Lp
def FnS {α σ : Type} (P : Program) (g : FuncId) (caps : List Value) (RR : World → List Nat → Prop) (E : Enc α) (val : List Value → Value) (D : σ → α → Prop) (p : α → Bool) (S : σ → HP) (st : σ → α → σ) : Prop :=
 ∀ cs x s, D s x → Tr P g (val cs :: caps) (fun w L => Ro w L E cs x ∧ RR w L) [S s] (κ := Unit) (fun _ => True) (fun _ => .bool (p x)) (fun _ => [S (st s x)])
section
variable {P : Program} {Q : Exit → Act → World → Prop} {n : Nat} {w0 : World} {L0 : List Nat} {fr : Fr} {H R A : List HP} {G : Act → World → Prop} {d : Nat} {ty : TypeId} {pos : String} {af : Array Edge} {g : Option (Nat × Bool)} {κ σ α : Type} {F F' : κ → List HP} {RR : World → List Nat → Prop}
theorem b4n (k : κ) (hH : H = F k ++ R) (h : Ent n w0 L0 fr (hpx F :: R) G) : Ent n w0 L0 fr H G := fun a w h1 h2 => by
 subst hH
 obtain ⟨L, hs, hn, hst⟩ := h2
 obtain ⟨L1, L2, rfl, g1, g2⟩ := Sep.append.1 hs
 exact h a w h1 ⟨L1 ++ L2, ⟨L1, L2, rfl, ⟨k, g1⟩, g2⟩, hn, hst⟩
theorem b3q (h : ∀ k, Ent n w0 L0 fr (F k ++ R) G) : Ent n w0 L0 fr (hpx F :: R) G := fun a w h1 h2 => by
 obtain ⟨L, ⟨L1, L2, rfl, ⟨k, g1⟩, g2⟩, hn, hst⟩ := h2
 exact h k a w h1 ⟨L1 ++ L2, Sep.append.2 ⟨L1, L2, rfl, g1, g2⟩, hn, hst⟩
theorem c1o {κ' : Type} [Inhabited κ] {F'' : κ' → List HP} {F' : κ' → List HP} {f : FuncId} {args : List Value} {φ : κ' → Prop} {ret : κ' → Value} {v : Value} (tr : ∀ k, Tr P f args RR (F k) (κ := κ') φ ret F'') (hp : ∀ k, (F'' k).Perm (F' k)) (hr : ∀ k, ret k = v) : Tr P f args RR [hpx F] (κ := Unit) (fun _ => True) (fun _ => v) (fun _ => [hpx F']) := by
 refine ⟨(tr default).1, fun w L hR hs hn => ?_⟩
 obtain ⟨L1, L2, rfl, ⟨k, g1⟩, g2⟩ := hs
 have e2 : L2 = [] := g2
 subst e2
 rw [List.append_nil] at hR hn ⊢
 refine ((tr k).2 w L1 hR g1 hn).mono ?_
 rintro e w' ⟨k', _, rfl, hh⟩
 obtain ⟨L, hs', hn', hst'⟩ := hh.perm (hp k')
 exact ⟨(), trivial, by rw [hr], L, ⟨L, [], (List.append_nil _).symm, ⟨k', hs'⟩, rfl⟩, hn', hst'⟩
theorem b7t {R' : World → List Nat → Prop} {f : FuncId} {args : List Value} {pre : List HP} {κ' : Type} {φ : κ' → Prop} {ret : κ' → Value} {post : κ' → List HP} (tr : Tr P f args R' pre φ ret post) (h : ∀ w L, RR w L → R' w L) : Tr P f args RR pre φ ret post := ⟨tr.1, fun w L hR => tr.2 w L (h w L hR)⟩
theorem b1L {f : FuncId} {caps : List Value} {D : σ → (List Int × List Int) → Prop} {p : (List Int × List Int) → Bool} {S : σ → HP} {st : σ → (List Int × List Int) → σ} (tr : ∀ {a0 : Option Addr} {m0 c0 : Nat} {x0 : List Int} {a1 : Option Addr} {m1 c1 : Nat} {x1 : List Int} {s : σ}, D s (x0, x1) → Tr P f (.agg #[.slice a0 m0 c0, .slice a1 m1 c1] :: caps) (fun w L => (Ro w L eIs [.slice a0 m0 c0] x0 ∧ Ro w L eIs [.slice a1 m1 c1] x1) ∧ RR w L) [S s] (κ := Unit) (fun _ => True) (fun _ => .bool (p (x0, x1))) (fun _ => [S (st s (x0, x1))])) : FnS P f caps RR B7 a0P D p S st := fun cs x s hd =>
 ⟨(tr (a0 := none) (m0 := 0) (c0 := 0) (a1 := none) (m1 := 0) (c1 := 0) hd).1, fun w L hR hs hn => by
  obtain ⟨a0, c0, a1, c1, rfl, h0, h1⟩ := a0K hR.1
  exact (tr hd).2 w L ⟨⟨h0, h1⟩, hR.2⟩ hs hn⟩
theorem b7S {E : Enc α} {S : σ → HP} {f : FuncId} {x y : Operand} {caps : List Value} {ts : Array TypeId} {val : List Value → Value} {D : σ → α → Prop} {p : α → Bool} {st : σ → α → σ} {s : σ} {cs : List Value} {u : α} {v : Value}
  (hf : FnS P f caps RR E val D p S st) (hst : b4I RR) (hrr : RR w0 L0) (hx : ev fr x = some (.func (.func f) #[] caps.toArray)) (hy : ev fr y = some v) (hv : v = val cs) (hd : d < n) (hR : ∀ w Lp, At w0 L0 [S s] R w Lp → Ro w Lp E cs u) (hu : D s u) :
  Nop P Q n w0 L0 fr (S s :: R) ⟨some d, .call ⟨.value x, #[y], ts⟩, ty, pos, af, g⟩ false (κ := Unit) (fun _ => (d, .bool (p u)) :: fr) (fun _ => S (st s u) :: R) (fun _ => True) :=
 N.call (hf cs u s hu) hx (vs := [v]) (by simp [evs, hy]) (by rw [hv]; rfl) hd (rest := R) rfl fun w Lp hA => ⟨hR w Lp hA, hst _ _ _ _ _ _ hA hrr⟩
end
section
variable {α σ : Type} {s : List α} {st : σ → α → σ} {s0 : σ} {p : α → Bool} {k : Nat}
def a6f (p : α → Bool) (s : List α) : Nat := if J0 p s < 0 then s.length else (J0 p s).toNat + 1
theorem b0t (h : k < s.length) : st ((s.take k).foldl st s0) s[k] = (s.take (k + 1)).foldl st s0 := by rw [List.take_succ_eq_append_getElem h, List.foldl_append]; rfl
theorem b6W (hk : k < s.length) (h : ∀ x ∈ s.take k, p x = false) (hp : p s[k] = true) : st ((s.take k).foldl st s0) s[k] = (s.take (a6f p s)).foldl st s0 := by
 rw [b0t (st := st) (s0 := s0) hk, a6f, ← Q4 hk h hp, if_neg (by omega), Int.toNat_natCast]
theorem b5R (hk : ¬ k < s.length) (h : ∀ x ∈ s.take k, p x = false) : (s.take k).foldl st s0 = (s.take (a6f p s)).foldl st s0 := by
 rw [a6f, ← P1 hk h, if_pos (by omega), List.take_of_length_le (by omega), List.take_length]
theorem b5e (h : J0 p s < 0) : (s.take (a6f p s)).foldl st s0 = s.foldl st s0 := by rw [a6f, if_pos h, List.take_length]
theorem b5B {i : Nat} (h : J0 p s = (i : Int)) : (s.take (a6f p s)).foldl st s0 = (s.take (i + 1)).foldl st s0 := by rw [a6f, if_neg (by omega), h, Int.toNat_natCast]
end
end Go.Proofs.YthapcdhdfaibkaaGreatDoor
end
section
namespace Go.Proofs.YthapcdhdfaibkaaGreatDoor
open Go.RowKit
set_option linter.all false
section
variable {P : Program} {n : Nat} {fr : Fr}
theorem b3c (m : Int) : I64 (IntKind.i64.wrap m) := by
 unfold I64
 simp only [IntKind.wrap, IntKind.bits, IntKind.signed]
 simp
 split <;> omega
theorem c0j {x y : Operand} {T U : TypeId} {a b : Int} (hx : ev fr x = some (.int .i64 a)) (hy : ev fr y = some (.int .i64 b)) : Yp P n fr (.binOp .add T x y U) (.int .i64 (IntKind.i64.wrap (a + b))) := fun ac h w' d t p af g => by
 simp [execOp, h.ev hx, h.ev hy, eqGuard_add, binOp_add, Op.intArith]
theorem b6t {x y : Operand} {T U : TypeId} {a b : Int} (hx : ev fr x = some (.int .i64 a)) (hy : ev fr y = some (.int .i64 b)) : Yp P n fr (.binOp .mul T x y U) (.int .i64 (IntKind.i64.wrap (a * b))) := fun ac h w' d t p af g => by
 simp [execOp, h.ev hx, h.ev hy, eqGuard_mul, binOp_mul, Op.intArith]
def a5o (a b : Int) : Int := IntKind.i64.wrap ((BitVec.ofInt 64 a ^^^ BitVec.ofInt 64 b).toNat : Int)
theorem Y.xor {x y : Operand} {T U : TypeId} {a b : Int} (hx : ev fr x = some (.int .i64 a)) (hy : ev fr y = some (.int .i64 b)) : Yp P n fr (.binOp .xor T x y U) (.int .i64 (a5o a b)) := fun ac h w' d t p af g => by
 simp [execOp, h.ev hx, h.ev hy, eqGuard_xor, binOp_xor, Op.intBits, a5o]
 rfl
theorem b1Z {a : Int} : 0 ≤ a0O a 255 ∧ a0O a 255 ≤ 255 := by
 have h : (BitVec.ofInt 64 a &&& BitVec.ofInt 64 255).toNat ≤ 255 := by
  rw [BitVec.toNat_and]
  exact Nat.le_trans Nat.and_le_right (by decide)
 unfold a0O
 have e : IntKind.i64.wrap ((BitVec.ofInt 64 a &&& BitVec.ofInt 64 255).toNat : Int) = ((BitVec.ofInt 64 a &&& BitVec.ofInt 64 255).toNat : Int) := IntWalk.i64_in _ ⟨by omega, by omega⟩
 rw [e]; omega
theorem b7V {x : Operand} {S D : TypeId} {a : Int} (hS : P.underlying S = some (.int .u8)) (hD : P.underlying D = some (.int .i64)) (hx : ev fr x = some (.int .u8 a)) (h : 0 ≤ a ∧ a ≤ 255) : Yp P n fr (.convert S D x) (.int .i64 a) := fun ac hF w' d t p af g => by
 have h1 : IntKind.i64.wrap a = a := IntWalk.i64_in _ ⟨by omega, by omega⟩
 simp [execOp, convert, hF.ev hx, run_underlying hS, run_underlying hD, Conv.intToInt, h1]
end
end Go.Proofs.YthapcdhdfaibkaaGreatDoor
end
section
namespace Go.Proofs.YthapcdhdfaibkaaGreatDoor
open Go.RowKit
set_option linter.all false
abbrev tU8 : TypeId := 5
theorem a9F : TyOk Tryz.prog 5 false 1 [.int .u8 0] 1 := Q6 (z := .int .u8 0) (by kernel_rfl) (by kernel_rfl) rfl rfl
theorem us_U8s : Tryz.prog.underlying 22 = some (.slice 5) := by kernel_rfl
theorem ty_U8s : TyOk Tryz.prog 22 false 1 [.slice none 0 0] 24 := Q6 (z := .slice none 0 0) (by kernel_rfl) (by kernel_rfl) rfl rfl
theorem b4U : Tryz.prog.underlying 3 = some (.int .i64) := by kernel_rfl
theorem a7P : Tryz.prog.underlying 5 = some (.int .u8) := by kernel_rfl
theorem ub8 {c : UInt8} : 0 ≤ (↑c.toNat : Int) ∧ (↑c.toNat : Int) ≤ 255 := by
 have := c.toNat_lt
 omega
def Enc.u8 : Enc UInt8 where
 k := 1
 pos := by decide
 rep _ cs x L _ := cs = [.int .u8 (↑x.toNat : Int)] ∧ L = []
 len h := by rw [h.1]; rfl
 one h := by rw [h.1]; simp [Value.oneCell']
 stable h _ := h
 inh h := by rw [h.2]; simp
 ro h := ⟨[], by simp, h.1, rfl⟩
abbrev a0B : Enc (List UInt8) := Enc.sl tU8 Enc.u8
section
variable {w0 : World} {L0 : List Nat} {cs : List Value} {e : TypeId} {xs : List UInt8} {a : Option Addr} {m c : Nat}
theorem Ro.u8 {x : UInt8} (h : Ro w0 L0 Enc.u8 cs x) : cs = [.int .u8 (↑x.toNat : Int)] := let ⟨_, h1, _⟩ := h; h1.1
theorem Ro.elemU (h : Ro w0 L0 (Enc.sl e Enc.u8) [.slice a m c] xs) (i : Nat) (hi : i < xs.length) :
  ∃ b off, a = some ⟨b, off, none⟩ ∧ ∀ H, Has w0 L0 H b (off + i * 1) [.int .u8 (↑xs[i].toNat : Int)] := by
 obtain ⟨b, off, ci, h1, h2, h3, h4⟩ := h.elem i hi
 obtain rfl := h2.u8
 exact ⟨b, off, h1, h4⟩
end
abbrev tl1Cur : TypeId := 204
theorem ty_l1Cur : TyOk Tryz.prog tl1Cur true 3 [.slice none 0 0, .int .i64 0, .int .i64 0] 40 := Q6 (z := .agg #[.slice none 0 0, .int .i64 0, .int .i64 0]) (by kernel_rfl) (by kernel_rfl) rfl rfl
theorem fo_l1Cur_0 : X0 Tryz.prog tl1Cur 0 = some (0, 22) := by kernel_rfl
theorem fo_l1Cur_1 : X0 Tryz.prog tl1Cur 1 = some (1, tI) := by kernel_rfl
theorem fo_l1Cur_2 : X0 Tryz.prog tl1Cur 2 = some (2, tI) := by kernel_rfl
theorem pl_l1Cur : a0X Tryz.prog tl1Cur = some [(0, 1), (1, 1), (2, 1)] := by kernel_rfl
abbrev c1I (m : Nat) : Type := { k : Int × Int // (0 ≤ k.1 ∧ k.1 ≤ (m : Int)) ∧ I64 k.2 }
def curF (b : Nat) (a : Option Addr) (m c : Nat) (k : c1I m) : List HP := [pt b tl1Cur [.slice a m c, .int .i64 k.1.1, .int .i64 k.1.2]]
def cur (b : Nat) (a : Option Addr) (m c : Nat) : HP := hpx (curF b a m c)
section
variable {n : Nat} {w0 : World} {L0 : List Nat} {fr : Fr} {R : List HP} {G : Act → World → Prop} {b : Nat} {a : Option Addr} {m c : Nat}
theorem Ent.curO (h : ∀ i h : Int, 0 ≤ i ∧ i ≤ (m : Int) → I64 h → Ent n w0 L0 fr (pt b tl1Cur [.slice a m c, .int .i64 i, .int .i64 h] :: R) G) : Ent n w0 L0 fr (cur b a m c :: R) G := b3q fun k => h k.1.1 k.1.2 k.2.1 k.2.2
theorem Ent.curC {i h : Int} (hi : 0 ≤ i ∧ i ≤ (m : Int)) (hh : I64 h) (k : Ent n w0 L0 fr (cur b a m c :: R) G) : Ent n w0 L0 fr (pt b tl1Cur [.slice a m c, .int .i64 i, .int .i64 h] :: R) G := b4n (F := curF b a m c) ⟨(i, h), hi, hh⟩ rfl k
end
section
variable {P : Program} {n : Nat} {fr : Fr}
theorem a9T {x y : Operand} {T U : TypeId} {a b : Int} (hx : ev fr x = some (.int .i64 a)) (hy : ev fr y = some (.int .i64 b)) (h : -9223372036854775808 ≤ a * b ∧ a * b ≤ 9223372036854775807) : Yp P n fr (.binOp .mul T x y U) (.int .i64 (a * b)) := by
 have := b6t (P := P) (n := n) (T := T) (U := U) hx hy
 rwa [IntWalk.i64_in _ h] at this
theorem b6n {x y : Operand} {T U : TypeId} {a b : Int} (hx : ev fr x = some (.int .i64 a)) (hy : ev fr y = some (.int .u64 b)) (h0 : 0 ≤ b) (h1 : b ≤ 64) : Yp P n fr (.binOp .shr T x y U) (.int .i64 (a / 2 ^ b.toNat)) := fun ac h w' d t p af g => by
 have e : min b.toNat 64 = b.toNat := by omega
 simp [execOp, h.ev hx, h.ev hy, eqGuard_shr, binOp_shr, e]
end
theorem b7E {a : Int} : 0 ≤ a0O a 1073741823 ∧ a0O a 1073741823 ≤ 1073741823 := by
 have h : (BitVec.ofInt 64 a &&& BitVec.ofInt 64 1073741823).toNat ≤ 1073741823 := by
  rw [BitVec.toNat_and]
  exact Nat.le_trans Nat.and_le_right (by decide)
 unfold a0O
 have e : IntKind.i64.wrap ((BitVec.ofInt 64 a &&& BitVec.ofInt 64 1073741823).toNat : Int) = ((BitVec.ofInt 64 a &&& BitVec.ofInt 64 1073741823).toNat : Int) := IntWalk.i64_in _ ⟨by omega, by omega⟩
 rw [e]; omega
theorem b0q {x n : Int} (hn : 0 < n) : 0 ≤ x % n ∧ (n ≤ 0 → x % n = 0) ∧ (0 < n → x % n < n) := ⟨Int.emod_nonneg _ (by omega), fun h => by omega, fun _ => Int.emod_lt_of_pos _ hn⟩
theorem b2e {ys : List Int} {g : Nat} {a : Int} (h : ys.length = g ∧ ∀ z ∈ ys, 1 ≤ z ∧ z ≤ 3) (ha : 1 ≤ a ∧ a ≤ 3) : (ys ++ [a]).length = g + 1 ∧ ∀ z ∈ ys ++ [a], 1 ≤ z ∧ z ≤ 3 := by
 refine ⟨by simp [h.1], fun z hz => ?_⟩
 rcases List.mem_append.1 hz with hz | hz
 ·exact h.2 z hz
 ·rw [List.mem_singleton] at hz; omega
theorem b7Y {ys : List Int} {g : Nat} (h : ys.length = g ∧ ∀ z ∈ ys, 1 ≤ z ∧ z ≤ 3) (h1 : 1 ≤ g) (h2 : g ≤ 3) : 1 ≤ ys.length ∧ ys.length ≤ 3 ∧ ∀ z ∈ ys, 1 ≤ z ∧ z ≤ 3 := ⟨by omega, by omega, h.2⟩
end Go.Proofs.YthapcdhdfaibkaaGreatDoor
end
