import Derived.Test.YthapcdhdfaibkaaGreatDoorChecked
import Derived.Shelf.Lays
import Derived.Shelf.Strings.OnBuilder
import Derived.KernelRfl
import Derived.Test.YthapcdhdfaibkaaGreatDoorEi
import Derived.Test.YthapcdhdfaibkaaGreatDoorGt
import Derived.Laws.Concat
import Derived.Laws.IdiomStrings
import Derived.Laws.DeepStrings4
section
namespace Go.Proofs.YthapcdhdfaibkaaGreatDoor
open Go.Shelf
def b0W : Ren := ⟨fun | 156 => 153 | 165 => 255 | 166 => 256 | 169 => 257 | 240 => 323 | 241 => 324 | 276 => 366 | 277 => 367 | n => n, fun | 31 => 171 | 9 => 9 | 3 => 3 | 4 => 4 | 0 => 0 | 20 => 20 | 72 => 251 | 76 => 255 | 70 => 249 | 37 => 22 | 75 => 254 | 127 => 300 | 164 => 328 | 5 => 5 | 80 => 257 | n => n, fun n => n⟩
theorem b4F : Lays.n156 Tryz.prog b0W := { mixed := by kernel_rfl, f156 := Eq.trans Tryz.func153 (congrArg some (by kernel_rfl)), f165 := Eq.trans Tryz.func255 (congrArg some (by kernel_rfl)), f166 := Eq.trans Tryz.func256 (congrArg some (by kernel_rfl)), f169 := Eq.trans Tryz.func257 (congrArg some (by kernel_rfl)), f240 := Eq.trans Tryz.func323 (congrArg some (by kernel_rfl)), f241 := Eq.trans Tryz.func324 (congrArg some (by kernel_rfl)), f276 := Eq.trans Tryz.func366 (congrArg some (by kernel_rfl)), f277 := Eq.trans Tryz.func367 (congrArg some (by kernel_rfl)), t0 := Tryz.underlying0, a0 := Tryz.isAgg0, z0 := Tryz.sizeOf0, v0 := Tryz.zeroValue0, t3 := Tryz.underlying3, a3 := Tryz.isAgg3, z3 := Tryz.sizeOf3, v3 := Tryz.zeroValue3, t4 := Tryz.underlying4, a4 := Tryz.isAgg4, z4 := Tryz.sizeOf4, v4 := Tryz.zeroValue4, t9 := Tryz.underlying9, a9 := Tryz.isAgg9, z9 := Tryz.sizeOf9, v9 := Tryz.zeroValue9, t20 := Tryz.underlying20, a20 := Tryz.isAgg20, z20 := Tryz.sizeOf20, v20 := Tryz.zeroValue20, t31 := Tryz.underlying171, a31 := Tryz.isAgg171, z31 := Tryz.sizeOf171, v31 := Tryz.zeroValue171, t37 := Tryz.underlying22, a37 := Tryz.isAgg22, z37 := Tryz.sizeOf22, v37 := Tryz.zeroValue22, t70 := Tryz.underlying249, a70 := Tryz.isAgg249, z70 := Tryz.sizeOf249, v70 := Tryz.zeroValue249, t72 := Tryz.underlying251, a72 := Tryz.isAgg251, z72 := Tryz.sizeOf251, v72 := Tryz.zeroValue251, t75 := Tryz.underlying254, a75 := Tryz.isAgg254, z75 := Tryz.sizeOf254, v75 := Tryz.zeroValue254, t76 := Tryz.underlying255, a76 := Tryz.isAgg255, z76 := Tryz.sizeOf255, v76 := Tryz.zeroValue255, t127 := Tryz.underlying300, a127 := Tryz.isAgg300, z127 := Tryz.sizeOf300, v127 := Tryz.zeroValue300, t164 := Tryz.underlying328, a164 := Tryz.isAgg328, z164 := Tryz.sizeOf328, v164 := Tryz.zeroValue328 }
theorem b7H : Builder.Extra Tryz.prog b0W where
 sizeBuilder := by kernel_rfl
 liesBuilder := by kernel_rfl
 t5 := Tryz.underlying5
 a5 := Tryz.isAgg5
 z5 := Tryz.sizeOf5
 v5 := Tryz.zeroValue5
 infoByte := by kernel_rfl
 cellsByte := by kernel_rfl
 sizeByte := by kernel_rfl
 neB5 := by decide
end Go.Proofs.YthapcdhdfaibkaaGreatDoor
end
section
namespace Go.Proofs.YthapcdhdfaibkaaGreatDoor
open Go.RowKit Go.Shelf
set_option linter.all false
abbrev tS : TypeId := 9
abbrev P8 (x : List UInt8) : Value := .string ⟨x.toArray⟩
def Enc.str : Enc (List UInt8) where
 k := 1
 pos := by decide
 rep _ cs x L _ := cs = [P8 x] ∧ L = []
 len h := by rw [h.1]; rfl
 one h := by rw [h.1]; simp [Value.oneCell']
 stable h _ := h
 inh h := by rw [h.2]; simp
 ro h := ⟨[], by simp, h.1, rfl⟩
abbrev eSs : Enc (List (List UInt8)) := Enc.sl tS Enc.str
theorem frS {a b : List UInt8} (h : a = b) : some (P8 a) = some (P8 b) := by rw [h]
section
variable {w0 : World} {L0 : List Nat} {cs : List Value} {x : List UInt8}
theorem Ro.str (h : Ro w0 L0 Enc.str cs x) : cs = [P8 x] := let ⟨_, h1, _⟩ := h; h1.1
theorem Own.str : Own [] Enc.str [P8 x] x := fun w L hL => ⟨rfl, hL⟩
theorem Plain.str : Plain Enc.str := fun w cs x L h => ⟨h.1, rfl⟩
theorem Ro.elemS {e : TypeId} {xs : List (List UInt8)} {a : Option Addr} {m c : Nat} (h : Ro w0 L0 (Enc.sl e Enc.str) [.slice a m c] xs) (i : Nat) (hi : i < xs.length) :
  ∃ b off, a = some ⟨b, off, none⟩ ∧ ∀ H, Has w0 L0 H b (off + i * 1) [P8 xs[i]] := by
 obtain ⟨b, off, ci, h1, h2, h3, h4⟩ := h.elem i hi
 obtain rfl := h2.str
 exact ⟨b, off, h1, h4⟩
end
section
variable {P : Program} {n : Nat} {fr : Fr}
theorem P7 {x y : Operand} {T U : TypeId} {a b : List UInt8} (hx : ev fr x = some (P8 a)) (hy : ev fr y = some (P8 b)) (h : a.length + b.length ≤ 9223372036854775807) :
  Yp P n fr (.binOp .add T x y U) (P8 (a ++ b)) := fun ac hF w' d t p af g => by
 have h1 := run_string_add_sum (P := P) w' ⟨a.toArray⟩ ⟨b.toArray⟩ (by simpa [ByteArray.size] using h)
 rw [ByteArray.mk_append_mk] at h1
 simp [execOp, hF.ev hx, hF.ev hy, eqGuard_add, P8, binOp_string_add, h1]
theorem a4C {x y : Operand} {T U : TypeId} {a b : List UInt8} (hx : ev fr x = some (P8 a)) (hy : ev fr y = some (P8 b)) : Yp P n fr (.binOp .eql T x y U) (.bool (decide (a = b))) := fun ac hF w' d t p af g => by
 have : (ByteArray.toList ⟨a.toArray⟩ == ByteArray.toList ⟨b.toArray⟩) = decide (a = b) := by rw [ByteArray.toList_eq, ByteArray.toList_eq]; rw [Bool.eq_iff_iff]; simp
 simp only [execOp, hF.ev hx, hF.ev hy, Sem.run_bind, eqGuard_at_string, Sem.run_pure, Result.andThen_ok, binOp_string_eql, this]
theorem c0g {x y : Operand} {T U : TypeId} {a b : List UInt8} (hx : ev fr x = some (P8 a)) (hy : ev fr y = some (P8 b)) : Yp P n fr (.binOp .neq T x y U) (.bool (decide (a ≠ b))) := fun ac hF w' d t p af g => by
 have : (!(ByteArray.toList ⟨a.toArray⟩ == ByteArray.toList ⟨b.toArray⟩)) = decide (a ≠ b) := by rw [ByteArray.toList_eq, ByteArray.toList_eq]; rw [Bool.eq_iff_iff]; simp
 simp only [execOp, hF.ev hx, hF.ev hy, Sem.run_bind, eqGuard_at_string, Sem.run_pure, Result.andThen_ok, binOp_string_neq, this]
end
section
variable {P : Program} {n : Nat} {w0 : World} {L0 : List Nat} {fr : Fr} {H : List HP}
theorem b6G : Tryz.prog.underlying 9 = some .string := by kernel_rfl
theorem c1l {x y u : Operand} {T : TypeId} {s : List UInt8} {i j : Int} (hT : P.underlying T = some .string) (hx : ev fr x = some (P8 s)) (hy : ev fr y = some (.int .i64 i)) (hu : ev fr u = some (.int .i64 j)) (h0 : 0 ≤ i ∧ i ≤ j) (h1 : j ≤ (s.length : Int)) :
  Yp P n fr (.slice T x (some y) (some u) none) (P8 ((s.drop i.toNat).take (j.toNat - i.toNat))) := fun ac hF w' d t p af g => by
 have h2 := run_slice_string_if (P := P) (w := w') T ⟨s.toArray⟩ .i64 .i64 i j hT
 rw [if_pos ⟨by omega, by simpa [ByteArray.size] using h1⟩, if_pos h0] at h2
 have h3 : ByteArray.extract ⟨s.toArray⟩ i.toNat j.toNat = ⟨((s.drop i.toNat).take (j.toNat - i.toNat)).toArray⟩ := by
  apply ByteArray.ext
  simp [ByteArray.data_extract, List.extract_toArray, List.extract]
 rw [h3] at h2
 simp [execOp, hF.ev hx, hF.ev hy, hF.ev hu, Instr.sliceAt, run_underlying hT, P8, h2]
theorem Y.quo {x y : Operand} {T U : TypeId} {a b : Int} (hx : ev fr x = some (.int .i64 a)) (hy : ev fr y = some (.int .i64 b)) (ha : I64 a) (hb : 1 ≤ b) : Yp P n fr (.binOp .quo T x y U) (.int .i64 (a.tdiv b)) := fun ac hF w' d t p af g => by
 have h1 : IntKind.i64.wrap (a.tdiv b) = a.tdiv b := IntWalk.i64_quo' _ _ ⟨ha.1, ha.2, hb⟩
 have h2 : ¬ b = 0 := by omega
 simp [execOp, hF.ev hx, hF.ev hy, eqGuard_quo, binOp_quo, Op.intDiv, h1, h2]
theorem Y.rem {x y : Operand} {T U : TypeId} {a b : Int} (hx : ev fr x = some (.int .i64 a)) (hy : ev fr y = some (.int .i64 b)) (ha : I64 a) (hb : 1 ≤ b) : Yp P n fr (.binOp .rem T x y U) (.int .i64 (a.tmod b)) := fun ac hF w' d t p af g => by
 have h2 : ¬ b = 0 := by omega
 simp [execOp, hF.ev hx, hF.ev hy, eqGuard_rem, binOp_rem, Op.intDiv, h2]
theorem Y.neg {x : Operand} {T : TypeId} {a : Int} (hx : ev fr x = some (.int .i64 a)) (h : -9223372036854775807 ≤ a ∧ a ≤ 9223372036854775807) : Yp P n fr (.unOp .neg T x) (.int .i64 (-a)) := fun ac hF w' d t p af g => by
 have h1 : IntKind.i64.wrap (0 - a) = -a := by rw [Int.zero_sub]; exact IntWalk.i64_in _ ⟨by omega, by omega⟩
 simp only [execOp, hF.ev hx, Op.unary, Op.intArith, h1]; simp
theorem b6o {x : Operand} {S D : TypeId} {a : Int} (hS : P.underlying S = some (.int .i64)) (hD : P.underlying D = some (.int .u8)) (hx : ev fr x = some (.int .i64 a)) (h : 0 ≤ a ∧ a ≤ 255) : Yp P n fr (.convert S D x) (.int .u8 a) := fun ac hF w' d t p af g => by
 have h1 : IntKind.u8.wrap a = a := IntWalk.u8_in _ h
 simp [execOp, convert, hF.ev hx, run_underlying hS, run_underlying hD, Conv.intToInt, h1]
theorem b7T {x : Operand} {S D e : TypeId} {b c : Nat} {v : Int} (hS : P.underlying S = some (.slice e)) (he : P.underlying e = some (.int .u8)) (hD : P.underlying D = some .string) (hx : ev fr x = some (.slice (some ⟨b, 0, none⟩) 1 c))
  (hm : row e 1 (some ⟨b, 0, none⟩) 1 c [.int .u8 v] ∈ H) (hv : 0 ≤ v ∧ v ≤ 255) : Yd P n w0 L0 fr H (.convert S D x) (P8 [UInt8.ofNat v.toNat]) := fun a w ha hw w' hE d t p af g => by
 have h0 := (Has.row (w0 := w0) (L0 := L0) rfl hm) w hw
 have h1 : w'.cell? ⟨b, 0, none⟩ = some (.int .u8 v) := (h0.ext hE) 0 _ rfl
 have h2 := run_convert_bytes_back (P := P) w' S D e ⟨b, 0, none⟩ c [UInt8.ofNat v.toNat] hS he hD (fun j hj => by
  have : j = 0 := by simpa using hj
  subst this
  rw [show (⟨b, 0, none⟩ : Addr).add 0 = ⟨b, 0, none⟩ from rfl, h1]
  congr 2
  simp; omega)
 simp only [execOp, ha.ev hx]
 rw [show ([UInt8.ofNat v.toNat] : List UInt8).length = 1 from rfl] at h2
 simp [h2]
end
theorem b7x {P : Program} {f : FuncId} {args : List Value} {R : World → List Nat → Prop} {v : Value} (he : a4Q P f) (h : ∀ w L, R w L → Calls P f args.toArray w fun e w' => e = .returned v ∧ Below w.heap.size w w') :
  Tr P f args R [] (κ := Unit) (fun _ => True) (fun _ => v) (fun _ => []) := by
 refine ⟨he, fun w L hR hs hn => ?_⟩
 rw [Sep] at hs; subst hs
 refine (h w [] hR).mono ?_
 rintro e w' ⟨rfl, hb⟩
 exact ⟨(), trivial, rfl, [], rfl, List.nodup_nil, hb.os, hb.tape, hb.output, hb.size, fun b hb' _ => hb.block b hb', by simp⟩
theorem a9Y {a_elems : Option Addr} {m_elems c_elems : Nat} {elems : List (List UInt8)} {sep : List UInt8} (hn : elems.length ≤ 140737488355328) (hz : (Lib.join elems sep).length ≤ 140737488355328) :
  Tr Tryz.prog 153 [.slice a_elems m_elems c_elems, P8 sep] (fun w L => Ro w L eSs [.slice a_elems m_elems c_elems] elems) [] (κ := Unit) (fun _ => True) (fun _ => P8 (Lib.join elems sep)) (fun _ => []) := by
 refine b7x ⟨_, b4F.f156, rfl, by decide +kernel⟩ fun w L h => ?_
 obtain ⟨rfl, _⟩ := h.slen
 have hcap := h.cap
 by_cases h0 : elems.length = 0
 ·have := List.eq_nil_of_length_eq_zero h0
  subst this
  refine (Any.strings_Join_none b4F b7H a_elems c_elems ⟨sep.toArray⟩ w).mono ?_
  rintro e w' ⟨rfl, rfl⟩
  exact ⟨rfl, Below.refl _ _⟩
 ·have hw : Hp w L [] w := ⟨[], rfl, List.nodup_nil, ⟨rfl, rfl, rfl, Nat.le_refl _, fun _ _ _ => rfl, by simp⟩⟩
  obtain ⟨b, off, rfl, h2⟩ := h.elemS 0 (by omega)
  have hcell : ∀ (j : Nat) (hj : j < elems.length), w.cell? ⟨b, off + j, none⟩ = some (P8 elems[j]) := fun j hj => by
   obtain ⟨b', off', e, h3⟩ := h.elemS j hj
   simp only [Option.some.injEq, Addr.mk.injEq, and_true] at e
   obtain ⟨rfl, rfl⟩ := e
   have := h3 [] w hw 0 _ rfl
   simpa using this
  have hb : b < w.heap.size := by
   have h4 := hcell 0 (by omega)
   rcases Nat.lt_or_ge b w.heap.size with h5 | h5
   ·exact h5
   ·simp [World.cell?, Array.getElem?_eq_none h5] at h4
  have hj : (elems.map fun s => ByteArray.mk s.toArray).map (·.data.toList) = elems := by simp [List.map_map, Function.comp_def]
  have h6 := Any.strings_Join b4F b7H b off c_elems (elems.map fun s => ByteArray.mk s.toArray) ⟨sep.toArray⟩ w (fun j x hx => by
   rw [List.getElem?_map] at hx
   obtain ⟨s, hs, rfl⟩ := Option.map_eq_some_iff.1 hx
   obtain ⟨h7, h8⟩ := List.getElem?_eq_some_iff.1 hs
   rw [hcell j h7, h8]) hb (by simpa using hn) (by simpa using hcap.1) (by rw [hj]; exact hz)
  rw [hj, List.length_map] at h6
  exact h6
end Go.Proofs.YthapcdhdfaibkaaGreatDoor
end
