import Derived.Test.YtlfhopooaejpfaaGreatChecked
import Derived.Shelf.Lays
import Derived.Shelf.Lays2
import Derived.KernelRfl
import Derived.Test.YtlfhopooaejpfaaGreatBd
import Derived.Shelf.Sort.Plain
import Derived.Shelf.Slices.CompactI
import Derived.Shelf.Slices.In.SortNone
namespace Go.Proofs.YtlfhopooaejpfaaGreat
open Go.Shelf
def b5T : Ren := ⟨fun | 189 => 216 | 125 => 247 | 257 => 246 | 128 => 266 | 129 => 267 | 294 => 257 | 295 => 258 | 296 => 259 | 297 => 260 | 298 => 261 | 299 => 262 | 216 => 263 | 300 => 264 | 301 => 265 | 328 => 270 | 329 => 271 | 330 => 272 | 331 => 273 | 332 => 274 | 215 => 225 | 343 => 276 | n => n, fun | 28 => 24 | 3 => 3 | 46 => 186 | 0 => 0 | 51 => 240 | 53 => 242 | 4 => 4 | 183 => 232 | 182 => 231 | 131 => 237 | 5 => 5 | 9 => 9 | 218 => 244 | 222 => 248 | 228 => 251 | 229 => 252 | n => n, fun n => n⟩
theorem b5r : Lays.n189 Tryz.prog b5T := { mixed := by kernel_rfl, f125 := Eq.trans Tryz.func247 (congrArg some (by kernel_rfl)), f128 := Eq.trans Tryz.func266 (congrArg some (by kernel_rfl)), f129 := Eq.trans Tryz.func267 (congrArg some (by kernel_rfl)), f189 := Eq.trans Tryz.func216 (congrArg some (by kernel_rfl)), f215 := Eq.trans Tryz.func225 (congrArg some (by kernel_rfl)), f216 := Eq.trans Tryz.func263 (congrArg some (by kernel_rfl)), f257 := Eq.trans Tryz.func246 (congrArg some (by kernel_rfl)), f294 := Eq.trans Tryz.func257 (congrArg some (by kernel_rfl)), f295 := Eq.trans Tryz.func258 (congrArg some (by kernel_rfl)), f296 := Eq.trans Tryz.func259 (congrArg some (by kernel_rfl)), f297 := Eq.trans Tryz.func260 (congrArg some (by kernel_rfl)), f298 := Eq.trans Tryz.func261 (congrArg some (by kernel_rfl)), f299 := Eq.trans Tryz.func262 (congrArg some (by kernel_rfl)), f300 := Eq.trans Tryz.func264 (congrArg some (by kernel_rfl)), f301 := Eq.trans Tryz.func265 (congrArg some (by kernel_rfl)), f328 := Eq.trans Tryz.func270 (congrArg some (by kernel_rfl)), f329 := Eq.trans Tryz.func271 (congrArg some (by kernel_rfl)), f330 := Eq.trans Tryz.func272 (congrArg some (by kernel_rfl)), f331 := Eq.trans Tryz.func273 (congrArg some (by kernel_rfl)), f332 := Eq.trans Tryz.func274 (congrArg some (by kernel_rfl)), f343 := Eq.trans Tryz.func276 (congrArg some (by kernel_rfl)), t0 := Tryz.underlying0, a0 := Tryz.isAgg0, z0 := Tryz.sizeOf0, v0 := Tryz.zeroValue0, t3 := Tryz.underlying3, a3 := Tryz.isAgg3, z3 := Tryz.sizeOf3, v3 := Tryz.zeroValue3, t4 := Tryz.underlying4, a4 := Tryz.isAgg4, z4 := Tryz.sizeOf4, v4 := Tryz.zeroValue4, t5 := Tryz.underlying5, a5 := Tryz.isAgg5, z5 := Tryz.sizeOf5, v5 := Tryz.zeroValue5, t9 := Tryz.underlying9, a9 := Tryz.isAgg9, z9 := Tryz.sizeOf9, v9 := Tryz.zeroValue9, t28 := Tryz.underlying24, a28 := Tryz.isAgg24, z28 := Tryz.sizeOf24, v28 := Tryz.zeroValue24, t46 := Tryz.underlying186, a46 := Tryz.isAgg186, z46 := Tryz.sizeOf186, v46 := Tryz.zeroValue186, t51 := Tryz.underlying240, a51 := Tryz.isAgg240, z51 := Tryz.sizeOf240, v51 := Tryz.zeroValue240, t53 := Tryz.underlying242, a53 := Tryz.isAgg242, z53 := Tryz.sizeOf242, v53 := Tryz.zeroValue242, t131 := Tryz.underlying237, a131 := Tryz.isAgg237, z131 := Tryz.sizeOf237, v131 := Tryz.zeroValue237, t182 := Tryz.underlying231, a182 := Tryz.isAgg231, z182 := Tryz.sizeOf231, v182 := Tryz.zeroValue231, t183 := Tryz.underlying232, a183 := Tryz.isAgg232, z183 := Tryz.sizeOf232, v183 := Tryz.zeroValue232, t218 := Tryz.underlying244, a218 := Tryz.isAgg244, z218 := Tryz.sizeOf244, v218 := Tryz.zeroValue244, t222 := Tryz.underlying248, a222 := Tryz.isAgg248, z222 := Tryz.sizeOf248, v222 := Tryz.zeroValue248, t228 := Tryz.underlying251, a228 := Tryz.isAgg251, z228 := Tryz.sizeOf251, v228 := Tryz.zeroValue251, t229 := Tryz.underlying252, a229 := Tryz.isAgg252, z229 := Tryz.sizeOf252, v229 := Tryz.zeroValue252 }
def b6N : Ren := ⟨fun | 20 => 217 | n => n, fun | 22 => 24 | 3 => 3 | 4 => 4 | 0 => 0 | n => n, fun n => n⟩
theorem b5t : Lays2.n20 Tryz.prog b6N := { mixed := by kernel_rfl, f20 := Eq.trans Tryz.func217 (congrArg some (by kernel_rfl)), t0 := Tryz.underlying0, a0 := Tryz.isAgg0, z0 := Tryz.sizeOf0, v0 := Tryz.zeroValue0, t3 := Tryz.underlying3, a3 := Tryz.isAgg3, z3 := Tryz.sizeOf3, v3 := Tryz.zeroValue3, t4 := Tryz.underlying4, a4 := Tryz.isAgg4, z4 := Tryz.sizeOf4, v4 := Tryz.zeroValue4, t22 := Tryz.underlying24, a22 := Tryz.isAgg24, z22 := Tryz.sizeOf24, v22 := Tryz.zeroValue24, i3 := by kernel_rfl }
end Go.Proofs.YtlfhopooaejpfaaGreat

namespace Go.Proofs.YtlfhopooaejpfaaGreat
open Go.RowKit Go.Sort Go.Shelf
set_option linter.unusedVariables false
theorem a9C {w : World} {g : Nat} {xs : List Int} {cur : Array Value} (h : w.heap[g]? = some (.cells cur tI (0, 0))) (ht : cur.toList.take xs.length = ints xs) : Holds (Value.int .i64) w g 0 xs.toArray := by
 intro j hj
 have hj' : j < xs.length := by simpa using hj
 constructor
 ·have : (cur.toList.take xs.length)[j]? = some (.int .i64 xs[j]) := by rw [ht]; simp [ints, hj']
  rw [List.getElem?_take, if_pos hj'] at this
  simp [World.cell?, h, hj']
  simpa using this
 ·simp [World.frozen?, h]
theorem b0S {w : World} {g n : Nat} {cur : Array Value} {d : Array Int} {os : Array Obj} (h : w.heap[g]? = some (.cells cur tI (0, 0))) (hd : d.size ≤ cur.size) :
  ∃ cur' : Array Value, (grow (putRow (Value.int .i64) (Sort.ahead w n) g 0 d) os).heap[g]? = some (.cells cur' tI (0, 0)) ∧ cur'.size = cur.size ∧ cur'.toList.take d.size = ints d.toList ∧ ∀ L, Step w (g :: L) (grow (putRow (Value.int .i64) (Sort.ahead w n) g 0 d) os) (g :: L) := by
 have hlt : g < w.heap.size := (Array.getElem?_eq_some_iff.1 h).1
 refine ⟨putCells (Value.int .i64) 0 d cur, ?_, by simp [putCells], ?_, fun L => ⟨rfl, rfl, rfl, ?_, fun b hb hn => ?_, fun b hb => .inl hb⟩⟩
 ·simp only [grow, putRow, mapBlock, Sort.ahead]
  rw [Array.getElem?_append_left (by simpa using hlt), Array.getElem?_modify, if_pos rfl, h]
  rfl
 ·apply List.ext_getElem?
  intro j
  rw [List.getElem?_take]
  by_cases hj : j < d.size
  ·rw [if_pos hj]
   have hj2 : j < cur.size := by omega
   simp [putCells, hj, hj2, ints]
  ·rw [if_neg hj]
   simp [ints, hj]
 ·simp only [grow, putRow, mapBlock, Array.size_append, Array.size_modify]
  have : (Sort.ahead w n).heap.size = w.heap.size := rfl
  omega
 ·have hne : g ≠ b := fun e => hn (by simp [e])
  simp only [grow, putRow, mapBlock, Sort.ahead]
  rw [Array.getElem?_append_left (by simpa using hb), Array.getElem?_modify, if_neg hne]
theorem b4O {a_x : Option Addr} {m_x c_x : Nat} {x : List Int} (hz : x.length < 4611686018427387904) : Tr Tryz.prog 216 [.slice a_x m_x c_x] (fun w L => True) [ow eIs [.slice a_x m_x c_x] x] (κ := Unit) (fun k => True) (fun k => .tuple #[]) (fun k => [ow eIs [.slice a_x m_x c_x] (x.mergeSort fun x y => decide (x ≤ y))]) := by
 refine ⟨⟨_, b5r.f189, rfl, by decide +kernel⟩, fun w L _ hs hn => ?_⟩
 obtain ⟨L1, L2, rfl, ho, hL2⟩ := hs
 rw [Sep] at hL2; subst hL2
 obtain ⟨ccs, M1, M2, rfl, g1, g2, g3, g4⟩ := a1Q ho
 obtain ⟨rfl, hi, rfl⟩ := D6.ints.1 g3
 subst g1
 obtain ⟨hlen, ⟨rfl, h0, rfl⟩ | ⟨g, cur, rfl, hg, hmc, hcm, hcs, ht, rfl⟩⟩ := id g4
 ·have hx : x = [] := List.eq_nil_of_length_eq_zero h0
  subst hx
  refine (Any.slices_Sort_int_none b5r a_x 0 w).mono ?_
  rintro e w' ⟨rfl, rfl⟩
  refine ⟨(), trivial, rfl, [], ⟨[], [], rfl, ⟨a_x, 0, 0, [], [], [], rfl, by simp, Nat.zero_le _, rfl, by simp [D6], g4⟩, rfl⟩, by simp, Step.refl _ _⟩
 ·have hm1 : x.length * Enc.int.k = x.length := Nat.mul_one _
  have hc1 : c_x * Enc.int.k = c_x := Nat.mul_one _
  rw [hm1] at ht
  have hblk := (Array.getElem?_eq_some_iff.1 hg).1
  refine (Any.slices_Sort_int b5r g 0 c_x x w (a9C hg ht) hblk hz).mono ?_
  rintro e w' ⟨rfl, n, os, rfl⟩
  have hperm := List.mergeSort_perm x fun x y => decide (x ≤ y)
  have hl : (x.mergeSort fun x y => decide (x ≤ y)).length = x.length := hperm.length_eq
  obtain ⟨cur', k1, k2, k3, k4⟩ := b0S (n := n) (d := (x.mergeSort fun x y => decide (x ≤ y)).toArray) (os := os) hg (by simp [hl]; rw [hc1] at hcs; omega)
  refine ⟨(), trivial, rfl, [g], ⟨[g], [], rfl, ⟨_, x.length, c_x, ints (x.mergeSort fun x y => decide (x ≤ y)), [g], [], rfl, hl.symm, g2, rfl, D6.ints.2 ⟨rfl, fun y hy => hi y (hperm.mem_iff.1 hy), rfl⟩, ?_⟩, rfl⟩, by simp, k4 []⟩
  refine ⟨by simp [ints, hl]; exact hm1.symm, .inr ⟨g, cur', rfl, k1, hmc, hcm, by rw [k2, hcs], ?_, rfl⟩⟩
  rw [hm1, ← hl]
  simpa using k3
theorem a9D {a_s : Option Addr} {m_s c_s : Nat} {s : List Int} : Tr Tryz.prog 217 [.slice a_s m_s c_s] (fun w L => True) [ow eIs [.slice a_s m_s c_s] s] (κ := Option Addr × Nat × Nat) (fun k => True) (fun k => .slice k.1 k.2.1 k.2.2) (fun k => [ow eIs [.slice k.1 k.2.1 k.2.2] (Lib.compact s)]) := by
 refine ⟨⟨_, b5t.f20, rfl, by decide +kernel⟩, fun w L _ hs hn => ?_⟩
 obtain ⟨L1, L2, rfl, ho, hL2⟩ := hs
 rw [Sep] at hL2; subst hL2
 obtain ⟨ccs, M1, M2, rfl, g1, g2, g3, g4⟩ := a1Q ho
 obtain ⟨rfl, hi, rfl⟩ := D6.ints.1 g3
 subst g1
 obtain ⟨hlen, ⟨rfl, h0, rfl⟩ | ⟨g, cur, rfl, hg, hmc, hcm, hcs, ht, rfl⟩⟩ := id g4
 ·have hx : s = [] := List.eq_nil_of_length_eq_zero h0
  subst hx
  refine (Any.slices_Compact_int_empty b5t a_s 0 w).mono ?_
  rintro e w' ⟨rfl, rfl⟩
  refine ⟨(a_s, 0, 0), trivial, rfl, [], ⟨[], [], rfl, ⟨a_s, 0, 0, [], [], [], rfl, rfl, Nat.zero_le _, rfl, ⟨rfl, rfl⟩, g4⟩, rfl⟩, by simp, Step.refl _ _⟩
 ·have hm1 : s.length * Enc.int.k = s.length := Nat.mul_one _
  have hc1 : c_s * Enc.int.k = c_s := Nat.mul_one _
  rw [hm1] at ht
  have hblk := (Array.getElem?_eq_some_iff.1 hg).1
  have hcl : (Lib.compact s).length ≤ s.length := by
   have := List.length_filter_le (Lib.keeps s.toArray) (List.range s.length)
   simpa [Lib.compact, Lib.compactUpTo] using this
  have hcm' : ∀ y ∈ Lib.compact s, y ∈ s := by
   intro y hy
   simp only [Lib.compact, Lib.compactUpTo, List.mem_map, List.mem_filter, List.mem_range] at hy
   obtain ⟨i, ⟨hi, _⟩, rfl⟩ := hy
   simp [hi]
  refine (Any.slices_Compact_int b5t g 0 c_s s w (a9C hg ht) g2 hmc).mono ?_
  rintro e w' ⟨rfl, n, rfl⟩
  obtain ⟨cur', k1, k2, k3, k4⟩ := b0S (n := n) (d := (Lib.compact s ++ List.replicate (s.length - (Lib.compact s).length) 0).toArray) (os := #[]) hg (by simp; rw [hc1] at hcs; omega)
  rw [grow_empty] at k1 k4
  refine ⟨(some ⟨g, 0, none⟩, (Lib.compact s).length, c_s), trivial, rfl, [g], ⟨[g], [], rfl, ⟨_, (Lib.compact s).length, c_s, ints (Lib.compact s), [g], [], rfl, rfl, Nat.le_trans hcl g2, rfl, D6.ints.2 ⟨rfl, fun y hy => hi y (hcm' y hy), rfl⟩, ?_⟩, rfl⟩, by simp, k4 []⟩
  refine ⟨by simp [ints]; exact (Nat.mul_one _).symm, .inr ⟨g, cur', rfl, k1, Nat.le_trans hcl hmc, hcm, by rw [k2, hcs], ?_, rfl⟩⟩
  rw [show (Lib.compact s).length * Enc.int.k = (Lib.compact s).length from Nat.mul_one _]
  have k3' := congrArg (List.take (Lib.compact s).length) k3
  rw [List.take_take, Nat.min_eq_left (by simp)] at k3'
  rw [k3']
  simp [ints]
end Go.Proofs.YtlfhopooaejpfaaGreat
