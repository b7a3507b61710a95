/- Where the library's functions lie in this translation: sort and compact at lists of numbers. Made by program. -/
import Derived.Test.YtnagfcajnbkdoaaChecked
import Derived.Shelf.Lays
import Derived.Shelf.Lays2
import Derived.KernelRfl
import Derived.Test.YtnagfcajnbkdoaaBd
import Derived.Shelf.Sort.Plain
import Derived.Shelf.Slices.CompactI
import Derived.Shelf.Slices.In.SortNone
namespace Go.Proofs.Ytnagfcajnbkdoaa
open Go.Shelf
def sortL_ren : Ren := ⟨fun | 189 => 190 | 125 => 224 | 257 => 223 | 128 => 245 | 129 => 246 | 294 => 236 | 295 => 237 | 296 => 238 | 297 => 239 | 298 => 240 | 299 => 241 | 216 => 242 | 300 => 243 | 301 => 244 | 328 => 249 | 329 => 250 | 330 => 251 | 331 => 252 | 332 => 253 | 215 => 228 | 343 => 255 | n => n, fun | 28 => 22 | 3 => 3 | 46 => 215 | 0 => 0 | 51 => 229 | 53 => 231 | 4 => 4 | 183 => 221 | 182 => 220 | 131 => 226 | 5 => 5 | 9 => 9 | 218 => 232 | 222 => 236 | 228 => 239 | 229 => 240 | n => n, fun n => n⟩
theorem sortL : Lays.n189 Try.prog sortL_ren := { mixed := by kernel_rfl, f125 := Eq.trans Try.func224 (congrArg some (by kernel_rfl)), f128 := Eq.trans Try.func245 (congrArg some (by kernel_rfl)), f129 := Eq.trans Try.func246 (congrArg some (by kernel_rfl)), f189 := Eq.trans Try.func190 (congrArg some (by kernel_rfl)), f215 := Eq.trans Try.func228 (congrArg some (by kernel_rfl)), f216 := Eq.trans Try.func242 (congrArg some (by kernel_rfl)), f257 := Eq.trans Try.func223 (congrArg some (by kernel_rfl)), f294 := Eq.trans Try.func236 (congrArg some (by kernel_rfl)), f295 := Eq.trans Try.func237 (congrArg some (by kernel_rfl)), f296 := Eq.trans Try.func238 (congrArg some (by kernel_rfl)), f297 := Eq.trans Try.func239 (congrArg some (by kernel_rfl)), f298 := Eq.trans Try.func240 (congrArg some (by kernel_rfl)), f299 := Eq.trans Try.func241 (congrArg some (by kernel_rfl)), f300 := Eq.trans Try.func243 (congrArg some (by kernel_rfl)), f301 := Eq.trans Try.func244 (congrArg some (by kernel_rfl)), f328 := Eq.trans Try.func249 (congrArg some (by kernel_rfl)), f329 := Eq.trans Try.func250 (congrArg some (by kernel_rfl)), f330 := Eq.trans Try.func251 (congrArg some (by kernel_rfl)), f331 := Eq.trans Try.func252 (congrArg some (by kernel_rfl)), f332 := Eq.trans Try.func253 (congrArg some (by kernel_rfl)), f343 := Eq.trans Try.func255 (congrArg some (by kernel_rfl)), t0 := Try.underlying0, a0 := Try.isAgg0, z0 := Try.sizeOf0, v0 := Try.zeroValue0, t3 := Try.underlying3, a3 := Try.isAgg3, z3 := Try.sizeOf3, v3 := Try.zeroValue3, t4 := Try.underlying4, a4 := Try.isAgg4, z4 := Try.sizeOf4, v4 := Try.zeroValue4, t5 := Try.underlying5, a5 := Try.isAgg5, z5 := Try.sizeOf5, v5 := Try.zeroValue5, t9 := Try.underlying9, a9 := Try.isAgg9, z9 := Try.sizeOf9, v9 := Try.zeroValue9, t28 := Try.underlying22, a28 := Try.isAgg22, z28 := Try.sizeOf22, v28 := Try.zeroValue22, t46 := Try.underlying215, a46 := Try.isAgg215, z46 := Try.sizeOf215, v46 := Try.zeroValue215, t51 := Try.underlying229, a51 := Try.isAgg229, z51 := Try.sizeOf229, v51 := Try.zeroValue229, t53 := Try.underlying231, a53 := Try.isAgg231, z53 := Try.sizeOf231, v53 := Try.zeroValue231, t131 := Try.underlying226, a131 := Try.isAgg226, z131 := Try.sizeOf226, v131 := Try.zeroValue226, t182 := Try.underlying220, a182 := Try.isAgg220, z182 := Try.sizeOf220, v182 := Try.zeroValue220, t183 := Try.underlying221, a183 := Try.isAgg221, z183 := Try.sizeOf221, v183 := Try.zeroValue221, t218 := Try.underlying232, a218 := Try.isAgg232, z218 := Try.sizeOf232, v218 := Try.zeroValue232, t222 := Try.underlying236, a222 := Try.isAgg236, z222 := Try.sizeOf236, v222 := Try.zeroValue236, t228 := Try.underlying239, a228 := Try.isAgg239, z228 := Try.sizeOf239, v228 := Try.zeroValue239, t229 := Try.underlying240, a229 := Try.isAgg240, z229 := Try.sizeOf240, v229 := Try.zeroValue240 }
def compL_ren : Ren := ⟨fun | 20 => 191 | n => n, fun | 22 => 22 | 3 => 3 | 4 => 4 | 0 => 0 | n => n, fun n => n⟩
theorem compL : Lays2.n20 Try.prog compL_ren := { mixed := by kernel_rfl, f20 := Eq.trans Try.func191 (congrArg some (by kernel_rfl)), t0 := Try.underlying0, a0 := Try.isAgg0, z0 := Try.sizeOf0, v0 := Try.zeroValue0, t3 := Try.underlying3, a3 := Try.isAgg3, z3 := Try.sizeOf3, v3 := Try.zeroValue3, t4 := Try.underlying4, a4 := Try.isAgg4, z4 := Try.sizeOf4, v4 := Try.zeroValue4, t22 := Try.underlying22, a22 := Try.isAgg22, z22 := Try.sizeOf22, v22 := Try.zeroValue22, i3 := by kernel_rfl }
end Go.Proofs.Ytnagfcajnbkdoaa

namespace Go.Proofs.Ytnagfcajnbkdoaa
open Go.RowKit Go.Sort Go.Shelf
set_option linter.unusedVariables false
theorem holds_ints {w : World} {g : Nat} {xs : List Int} {cur : Array Value} (h : w.heap[g]? = some (.cells cur tI (0, 0))) (ht : cur.toList.take xs.length = ints xs) : Holds (Value.int .i64) w g 0 xs.toArray := by
  intro j hj
  have hj' : j < xs.length := by simpa using hj
  constructor
  · have : (cur.toList.take xs.length)[j]? = some (.int .i64 xs[j]) := by rw [ht]; simp [ints, hj']
    rw [List.getElem?_take, if_pos hj'] at this
    simp [World.cell?, h, hj']
    simpa using this
  · simp [World.frozen?, h]
theorem put_world {w : World} {g n : Nat} {cur : Array Value} {d : Array Int} {os : Array Obj} (h : w.heap[g]? = some (.cells cur tI (0, 0))) (hd : d.size ≤ cur.size) :
    ∃ cur' : Array Value, (grow (putRow (Value.int .i64) (Sort.ahead w n) g 0 d) os).heap[g]? = some (.cells cur' tI (0, 0)) ∧ cur'.size = cur.size ∧ cur'.toList.take d.size = ints d.toList ∧ ∀ L, Step w (g :: L) (grow (putRow (Value.int .i64) (Sort.ahead w n) g 0 d) os) (g :: L) := by
  have hlt : g < w.heap.size := (Array.getElem?_eq_some_iff.1 h).1
  refine ⟨putCells (Value.int .i64) 0 d cur, ?_, by simp [putCells], ?_, fun L => ⟨rfl, rfl, rfl, ?_, fun b hb hn => ?_, fun b hb => .inl hb⟩⟩
  · simp only [grow, putRow, mapBlock, Sort.ahead]
    rw [Array.getElem?_append_left (by simpa using hlt), Array.getElem?_modify, if_pos rfl, h]
    rfl
  · apply List.ext_getElem?
    intro j
    rw [List.getElem?_take]
    by_cases hj : j < d.size
    · rw [if_pos hj]
      have hj2 : j < cur.size := by omega
      simp [putCells, hj, hj2, ints]
    · rw [if_neg hj]
      simp [ints, hj]
  · simp only [grow, putRow, mapBlock, Array.size_append, Array.size_modify]
    have : (Sort.ahead w n).heap.size = w.heap.size := rfl
    omega
  · have hne : g ≠ b := fun e => hn (by simp [e])
    simp only [grow, putRow, mapBlock, Sort.ahead]
    rw [Array.getElem?_append_left (by simpa using hb), Array.getElem?_modify, if_neg hne]
theorem tr_sort {a_x : Option Addr} {m_x c_x : Nat} {x : List Int} (hz : x.length < 4611686018427387904) : Tr Try.prog 190 [.slice a_x m_x c_x] (fun w L => True) [ow eIs [.slice a_x m_x c_x] x] (κ := Unit) (fun k => True) (fun k => .tuple #[]) (fun k => [ow eIs [.slice a_x m_x c_x] (x.mergeSort fun x y => decide (x ≤ y))]) := by
  refine ⟨⟨_, sortL.f189, rfl, by decide +kernel⟩, fun w L _ hs hn => ?_⟩
  obtain ⟨L1, L2, rfl, ho, hL2⟩ := hs
  rw [Sep] at hL2; subst hL2
  obtain ⟨ccs, M1, M2, rfl, g1, g2, g3, g4⟩ := ow_sl ho
  obtain ⟨rfl, hi, rfl⟩ := Elems.ints.1 g3
  subst g1
  obtain ⟨hlen, ⟨rfl, h0, rfl⟩ | ⟨g, cur, rfl, hg, hmc, hcm, hcs, ht, rfl⟩⟩ := id g4
  · have hx : x = [] := List.eq_nil_of_length_eq_zero h0
    subst hx
    refine (Any.slices_Sort_int_none sortL a_x 0 w).mono ?_
    rintro e w' ⟨rfl, rfl⟩
    refine ⟨(), trivial, rfl, [], ⟨[], [], rfl, ⟨a_x, 0, 0, [], [], [], rfl, by simp, Nat.zero_le _, rfl, by simp [Elems], g4⟩, rfl⟩, by simp, Step.refl _ _⟩
  · have hm1 : x.length * Enc.int.k = x.length := Nat.mul_one _
    have hc1 : c_x * Enc.int.k = c_x := Nat.mul_one _
    rw [hm1] at ht
    have hblk := (Array.getElem?_eq_some_iff.1 hg).1
    refine (Any.slices_Sort_int sortL g 0 c_x x w (holds_ints hg ht) hblk hz).mono ?_
    rintro e w' ⟨rfl, n, os, rfl⟩
    have hperm := List.mergeSort_perm x fun x y => decide (x ≤ y)
    have hl : (x.mergeSort fun x y => decide (x ≤ y)).length = x.length := hperm.length_eq
    obtain ⟨cur', k1, k2, k3, k4⟩ := put_world (n := n) (d := (x.mergeSort fun x y => decide (x ≤ y)).toArray) (os := os) hg (by simp [hl]; rw [hc1] at hcs; omega)
    refine ⟨(), trivial, rfl, [g], ⟨[g], [], rfl, ⟨_, x.length, c_x, ints (x.mergeSort fun x y => decide (x ≤ y)), [g], [], rfl, hl.symm, g2, rfl, Elems.ints.2 ⟨rfl, fun y hy => hi y (hperm.mem_iff.1 hy), rfl⟩, ?_⟩, rfl⟩, by simp, k4 []⟩
    refine ⟨by simp [ints, hl]; exact hm1.symm, .inr ⟨g, cur', rfl, k1, hmc, hcm, by rw [k2, hcs], ?_, rfl⟩⟩
    rw [hm1, ← hl]
    simpa using k3
theorem tr_compact {a_s : Option Addr} {m_s c_s : Nat} {s : List Int} : Tr Try.prog 191 [.slice a_s m_s c_s] (fun w L => True) [ow eIs [.slice a_s m_s c_s] s] (κ := Option Addr × Nat × Nat) (fun k => True) (fun k => .slice k.1 k.2.1 k.2.2) (fun k => [ow eIs [.slice k.1 k.2.1 k.2.2] (Lib.compact s)]) := by
  refine ⟨⟨_, compL.f20, rfl, by decide +kernel⟩, fun w L _ hs hn => ?_⟩
  obtain ⟨L1, L2, rfl, ho, hL2⟩ := hs
  rw [Sep] at hL2; subst hL2
  obtain ⟨ccs, M1, M2, rfl, g1, g2, g3, g4⟩ := ow_sl ho
  obtain ⟨rfl, hi, rfl⟩ := Elems.ints.1 g3
  subst g1
  obtain ⟨hlen, ⟨rfl, h0, rfl⟩ | ⟨g, cur, rfl, hg, hmc, hcm, hcs, ht, rfl⟩⟩ := id g4
  · have hx : s = [] := List.eq_nil_of_length_eq_zero h0
    subst hx
    refine (Any.slices_Compact_int_empty compL a_s 0 w).mono ?_
    rintro e w' ⟨rfl, rfl⟩
    refine ⟨(a_s, 0, 0), trivial, rfl, [], ⟨[], [], rfl, ⟨a_s, 0, 0, [], [], [], rfl, rfl, Nat.zero_le _, rfl, ⟨rfl, rfl⟩, g4⟩, rfl⟩, by simp, Step.refl _ _⟩
  · have hm1 : s.length * Enc.int.k = s.length := Nat.mul_one _
    have hc1 : c_s * Enc.int.k = c_s := Nat.mul_one _
    rw [hm1] at ht
    have hblk := (Array.getElem?_eq_some_iff.1 hg).1
    have hcl : (Lib.compact s).length ≤ s.length := by
      have := List.length_filter_le (Lib.keeps s.toArray) (List.range s.length)
      simpa [Lib.compact, Lib.compactUpTo] using this
    have hcm' : ∀ y ∈ Lib.compact s, y ∈ s := by
      intro y hy
      simp only [Lib.compact, Lib.compactUpTo, List.mem_map, List.mem_filter, List.mem_range] at hy
      obtain ⟨i, ⟨hi, _⟩, rfl⟩ := hy
      simp [hi]
    refine (Any.slices_Compact_int compL g 0 c_s s w (holds_ints hg ht) g2 hmc).mono ?_
    rintro e w' ⟨rfl, n, rfl⟩
    obtain ⟨cur', k1, k2, k3, k4⟩ := put_world (n := n) (d := (Lib.compact s ++ List.replicate (s.length - (Lib.compact s).length) 0).toArray) (os := #[]) hg (by simp; rw [hc1] at hcs; omega)
    rw [grow_empty] at k1 k4
    refine ⟨(some ⟨g, 0, none⟩, (Lib.compact s).length, c_s), trivial, rfl, [g], ⟨[g], [], rfl, ⟨_, (Lib.compact s).length, c_s, ints (Lib.compact s), [g], [], rfl, rfl, Nat.le_trans hcl g2, rfl, Elems.ints.2 ⟨rfl, fun y hy => hi y (hcm' y hy), rfl⟩, ?_⟩, rfl⟩, by simp, k4 []⟩
    refine ⟨by simp [ints]; exact (Nat.mul_one _).symm, .inr ⟨g, cur', rfl, k1, Nat.le_trans hcl hmc, hcm, by rw [k2, hcs], ?_, rfl⟩⟩
    rw [show (Lib.compact s).length * Enc.int.k = (Lib.compact s).length from Nat.mul_one _]
    have k3' := congrArg (List.take (Lib.compact s).length) k3
    rw [List.take_take, Nat.min_eq_left (by simp)] at k3'
    rw [k3']
    simp [ints]
end Go.Proofs.Ytnagfcajnbkdoaa
