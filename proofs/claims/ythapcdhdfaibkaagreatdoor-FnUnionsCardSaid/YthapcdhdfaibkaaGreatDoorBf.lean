import Derived.Test.YthapcdhdfaibkaaGreatDoorChecked
import Derived.Shelf.Lays
import Derived.Shelf.Lays2
import Derived.KernelRfl
import Derived.Test.YthapcdhdfaibkaaGreatDoorBd
import Derived.Shelf.Sort.Plain
import Derived.Shelf.Slices.CompactI
import Derived.Shelf.Slices.In.SortNone
namespace Go.Proofs.YthapcdhdfaibkaaGreatDoor
open Go.Shelf
def b9d:Ren:=⟨fun|189=> 232 |125=> 312 |257=> 311 |128=> 363 |129=> 364 |294=> 354 |295=> 355 |296=> 356 |297=> 357 |298=> 358 |299=> 359 |216=> 360 |300=> 361 |301=> 362 |328=> 376 |329=> 377 |330=> 378 |331=> 379 |332=> 380 |215=> 337 |343=> 388 |n=>n,fun|28=> 24 |3=> 3 |46=> 292 |0=> 0 |51=> 325 |53=> 327 |4=> 4 |183=> 317 |182=> 316 |131=> 322 |5=> 5 |9=> 9 |218=> 333 |222=> 337 |228=> 345 |229=> 346 |n=>n,λn=>n⟩
theorem b7t:Lays.n189 Tryz.prog b9d:={ mixed:=by kernel_rfl,f125:=Eq.trans Tryz.func312 (congrArg some (by kernel_rfl)),f128:=Eq.trans Tryz.func363 (congrArg some (by kernel_rfl)),f129:=Eq.trans Tryz.func364 (congrArg some (by kernel_rfl)),f189:=Eq.trans Tryz.func232 (congrArg some (by kernel_rfl)),f215:=Eq.trans Tryz.func337 (congrArg some (by kernel_rfl)),f216:=Eq.trans Tryz.func360 (congrArg some (by kernel_rfl)),f257:=Eq.trans Tryz.func311 (congrArg some (by kernel_rfl)),f294:=Eq.trans Tryz.func354 (congrArg some (by kernel_rfl)),f295:=Eq.trans Tryz.func355 (congrArg some (by kernel_rfl)),f296:=Eq.trans Tryz.func356 (congrArg some (by kernel_rfl)),f297:=Eq.trans Tryz.func357 (congrArg some (by kernel_rfl)),f298:=Eq.trans Tryz.func358 (congrArg some (by kernel_rfl)),f299:=Eq.trans Tryz.func359 (congrArg some (by kernel_rfl)),f300:=Eq.trans Tryz.func361 (congrArg some (by kernel_rfl)),f301:=Eq.trans Tryz.func362 (congrArg some (by kernel_rfl)),f328:=Eq.trans Tryz.func376 (congrArg some (by kernel_rfl)),f329:=Eq.trans Tryz.func377 (congrArg some (by kernel_rfl)),f330:=Eq.trans Tryz.func378 (congrArg some (by kernel_rfl)),f331:=Eq.trans Tryz.func379 (congrArg some (by kernel_rfl)),f332:=Eq.trans Tryz.func380 (congrArg some (by kernel_rfl)),f343:=Eq.trans Tryz.func388 (congrArg some (by kernel_rfl)),t0:= Tryz.underlying0,a0:= Tryz.isAgg0,z0:= Tryz.sizeOf0,v0:= Tryz.zeroValue0,t3:= Tryz.underlying3,a3:= Tryz.isAgg3,z3:= Tryz.sizeOf3,v3:= Tryz.zeroValue3,t4:= Tryz.underlying4,a4:= Tryz.isAgg4,z4:= Tryz.sizeOf4,v4:= Tryz.zeroValue4,t5:= Tryz.underlying5,a5:= Tryz.isAgg5,z5:= Tryz.sizeOf5,v5:= Tryz.zeroValue5,t9:= Tryz.underlying9,a9:= Tryz.isAgg9,z9:= Tryz.sizeOf9,v9:= Tryz.zeroValue9,t28:= Tryz.underlying24,a28:= Tryz.isAgg24,z28:= Tryz.sizeOf24,v28:= Tryz.zeroValue24,t46:= Tryz.underlying292,a46:= Tryz.isAgg292,z46:= Tryz.sizeOf292,v46:= Tryz.zeroValue292,t51:= Tryz.underlying325,a51:= Tryz.isAgg325,z51:= Tryz.sizeOf325,v51:= Tryz.zeroValue325,t53:= Tryz.underlying327,a53:= Tryz.isAgg327,z53:= Tryz.sizeOf327,v53:= Tryz.zeroValue327,t131:= Tryz.underlying322,a131:= Tryz.isAgg322,z131:= Tryz.sizeOf322,v131:= Tryz.zeroValue322,t182:= Tryz.underlying316,a182:= Tryz.isAgg316,z182:= Tryz.sizeOf316,v182:= Tryz.zeroValue316,t183:= Tryz.underlying317,a183:= Tryz.isAgg317,z183:= Tryz.sizeOf317,v183:= Tryz.zeroValue317,t218:= Tryz.underlying333,a218:= Tryz.isAgg333,z218:= Tryz.sizeOf333,v218:= Tryz.zeroValue333,t222:= Tryz.underlying337,a222:= Tryz.isAgg337,z222:= Tryz.sizeOf337,v222:= Tryz.zeroValue337,t228:= Tryz.underlying345,a228:= Tryz.isAgg345,z228:= Tryz.sizeOf345,v228:= Tryz.zeroValue345,t229:= Tryz.underlying346,a229:= Tryz.isAgg346,z229:= Tryz.sizeOf346,v229:= Tryz.zeroValue346 }
def b7V:Ren:=⟨fun|20=> 233 |n=>n,fun|22=> 24 |3=> 3 |4=> 4 |0=> 0 |n=>n,λn=>n⟩
theorem b7f:Lays2.n20 Tryz.prog b7V:={ mixed:=by kernel_rfl,f20:=Eq.trans Tryz.func233 (congrArg some (by kernel_rfl)),t0:= Tryz.underlying0,a0:= Tryz.isAgg0,z0:= Tryz.sizeOf0,v0:= Tryz.zeroValue0,t3:= Tryz.underlying3,a3:= Tryz.isAgg3,z3:= Tryz.sizeOf3,v3:= Tryz.zeroValue3,t4:= Tryz.underlying4,a4:= Tryz.isAgg4,z4:= Tryz.sizeOf4,v4:= Tryz.zeroValue4,t22:= Tryz.underlying24,a22:= Tryz.isAgg24,z22:= Tryz.sizeOf24,v22:= Tryz.zeroValue24,i3:=by kernel_rfl }
end Go.Proofs.YthapcdhdfaibkaaGreatDoor

namespace Go.Proofs.YthapcdhdfaibkaaGreatDoor
open Go.RowKit Go.Sort Go.Shelf
set_option linter.all false
theorem b0C {w:World} {g:Nat} {xs:List Int} {cur:Array Value} (h:w.heap[g]? =some (.cells cur tI (0,0))) (ht:cur.toList.take xs.length=ints xs):Holds (Value.int .i64) w g 0 xs.toArray:=by
 intro j hj
 have hj':j<xs.length:=by simpa using hj
 constructor
 ·have:(cur.toList.take xs.length)[j]? =some (.int .i64 xs[j]):=by rw[ht];simp[ints,hj']
  rw[List.getElem?_take,if_pos hj'] at this
  simp[World.cell?,h,hj']
  simpa using this
 ·simp[World.frozen?,h]
theorem b2T {w:World} {g n:Nat} {cur:Array Value} {d:Array Int} {os:Array Obj} (h:w.heap[g]? =some (.cells cur tI (0,0))) (hd:d.size≤cur.size):
  ∃cur':Array Value,(grow (putRow (Value.int .i64) (Sort.ahead w n) g 0 d) os).heap[g]? =some (.cells cur' tI (0,0))∧cur'.size=cur.size∧cur'.toList.take d.size=ints d.toList∧∀L,Step w (g::L) (grow (putRow (Value.int .i64) (Sort.ahead w n) g 0 d) os) (g::L):=by
 have hlt:g<w.heap.size:=(Array.getElem?_eq_some_iff.1 h).1
 refine ⟨putCells (Value.int .i64) 0 d cur,?_,by simp[putCells],?_,λL=>⟨Z,Z,Z,?_,λb hb hn=>?_,λb hb=>.inl hb⟩⟩
 ·simp only[grow,putRow,mapBlock,Sort.ahead]
  rw[Array.getElem?_append_left (by simpa using hlt),Array.getElem?_modify,if_pos Z,h]
  rfl
 ·apply List.ext_getElem?
  intro j
  rw[List.getElem?_take]
  by_cases hj:j<d.size
  ·rw[if_pos hj]
   have hj2:j<cur.size:=by omega
   simp[putCells,hj,hj2,ints]
  ·rw[if_neg hj]
   simp[ints,hj]
 ·simp only[grow,putRow,mapBlock,Array.size_append,Array.size_modify]
  have:(Sort.ahead w n).heap.size=w.heap.size:=rfl
  omega
 ·have hne:g≠b:=λe=>hn (by simp[e])
  simp only[grow,putRow,mapBlock,Sort.ahead]
  rw[Array.getElem?_append_left (by simpa using hb),Array.getElem?_modify,if_neg hne]
theorem c1Z {a_x:Option Addr} {m_x c_x:Nat} {x:List Int} (hz:x.length<4611686018427387904):Tr Tryz.prog 232 [.slice a_x m_x c_x] (λw L=>True) [ow eIs [.slice a_x m_x c_x] x] (κ:=Unit) (λk=>True) (λk=>.tuple #[]) (λk=>[ow eIs [.slice a_x m_x c_x] (x.mergeSort λx y=>decide (x≤y))]):=by
 refine ⟨⟨_,b7t.f189,Z,by decide+kernel⟩,λw L _ hs hn=>?_⟩
 obtain ⟨L1,L2,rfl,ho,hL2⟩:=hs
 rw[Sep] at hL2;subst hL2
 obtain ⟨ccs,M1,M2,rfl,g1,g2,g3,g4⟩:=a0V ho
 obtain ⟨rfl,hi,rfl⟩:=y8.ints.1 g3
 subst g1
 obtain ⟨hlen,⟨rfl,h0,rfl⟩|⟨g,cur,rfl,hg,hmc,hcm,hcs,ht,rfl⟩⟩:=id g4
 ·have hx:x=[]:=List.eq_nil_of_length_eq_zero h0
  subst hx
  refine (Any.slices_Sort_int_none b7t a_x 0 w).mono ?_
  rintro e w' ⟨rfl,rfl⟩
  refine ⟨(),trivial,Z,[],⟨[],[],Z,⟨a_x,0,0,[],[],[],Z,by simp,Nat.zero_le _,Z,by simp[y8],g4⟩,Z⟩,by simp,Step.refl _ _⟩
 ·have hm1:x.length*Enc.int.k=x.length:=Nat.mul_one _
  have hc1:c_x*Enc.int.k=c_x:=Nat.mul_one _
  rw[hm1] at ht
  have hblk:=(Array.getElem?_eq_some_iff.1 hg).1
  refine (Any.slices_Sort_int b7t g 0 c_x x w (b0C hg ht) hblk hz).mono ?_
  rintro e w' ⟨rfl,n,os,rfl⟩
  have hperm:=List.mergeSort_perm x λx y=>decide (x≤y)
  have hl:(x.mergeSort λx y=>decide (x≤y)).length=x.length:=hperm.length_eq
  obtain ⟨cur',k1,k2,k3,k4⟩:=b2T (n:=n) (d:=(x.mergeSort λx y=>decide (x≤y)).toArray) (os:=os) hg (by simp[hl];rw[hc1] at hcs;omega)
  refine ⟨(),trivial,Z,[g],⟨[g],[],Z,⟨_,x.length,c_x,ints (x.mergeSort λx y=>decide (x≤y)),[g],[],Z,hl.symm,g2,Z,y8.ints.2 ⟨Z,λy hy=>hi y (hperm.mem_iff.1 hy),Z⟩,?_⟩,Z⟩,by simp,k4 []⟩
  refine ⟨by simp[ints,hl];exact hm1.symm,.inr ⟨g,cur',Z,k1,hmc,hcm,by rw[k2,hcs],?_,Z⟩⟩
  rw[hm1, ←hl]
  simpa using k3
theorem b7v {a_s:Option Addr} {m_s c_s:Nat} {s:List Int}:Tr Tryz.prog 233 [.slice a_s m_s c_s] (λw L=>True) [ow eIs [.slice a_s m_s c_s] s] (κ:=Option Addr×Nat×Nat) (λk=>True) (λk=>.slice k.1 k.2.1 k.2.2) (λk=>[ow eIs [.slice k.1 k.2.1 k.2.2] (Lib.compact s)]):=by
 refine ⟨⟨_,b7f.f20,Z,by decide+kernel⟩,λw L _ hs hn=>?_⟩
 obtain ⟨L1,L2,rfl,ho,hL2⟩:=hs
 rw[Sep] at hL2;subst hL2
 obtain ⟨ccs,M1,M2,rfl,g1,g2,g3,g4⟩:=a0V ho
 obtain ⟨rfl,hi,rfl⟩:=y8.ints.1 g3
 subst g1
 obtain ⟨hlen,⟨rfl,h0,rfl⟩|⟨g,cur,rfl,hg,hmc,hcm,hcs,ht,rfl⟩⟩:=id g4
 ·have hx:s=[]:=List.eq_nil_of_length_eq_zero h0
  subst hx
  refine (Any.slices_Compact_int_empty b7f a_s 0 w).mono ?_
  rintro e w' ⟨rfl,rfl⟩
  refine ⟨(a_s,0,0),trivial,Z,[],⟨[],[],Z,⟨a_s,0,0,[],[],[],Z,Z,Nat.zero_le _,Z,⟨Z,Z⟩,g4⟩,Z⟩,by simp,Step.refl _ _⟩
 ·have hm1:s.length*Enc.int.k=s.length:=Nat.mul_one _
  have hc1:c_s*Enc.int.k=c_s:=Nat.mul_one _
  rw[hm1] at ht
  have hblk:=(Array.getElem?_eq_some_iff.1 hg).1
  have hcl:(Lib.compact s).length≤s.length:=by
   have:=List.length_filter_le (Lib.keeps s.toArray) (List.range s.length)
   simpa[Lib.compact,Lib.compactUpTo] using this
  have hcm':∀y∈Lib.compact s,y∈s:=by
   intro y hy
   simp only[Lib.compact,Lib.compactUpTo,List.mem_map,List.mem_filter,List.mem_range] at hy
   obtain ⟨i,⟨hi,_⟩,rfl⟩:=hy
   simp[hi]
  refine (Any.slices_Compact_int b7f g 0 c_s s w (b0C hg ht) g2 hmc).mono ?_
  rintro e w' ⟨rfl,n,rfl⟩
  obtain ⟨cur',k1,k2,k3,k4⟩:=b2T (n:=n) (d:=(Lib.compact s++List.replicate (s.length-(Lib.compact s).length) 0).toArray) (os:= #[]) hg (by simp;rw[hc1] at hcs;omega)
  rw[grow_empty] at k1 k4
  refine ⟨(some ⟨g,0,none⟩,(Lib.compact s).length,c_s),trivial,Z,[g],⟨[g],[],Z,⟨_,(Lib.compact s).length,c_s,ints (Lib.compact s),[g],[],Z,Z,Nat.le_trans hcl g2,Z,y8.ints.2 ⟨Z,λy hy=>hi y (hcm' y hy),Z⟩,?_⟩,Z⟩,by simp,k4 []⟩
  refine ⟨by simp[ints];exact (Nat.mul_one _).symm,.inr ⟨g,cur',Z,k1,Nat.le_trans hcl hmc,hcm,by rw[k2,hcs],?_,Z⟩⟩
  rw[show (Lib.compact s).length*Enc.int.k=(Lib.compact s).length from Nat.mul_one _]
  have k3':=congrArg (List.take (Lib.compact s).length) k3
  rw[List.take_take,Nat.min_eq_left (by simp)] at k3'
  rw[k3']
  simp[ints]
end Go.Proofs.YthapcdhdfaibkaaGreatDoor
