import Derived.Test.YthapcdhdfaibkaaGreatDoorBb
import Derived.ProofKit
import Derived.Deep.Slices
import Derived.Test.YthapcdhdfaibkaaGreatDoorCards
import Derived.Test.YthapcdhdfaibkaaGreatDoorTie
import Derived.Deep.DeepHandedRow
import Derived.Lib.LaidTab
section
namespace Go.Proofs.YthapcdhdfaibkaaGreatDoor
open Go.RowKit Go.ChangeShapes Go.WideShapes Go.ChangeAt
set_option linter.all false
def a0U {α:Type} (P:Program) (E:Enc α) (t:TypeId):Prop:=
 ∀{H:Type} {enc:TypeId×Value→H} {w:World} {base:Nat} {spare:Nat→Bool} {held:Bool} {fuel:Nat} {cs:List Value} {x:DataW H×List MemPlace},DataW.trod enc P w base spare held fuel t cs=some x→∃a L,E.rep w cs a L false
section
variable {P:Program}
theorem a0U.int {t:TypeId} (ht:P.underlying t=some (.int .i64)):a0U P Enc.int t:=λh=>by
 obtain ⟨n,rfl,_,hw⟩:=DataW.trod_int ht h
 have: -9223372036854775808≤n∧n≤9223372036854775807:=by simpa[Lit.wf,IntKind.min,IntKind.max,IntKind.signed,IntKind.bits] using hw
 exact ⟨n,[],Z,this,Z⟩
theorem a0U.bool {t:TypeId} (ht:P.underlying t=some .bool):a0U P Enc.bool t:=λh=>by
 obtain ⟨b,rfl,_⟩:=DataW.trod_bool ht h
 exact ⟨b,[],Z,Z⟩
theorem b4C {α:Type} {E:Enc α} {H:Type} {enc:TypeId×Value→H} {w:World} {base:Nat} {spare:Nat→Bool} {held:Bool} {e:TypeId} (hE:a0U P E e) (hk:P.cellsOf e=E.k) {b o m f:Nat} {D:Nat→DataW H} {Pl:Nat→List MemPlace}
  (hx:∀i,i<m→∃cs',w.cells? base ((⟨b,o,none⟩:Addr).add (i*P.cellsOf e)) (P.cellsOf e)=some cs'∧DataW.trod enc P w base spare held f e cs'=some (D i,Pl i)):
  ∀n,n≤m→∃(xs:List α) (ccs:List Value) (L:List Nat),xs.length=n∧y8 E w ccs xs L false∧L9 w b o ccs
 |0,_=>⟨[],[],[],Z,⟨Z,Z⟩,λj v hj=>by cases hj⟩
 |n+1,hn=>by
  obtain ⟨xs,ccs,L,h1,h2,h3⟩:=b4C hE hk hx n (by omega)
  obtain ⟨cs',h4,h5⟩:=hx n (by omega)
  obtain ⟨a,L',h6⟩:=hE h5
  obtain ⟨_,h7,h8⟩:=World.cells?_some h4
  have hl:=h2.len
  rw[add_plain] at h8
  refine ⟨xs++[a],ccs++cs',L++L',by simp[h1],h2.app (a3I h6),λj v hj=>?_⟩
  by_cases hjl:j<ccs.length
  ·exact h3 j v (by rwa [List.getElem?_append_left hjl] at hj)
  ·rw[List.getElem?_append_right (by omega)] at hj
   have hlt:j-ccs.length<cs'.length:=(List.getElem?_eq_some_iff.1 hj).1
   have h9:=h8 (j-ccs.length) (by omega)
   rw[hj,add_plain] at h9
   rw[←h9]
   have:n*P.cellsOf e+(j-ccs.length)=j:=by rw[hk, ←h1, ←hl];omega
   rw[Nat.add_assoc,this]
theorem a0U.sl {α:Type} {E:Enc α} {t e e':TypeId} (ht:P.underlying t=some (.slice e)) (hk:P.cellsOf e=E.k) (hE:a0U P E e):a0U P (Enc.sl e' E) t:=λ{H enc w base spare held fuel cs x} h=>by
 rcases Deep.open_slice ht h with ⟨rfl,_⟩|⟨a,len,cap,m,f,D,Pl,rfl,hb,hl,hm,hmm,_,hx⟩
 ·exact ⟨[],[],none,0,0,[],[],[],Z,Z,Nat.zero_le _,Z,⟨Z,Z⟩,⟨Nat.le_refl _,Nat.zero_le _⟩,.inl ⟨Z,Z⟩⟩
 ·have hlm:len≤m:=by rw[hmm];split<;>omega
  by_cases h0:len=0
  ·subst h0
   exact ⟨[],[],some a,0,cap,[],[],[],Z,Z,Nat.zero_le _,Z,⟨Z,Z⟩,⟨hl,hm⟩,.inl ⟨Z,Z⟩⟩
  ·obtain ⟨cs',h4,h5⟩:=hx 0 (by omega)
   obtain ⟨_,h7,h8⟩:=World.cells?_some h4
   have hp:=E.pos
   have h9:=h8 0 (by omega)
   rw[List.getElem?_eq_getElem (by omega)] at h9
   obtain ⟨b,o,spot⟩:=a
   have hspot:spot=none:=by simpa[Addr.add] using World.cell?_spot h9
   subst hspot
   rw[add_plain,add_plain] at h9
   have hlt:=World.block_lt_of_cell? w _ h9
   obtain ⟨xs,ccs,L,h1,h2,h3⟩:=b4C hE hk hx len hlm
   exact ⟨xs,[b]++L,_,_,_,ccs,[b],L,Z,h1.symm,Nat.le_trans hl hm,Z,h2,⟨hl,hm⟩,.inr ⟨b,o,Z,h3,hlt,Z⟩⟩
def FO {α:Type} (P:Program) (fs:List Field) (o:Nat) (E:Enc α):Prop:=
 ∀{H:Type} {enc:TypeId×Value→H} {w:World} {base:Nat} {spare:Nat→Bool} {held:Bool} {n:Nat} {cs:List Value},
  (∀f∈fs,∃x,DataW.trod enc P w base spare held n f.type ((cs.drop f.offset).take (P.cellsOf f.type))=some x)→cs.length=o+E.k→∃a L,E.rep w (cs.drop o) a L false
theorem FO.one {α:Type} {E:Enc α} {f:Field} {o:Nat} (h1:f.offset=o) (h2:P.cellsOf f.type=E.k) (hE:a0U P E f.type):FO P [f] o E:=λ{H enc w base spare held n cs} h hl=>by
 obtain ⟨x,hx⟩:=h f (by simp)
 rw[h1,h2,List.take_of_length_le (by simp;omega)] at hx
 exact hE hx
theorem FO.cons {α β:Type} {E:Enc α} {F:Enc β} {f:Field} {fs:List Field} {o:Nat} (h1:f.offset=o) (h2:P.cellsOf f.type=E.k) (hE:a0U P E f.type) (hF:FO P fs (o+E.k) F):FO P (f::fs) o (Enc.pair E F):=λ{H enc w base spare held n cs} h hl=>by
 obtain ⟨x,hx⟩:=h f (by simp)
 rw[h1,h2] at hx
 obtain ⟨a,L,ha⟩:=hE hx
 have hl':cs.length=o+(E.k+F.k):=hl
 obtain ⟨b,M,hb⟩:=hF (λg hg=>h g (by simp[hg])) (by omega)
 exact ⟨(a,b),L++M,_,_,L,M,by rw[←List.drop_drop,List.take_append_drop],Z,ha,hb⟩
theorem a0U.struct {α:Type} {E:Enc α} {t:TypeId} {fs:Array Field} (ht:P.underlying t=some (.struct fs)) (hk:P.cellsOf t=E.k) (h:FO P fs.toList 0 E):a0U P E t:=λ{H enc w base spare held fuel cs x} hx=>by
 obtain ⟨xs,n,_,_,hl,hxl,hf⟩:=DataW.trod_struct ht hx
 have:=h (enc:=enc) (w:=w) (base:=base) (spare:=spare) (held:=held) (n:=n) (cs:=cs) (λf hm=>by
  obtain ⟨i,hi,rfl⟩:=List.getElem_of_mem hm
  have hi':i<fs.size:=by simpa using hi
  refine ⟨xs[i]'(by omega),?_⟩
  rw[Array.getElem_toList,hf i fs[i] (Array.getElem?_eq_getElem hi')]
  exact List.getElem?_eq_getElem (by omega)) (by omega)
 simpa using this

section
variable {H:Type} {enc:TypeId×Value→H} {w:World} {r:Reach} {b0 base:Nat} {spare:Nat→Bool} {held:Bool} {t:TypeId} {v:Value} {d:DataW H} {ps:List MemPlace}
theorem c3c {α:Type} {E:Enc α} {e e':TypeId} (hO:a0U P (Enc.sl e' E) t) (ht:P.underlying t=some (.slice e)) (hv:Value.okWide P w r b0 t v) (h:DataW.Trod enc P w base spare held t v d ps):
  ∃a m c x,v= .slice a m c∧Ro w [] (Enc.sl e' E) [.slice a m c] x:=by
 obtain ⟨a,m,c,rfl⟩:=okWide_slice ht hv
 obtain ⟨n,h⟩:=h
 obtain ⟨x,L,hr⟩:=hO h
 exact ⟨a,m,c,x,Z,L,hr,by simp⟩
end
theorem a7i {H:Type} {enc:TypeId×Value→H} (hl:laidOutB P=true) {W W':World} (hb:Below W.heap.size W W') {sp:Nat→Bool}:
  ∀{ts:List TypeId} {vs:List Value} {ds:List (DataW H)} {ps:List MemPlace},(ts.all λt=>P.readableRec t&&decide (t<P.types.size))=true→DataW.TrodAll enc P W 0 (λ_=>true) true ts vs ds ps→(∀x∈ps,x.block<W.heap.size)→
   (∀x∈ps,sp x.block=true)→DataW.TrodAll enc P W' 0 sp true ts vs ds ps
 |[],[],[],_,_,h,_,_=>h
 |t::ts,v::vs,d::ds,ps,ht,⟨p,q,h1,h2,e⟩,hlt,hs=>by
  subst e
  simp only[List.all_cons,Bool.and_eq_true,decide_eq_true_eq] at ht
  exact ⟨p,q,WideElems.Trod_stays hl ht.1.1 ht.1.2 h1 (λx hx=>hb.same (hlt x (by simp[hx]))) (λx hx=>hs x (by simp[hx])),
   a7i hl hb (by simpa using ht.2) h2 (λx hx=>hlt x (by simp[hx])) (λx hx=>hs x (by simp[hx])),Z⟩
 |[],_::_,_,_,_,h,_,_=>h.elim
 |_::_,[],_,_,_,h,_,_=>h.elim
 |[],[],_::_,_,_,h,_,_=>h.elim
 |_::_,_::_,[],_,_,h,_,_=>h.elim
end
theorem b9I {P:Program} {H:Type} {enc:TypeId×Value→H} {f:Func} {s:ChangeSpec} {apart fresh handsOn again:Bool} {W W':World} {args:Array Value} {ds gs:List (DataW H)} {before:List MemPlace} {tb:TypeId}
  (hl:laidOutB P=true) (hW:DataW.Whole enc P f.params.toList s.vars apart W args.toList ds gs before) (hvars:s.vars=[]) (hts:(f.params.toList.all λt=>P.readableRec t&&decide (t<P.types.size))=true)
  (hr:f.resultTypes= #[tb]) (htb:P.underlying tb=some .bool) (hfr:(s.fn H (ds++gs)).results=[.lit (.bool true)]) (hfa:(s.fn H (ds++gs)).args=ds) (hfv:(s.fn H (ds++gs)).vars=[]) (hb:Below W.heap.size W W'):
  s.post enc P f apart fresh handsOn again W args (.bool true) W':=by
 obtain ⟨p,q,hA,hV,e,hz,hn⟩:=id hW
 rw[hvars] at hV
 obtain ⟨rfl,rfl⟩:=trodVars_none hV
 have hlt:=hW.lt
 have ep:before=p:=by simpa using e
 subst ep
 have hold:∀x∈before,(λb=>decide (b<W.heap.size)) x.block=true:=λx hx=>by simpa using hlt x hx
 have hres:∀(b:Nat) (sp:Nat→Bool) (hd:Bool),DataW.TrodAll enc P W' b sp hd f.resultTypes.toList ((Value.bool true).resultList f.resultTypes.size) (s.fn H (ds++[])).results []:=λb sp hd=>by
  rw[hfr,hr]
  exact trodAll_mk1 (shut_bool htb _)
 have hargs:∀sp:Nat→Bool,(∀x∈before,sp x.block=true)→DataW.TrodAll enc P W' 0 sp true f.params.toList args.toList (s.fn H (ds++[])).args before:=λsp hs=>by
  rw[hfa]
  exact a7i hl hb hts hA hlt hs
 have hvs:∀sp:Nat→Bool,DataW.TrodVars enc P W' sp s.vars (s.fn H (ds++[])).vars []:=λsp=>by rw[hvars,hfv];rfl
 refine ⟨ds,[],before,[],before,[],hW,hres _ _ _,hargs _ hold,hvs _,World.keptBut_mono (λx hx=>hx.elim) (hb.frame λ_=>False),λ_=>?_⟩
 refine ⟨ok_one hr Z (okWide_bool_mk htb _),_,_,([]++before)++[],⟨[]++before,[],trodAll_append (hargs _ (λ_ _=>rfl)) (hres _ _ _),hvs _,Z,?_,?_⟩,?_⟩
 ·intro b off hx
  have hx':MemPlace.cell b off∈before:=by simpa using hx
  rw[hb.frozen (hlt _ hx')]
  exact hz b off (by simpa using hx)
 ·intro ha
  simpa using hn ha
 ·intro x hx _
  simpa using hx
end Go.Proofs.YthapcdhdfaibkaaGreatDoor

namespace Go.Proofs.YthapcdhdfaibkaaGreatDoor
open Go.RowKit
set_option linter.all false
theorem c3E:ownKnob Tryz.prog.godebug=none:=by kernel_rfl
theorem c2o:laidOutB Tryz.prog=true:=by kernel_rfl
theorem c1C: Tryz.prog.underlying 4 =some .bool:=by kernel_rfl
end Go.Proofs.YthapcdhdfaibkaaGreatDoor
end
section
namespace Go.Proofs.YthapcdhdfaibkaaGreatDoor
def b4N (vs:Array Value):Obj→Obj
 | .cells _ t fz=>.cells vs t fz
 |o=>o
noncomputable def tabWorld (os:Os):World:={ World.holding Tryz.prog os ⟨#[], #[],[]⟩ with heap:=((((World.holding Tryz.prog os ⟨#[], #[],[]⟩).heap.modify 2 (b4N #[.int .u8 0,.int .u8 1,.int .u8 28,.int .u8 2,.int .u8 29,.int .u8 14,.int .u8 24,.int .u8 3,.int .u8 30,.int .u8 22,.int .u8 20,.int .u8 15,.int .u8 25,.int .u8 17,.int .u8 4,.int .u8 8,.int .u8 31,.int .u8 27,.int .u8 13,.int .u8 23,.int .u8 21,.int .u8 19,.int .u8 16,.int .u8 7,.int .u8 26,.int .u8 12,.int .u8 18,.int .u8 6,.int .u8 11,.int .u8 5,.int .u8 10,.int .u8 9])).modify 3 (b4N #[.int .u8 0,.int .u8 1,.int .u8 56,.int .u8 2,.int .u8 57,.int .u8 49,.int .u8 28,.int .u8 3,.int .u8 61,.int .u8 58,.int .u8 42,.int .u8 50,.int .u8 38,.int .u8 29,.int .u8 17,.int .u8 4,.int .u8 62,.int .u8 47,.int .u8 59,.int .u8 36,.int .u8 45,.int .u8 43,.int .u8 51,.int .u8 22,.int .u8 53,.int .u8 39,.int .u8 33,.int .u8 30,.int .u8 24,.int .u8 18,.int .u8 12,.int .u8 5,.int .u8 63,.int .u8 55,.int .u8 48,.int .u8 27,.int .u8 60,.int .u8 41,.int .u8 37,.int .u8 16,.int .u8 46,.int .u8 35,.int .u8 44,.int .u8 21,.int .u8 52,.int .u8 32,.int .u8 23,.int .u8 11,.int .u8 54,.int .u8 26,.int .u8 40,.int .u8 15,.int .u8 34,.int .u8 20,.int .u8 31,.int .u8 10,.int .u8 25,.int .u8 14,.int .u8 19,.int .u8 9,.int .u8 13,.int .u8 8,.int .u8 7,.int .u8 6])).modify 1 (b4N #[.int .u64 1,.int .u64 10,.int .u64 100,.int .u64 1000,.int .u64 10000,.int .u64 100000,.int .u64 1000000,.int .u64 10000000,.int .u64 100000000,.int .u64 1000000000,.int .u64 10000000000,.int .u64 100000000000,.int .u64 1000000000000,.int .u64 10000000000000,.int .u64 100000000000000,.int .u64 1000000000000000,.int .u64 10000000000000000,.int .u64 100000000000000000,.int .u64 1000000000000000000,.int .u64 10000000000000000000])) }
end Go.Proofs.YthapcdhdfaibkaaGreatDoor
end
