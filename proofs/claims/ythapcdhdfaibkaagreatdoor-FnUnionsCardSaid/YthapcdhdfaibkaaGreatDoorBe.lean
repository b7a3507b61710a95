import Derived.Test.YthapcdhdfaibkaaGreatDoorBd
import Derived.Lib.AppendZerosOnto
import Derived.Lib.Overlaps
namespace Go.Proofs.YthapcdhdfaibkaaGreatDoor
open Go.RowKit
set_option linter.all false
section
variable {P:Program} {Q:Exit→Act→World→Prop} {n:Nat} {w0:World} {L0:List Nat} {fr:Fr} {H R:List HP} {d:Nat} {ty:TypeId} {pos:String} {af:Array Edge} {g:Option (Nat×Bool)}
theorem Y.cap {x:Operand} {T e:TypeId} {ad:Option Addr} {m c:Nat} (hT:P.underlying T=some (.slice e)) (hx:ev fr x=some (.slice ad m c)):
  Yp P n fr (.call ⟨.builtin .cap, #[x], #[T]⟩) (.int .i64 c):=λa h w' d t p af g=>by
 simp[execOp,resolve,invoke,builtin,Builtin.cap_,h.ev hx,run_underlying hT,goInt]
theorem a0S {x y:Operand} {T e:TypeId} {agg:Bool} {k:Nat} {z:List Value} {by':Nat} {b m c l:Nat} (hT:P.underlying T=some (.slice e)) (ht:TyOk P e agg k z by') (hx:ev fr x=some (.slice (some ⟨b,0,none⟩) m c)) (hy:ev fr y=some (.int .i64 (l:Int))) (hh:l≤m) (hc:l<c):
  Yp P n fr (.slice T x (some y) none none) (.slice (some ⟨b,l*k,none⟩) (m-l) (c-l)):=by
 have h:=a5i (P:=P) (n:=n) (fr:=fr) hT ht hx hy hh
 rw[if_neg (by omega)] at h
 have e1:Option.map (λq:Addr=>q.add (l*k)) (some ⟨b,0,none⟩)=some ⟨b,l*k,none⟩:=by
  simp only[Option.map_some,Addr.add]
  split
  ·rename_i h0;rw[h0]
  ·simp
 rw[e1] at h;exact h
theorem c1O {T e:TypeId} {agg:Bool} {k:Nat} {z:List Value} {by':Nat} (hT:P.underlying T=some (.slice e)) (ht:TyOk P e agg k z by') {gb M C:Nat} {cs:List Value} {w:World} {L:List Nat}
  (hrow:(row e k (some ⟨gb,0,none⟩) M C cs).holds w L) (hM:0<M) {p md cd:Nat} {a2:Option Addr} {m2 c2 q:Nat} {news:List Value} (hq:Nat.min m2 md=q)
  (hsrc:(q=0∧news=[])∨ ∃b o,a2=some ⟨b,o,none⟩∧L9 w b o news) (hl:news.length=q*k) (h1:∀u∈news,u.oneCell'=true) (hfit:p+q≤M):
  ∃w',(Builtin.copy_ #[T,T] ty #[.slice (some ⟨gb,p*k,none⟩) md cd,.slice a2 m2 c2]).run P w= .ok (.int .i64 q) w'∧(row e k (some ⟨gb,0,none⟩) M C (cs.take (p*k)++news++cs.drop (p*k+q*k))).holds w' L∧Step w L w' L:=by
 obtain ⟨hlc,⟨_,h0,_⟩|⟨g',cur,hg',hg,hmc,hcm,hcs,htake,rfl⟩⟩:=hrow
 ·omega
 cases hg'
 have hfirst:(Builtin.firstCells k q (.slice a2 m2 c2)).run P w= .ok news.toArray w:=by
  rcases hsrc with ⟨rfl,rfl⟩|⟨b,o,rfl,hc⟩
  ·cases a2<;>simp[Builtin.firstCells,loadCells,loadCellsFrom]
  ·exact run_firstCells_some (P:=P) w k q ⟨b,o,none⟩ m2 c2 news hl (λj v hj=>by
    have:=hc j v hj
    by_cases e0:j=0
    ·subst e0;simpa[Addr.add] using this
    ·simpa[Addr.add,e0] using this)
 have hpq:p*k+q*k≤M*k:=by rw[←Nat.add_mul];exact Nat.mul_le_mul_right _ hfit
 have hMc:M*k≤cur.size:=by rw[hcs];exact Nat.mul_le_mul_right _ hmc
 have hst:=run_storeCells_at P gb (p*k) e news 0 cur w hg (by simpa[hl] using Nat.le_trans hpq hMc) h1
 simp only[Nat.add_zero] at hst
 refine ⟨w.setRow gb (cur.toList.take (p*k)++news++cur.toList.drop (p*k+news.length)).toArray,?_,⟨?_,.inr ⟨gb,_,Z,setRow_heap w gb cur _ e _ hg,hmc,hcm,?_,?_,Z⟩⟩,Step.setRow (Array.getElem?_eq_some_iff.1 hg).1⟩
 ·have hq':Nat.min m2 md=q:=hq
  simp only[Builtin.copy_,List.getElem?_toArray,List.getElem?_cons_zero,List.getElem?_cons_succ,Sem.run_bind,run_underlying hT,Result.andThen_ok,Builtin.lenOf,Sem.run_pure,ht.run_sizeOf,hq',hfirst,hst,goInt]
 ·simp only[List.length_append,List.length_take,List.length_drop,hl,hlc];omega
 ·simp only[List.size_toArray,List.length_append,List.length_take,List.length_drop,Array.length_toList,hl];omega
 ·rw[show (cur.toList.take (p*k)++news++cur.toList.drop (p*k+news.length)).toArray.toList=cur.toList.take (p*k)++news++cur.toList.drop (p*k+news.length) from Z,hl, ←htake]
  rw[List.take_append,List.take_append]
  simp only[List.length_append,List.length_take,Array.length_toList,hl]
  rw[List.take_of_length_le (l:=List.take (p*k) cur.toList) (by simp;omega),List.take_of_length_le (l:=news) (by omega)]
  congr 1
  ·rw[List.take_take,Nat.min_eq_left (by omega)]
  ·rw[List.drop_take];congr 1;rw[Nat.min_eq_left (by omega)]
theorem a5N {T e:TypeId} {agg:Bool} {k:Nat} {z:List Value} {by':Nat} {x y:Operand} {gb M C:Nat} {cs:List Value} {p md cd:Nat} {a2:Option Addr} {m2 c2 q:Nat} {news cs':List Value} (hT:P.underlying T=some (.slice e)) (ht:TyOk P e agg k z by') (hx:ev fr x=some (.slice (some ⟨gb,p*k,none⟩) md cd)) (hy:ev fr y=some (.slice a2 m2 c2))
  (hH:H=row e k (some ⟨gb,0,none⟩) M C cs::R) (hM:0<M) (hq:Nat.min m2 md=q) (hsrc:(q=0∧news=[])∨ ∃b o,a2=some ⟨b,o,none⟩∧Has w0 L0 H b o news) (hl:news.length=q*k) (h1:∀u∈news,u.oneCell'=true) (hfit:p+q≤M) (hd:d<n) (hcs:cs.take (p*k)++news++cs.drop (p*k+q*k)=cs'):
  Nop P Q n w0 L0 fr H ⟨some d,.call ⟨.builtin .copy, #[x,y], #[T,T]⟩,ty,pos,af,g⟩ false (κ:=Unit) (λ_=>(d,.int .i64 q)::fr) (λ_=>row e k (some ⟨gb,0,none⟩) M C cs'::R) (λ_=>True):=λK hK a w ha hw=>by
 subst hcs
 have hsrc':(q=0∧news=[])∨ ∃b o,a2=some ⟨b,o,none⟩∧L9 w b o news:=hsrc.imp id λ⟨b,o,h1,h2⟩=>⟨b,o,h1,h2 w hw⟩
 have hw':=hw
 rw[hH] at hw'
 obtain ⟨L,⟨L1,L2,rfl,hrow,hR⟩,hn,hst⟩:=hw'
 obtain ⟨w',r1,r2,r3⟩:=c1O (P:=P) (ty:=ty) (cd:=cd) (c2:=c2) hT ht hrow hM hq hsrc' hl h1 hfit
 obtain ⟨k1,k2,k3⟩:=hst.call hn hR.inh r3 (List.nodup_append.1 hn).1
 have hrun:(execOp a.eval ⟨some d,.call ⟨.builtin .copy, #[x,y], #[T,T]⟩,ty,pos,af,g⟩).run P w= .ok (.value (.int .i64 q)) w':=by
  simp only[execOp,resolve,ha.ev hx,ha.ev hy,List.map_toArray,List.map_cons,List.map_nil,Sem.run_bind,Sem.run_pure,Result.andThen_ok,invoke,builtin,r1]
 rw[Oper.wp,hrun]
 exact hK () trivial w _ _ (ha.put hd _) ⟨L1++L2,⟨L1,L2,Z,r2,hR.stable k3⟩,k2,k1⟩ (by simp)
theorem b5C {T tn e:TypeId} {agg:Bool} {k:Nat} {z:List Value} {by':Nat} {x y:Operand} {ad:Option Addr} {i m c zn:Nat} {zi:Int} {cs:List Value} (hT:P.underlying T=some (.slice e)) (htn:P.underlying tn=some (.int .i64)) (ht:TyOk P e agg k z by') (hk:0<k)
  (hx:ev fr x=some (.slice ad i c)) (hy:ev fr y=some (.int .i64 zi)) (hz:zi=(zn:Int)) (h0:0<zn) (hg:c<i+zn) (hm:row e k ad m c cs∈H) (him:i≤m) (h63:i+zn≤9223372036854775807) (hbytes:(i+zn)*by'≤140737488355328) (hd:d<n):
  Nop P Q n w0 L0 fr H ⟨some d,.call ⟨.builtin .append, #[x,y], #[T,tn]⟩,ty,pos,af,g⟩ true (κ:=Nat×Nat×List Value) (λp=>(d,.slice (some ⟨p.1,0,none⟩) (i+zn) p.2.1)::fr) (λp=>row e k (some ⟨p.1,0,none⟩) (i+zn) p.2.1 (cs.take (i*k)++p.2.2)::H) (λp=>p.2.2.length=zn*k∧i+zn≤p.2.1):=λK hK a w ha hw=>by
 subst hz
 obtain ⟨it,zv,i1,i2,i3,i4,i5⟩:=ht.info
 obtain ⟨L',hlc,hr⟩:=hw.mem hm
 have hik:i*k≤m*k:=Nat.mul_le_mul_right _ him
 have hold:(Builtin.firstCells it.size i (.slice ad i c)).run P w.drew= .ok (cs.take (i*k)).toArray w.drew:=by
  rw[i2]
  rcases hr with ⟨rfl,rfl,_⟩|⟨g',cur,rfl,hg',hmc,hcm,hcs,htake,_⟩
  ·obtain rfl:i=0:=by omega
   cases ad<;>simp[Builtin.firstCells,loadCells,loadCellsFrom]
  ·refine run_firstCells_some (P:=P) w.drew k i ⟨g',0,none⟩ i c _ (by simp;omega) λj v hj=>?_
   rw[List.getElem?_take] at hj
   split at hj
   ·rw[←htake,List.getElem?_take] at hj
    split at hj
    ·have:w.cell? ⟨g',j,none⟩=some v:=by simpa[World.cell?,hg'] using hj
     by_cases e0:j=0
     ·subst e0;simpa[Addr.add] using this
     ·simpa[Addr.add,e0] using this
    ·cases hj
   ·cases hj
 have hzb:zn*it.bytes≤281474976710656:=by
  rw[i3]
  exact Nat.le_trans (Nat.mul_le_mul_right by' (Nat.le_add_left zn i)) (Nat.le_trans hbytes (by decide))
 have hrun1:=Lib.run_append_grow_zeros (P:=P) w T tn ty e it zv .i64 .i64 hT htn i1 i4 ad i c (cs.take (i*k)) hold zn h0 (by rw[i2];exact hk) hg (by have h:=h63;omega) hzb (by rw[i3];exact growslice_fits hg hbytes)
 have hrun:(execOp a.eval ⟨some d,.call ⟨.builtin .append, #[x,y], #[T,tn]⟩,ty,pos,af,g⟩).run P w= .ok (.value (.slice (some ⟨w.heap.size,0,none⟩) (i+zn) (grownCap w (i+zn) c e))) (w.drew.alloc (.cells ((cs.take (i*k)).toArray++Builtin.zeroCells zv.cells zn++Builtin.zeroCells zv.cells (grownCap w (i+zn) c e-(i+zn))) e)):=by
  simp only[execOp,resolve,ha.ev hx,ha.ev hy,List.map_toArray,List.map_cons,List.map_nil,Sem.run_bind,Sem.run_pure,Result.andThen_ok,invoke,builtin,hrun1]
 rw[Oper.wp,hrun]
 have hge:=grownCap_ge w (i+zn) c e
 have hzs:zv.cells.size=k:=by rw[i5];simpa using ht.zl
 have hzl:(Builtin.zeroCells zv.cells zn).toList.length=zn*k:=by simp[size_zeroCells,hzs]
 have hext:Ext w (w.drew.alloc (.cells ((cs.take (i*k)).toArray++Builtin.zeroCells zv.cells zn++Builtin.zeroCells zv.cells (grownCap w (i+zn) c e-(i+zn))) e)):=
  ⟨Z,Z,Z,by simp,λb hb=>Below.heap_alloc w.drew _ b hb⟩
 refine hK (w.heap.size,grownCap w (i+zn) c e,(Builtin.zeroCells zv.cells zn).toList) ⟨hzl,hge⟩ w _ _ (ha.put hd _) ?_ (λ_=>hext)
 obtain ⟨L,hs,hn,hst⟩:=hw
 have hstep:Step w [] (w.drew.alloc (.cells ((cs.take (i*k)).toArray++Builtin.zeroCells zv.cells zn++Builtin.zeroCells zv.cells (grownCap w (i+zn) c e-(i+zn))) e)) [w.heap.size]:=
  ⟨Z,Z,Z,by simp,λb hb _=>Below.heap_alloc w.drew _ b hb,λb hb=>by simp at hb;subst hb;exact .inr (Nat.le_refl _)⟩
 obtain ⟨k1,k2,k3⟩:=Step.call (Lp:=[]) (Lr:=L) (by simpa using hst) (by simpa using hn) hs.inh hstep (by simp)
 refine ⟨[w.heap.size]++L,⟨[w.heap.size],L,Z,⟨?_,.inr ⟨_,_,Z,heap_alloc_new w.drew _,hge,grownCap_le_maxLen w (i+zn) c e h63,?_,?_,Z⟩⟩,hs.stable k3⟩,k2,k1⟩
 ·simp only[List.length_append,List.length_take,hzl];rw[Nat.add_mul];omega
 ·simp only[Array.size_append,List.size_toArray,List.length_take,size_zeroCells,hzs,Nat.min_eq_left (show i*k≤cs.length by omega), ←Nat.add_mul]
  congr 1;omega
 ·simp only[Array.toList_append]
  rw[List.take_append_of_le_length (by simp only[List.length_append,List.length_take,hzl];rw[Nat.add_mul];omega),List.take_of_length_le (by simp only[List.length_append,List.length_take,hzl];rw[Nat.add_mul];omega)]
theorem c1p {f : FuncId} {fn : Func} {x : Operand} {xs : Array Operand} {ts : Array TypeId} {T tR e e2 : TypeId} {agg : Bool} {k : Nat} {z : List Value} {by' : Nat} {va vl vc sb so sl sc M C mv : Nat} {cs vcs : List Value} (hf : P.funcs[f]? = some fn) (h1 : (fn.name == "runtime.NumGoroutine") = false) (h2 : fn.body.isNone = true) (h3 : Extern.findNext fn = none) (h4 : Extern.find fn = some (Extern.SlicesOverlaps.overlaps #[T, T] #[tR]))
  (hT:P.underlying T=some (.slice e)) (ht:TyOk P e agg k z by') (hk:0<k) (hx:ev fr x=some (.func (.func f) #[] #[])) (hxs:evs fr xs.toList=some [.slice (some ⟨va,0,none⟩) vl vc,.slice (some ⟨sb,so,none⟩) sl sc]) (hH:H=row e k (some ⟨sb,0,none⟩) M C cs::row e2 k (some ⟨va,0,none⟩) mv vc vcs::R) (hM:0<M) (hmv:0<mv) (hd:d<n):
  Nop P Q n w0 L0 fr H ⟨some d,.call ⟨.value x,xs,ts⟩,ty,pos,af,g⟩ true (κ:=Unit) (λ_=>(d,.bool false)::fr) (λ_=>H) (λ_=>True):=λK hK a w ha hw=>by
 have hw':=hw
 rw[hH] at hw'
 obtain ⟨L,⟨L1,L2,rfl,⟨_,hrow⟩,⟨M1,M2,rfl,⟨_,hrow2⟩,hR⟩⟩,hn,hst⟩:=hw'
 rcases hrow with ⟨_,h0,_⟩|⟨g1,cur,e1,hg1,hm1,_,hs1,_,rfl⟩
 ·omega
 rcases hrow2 with ⟨_,h0,_⟩|⟨g2,cur2,e2,hg2,hm2,_,hs2,_,rfl⟩
 ·omega
 cases e1;cases e2
 have hne:va≠sb:=λe=>(List.nodup_append.1 hn).2.2 sb (by simp) va (by simp) e.symm
 have hcs:=b8r ha _ _ hxs
 have hcur:cur.size≠0:=by
  rw[hs1];have:=Nat.mul_le_mul (show 1≤C by omega) (show 1≤k from hk);omega
 have hrun0:=Lib.run_overlaps_apart (P:=P) w T tR e hT k (λw=>ht.run_sizeOf w) ⟨va,0,none⟩ ⟨sb,so,none⟩ vl vc sl sc hne e2 e cur2.size cur.size (by simp[World.shape?,hg2]) (by simp[World.shape?,hg1]) hcur (by simp[World.frozen?,hg2]) (by simp[World.frozen?,hg2])
 have hargs:xs.map a.eval= #[.slice (some ⟨va,0,none⟩) vl vc,.slice (some ⟨sb,so,none⟩) sl sc]:=by
  apply Array.ext';rw[Array.toList_map,hcs]
 have hrun:(execOp a.eval ⟨some d,.call ⟨.value x,xs,ts⟩,ty,pos,af,g⟩).run P w= .ok (.value (.bool false)) w:=by
  have hc:(callFunc f (xs.map a.eval++ #[])).run P w= .ok (.value (.bool false)) w:=by
   rw[Array.append_empty,hargs,run_callFunc_extern hf h1 h2 h3 h4,hrun0];rfl
  simp[execOp,resolve,ha.ev hx,Deferred.ofValue,invoke] at hc ⊢
  exact hc
 rw[Oper.wp,hrun]
 exact hK () trivial w _ w (ha.put hd _) hw (λ_=>a0T w)
end
section
variable {n:Nat} {w0:World} {L0:List Nat} {fr:Fr} {H R:List HP} {G:Act→World→Prop} {α:Type} {E:Enc α} {e:TypeId} {a:Option Addr} {m c k:Nat} {xs ys:List α} {cs vcs:List Value}
theorem b6W {m':Nat} (h0:0<m) (hm:m≤m') (hc:m'≤c) (h:∀tl,tl.length=(m'-m)*k→Ent n w0 L0 fr (row e k a m' c (cs++tl)::R) G):Ent n w0 L0 fr (row e k a m c cs::R) G:=λac w h1 h2=>by
 obtain ⟨L,⟨L1,LR,rfl,⟨g1,g2⟩,hR⟩,hn,hst⟩:=h2
 rcases g2 with ⟨_,h4,_⟩|⟨g,cur,h3,h4,h5,h6,h7,h8,h9⟩
 ·omega
 have hmk:m*k≤m'*k:=Nat.mul_le_mul_right _ hm
 have hck:m'*k≤c*k:=Nat.mul_le_mul_right _ hc
 refine h ((cur.toList.take (m'*k)).drop (m*k)) (by simp;rw[Nat.sub_mul];omega) ac w h1 ⟨L1++LR,⟨L1,LR,Z,⟨?_,.inr ⟨g,cur,h3,h4,hc,h6,h7,?_,h9⟩⟩,hR⟩,hn,hst⟩
 ·rw[List.length_append,g1];simp;omega
 ·have:(cur.toList.take (m'*k)).take (m*k)=cs:=by rw[List.take_take,Nat.min_eq_left hmk,h8]
  conv=>lhs;rw[←List.take_append_drop (m*k) (cur.toList.take (m'*k)),this]
theorem a2D (hm:els E cs xs∈H) (h:(∀u∈cs,u.oneCell'=true)→Ent n w0 L0 fr H G):Ent n w0 L0 fr H G:=λac w h1 h2=>by
 obtain ⟨L,hL⟩:=h2.mem hm
 exact h (y8.one hL) ac w h1 h2
theorem a3Z (hm:row e k a m c cs∈H) (hlt:0<m) (h:∀b,a=some ⟨b,0,none⟩→m≤c→Ent n w0 L0 fr H G):Ent n w0 L0 fr H G:=λac w h1 h2=>by
 obtain ⟨L,_,hL⟩:=h2.mem hm
 rcases hL with ⟨_,h0,_⟩|⟨g,cur,h3,_,h5,_⟩
 ·omega
 ·exact h g h3 h5 ac w h1 h2
theorem a3X (hm:row e k a m c cs∈H) (h:m≤c∧c≤9223372036854775807→Ent n w0 L0 fr H G):Ent n w0 L0 fr H G:=λac w h1 h2=>by
 obtain ⟨L,_,hL⟩:=h2.mem hm
 rcases hL with ⟨rfl,rfl,_⟩|⟨g,cur,h3,_,h5,h6,_⟩
 ·exact h ⟨by omega,by omega⟩ ac w h1 h2
 ·exact h ⟨h5,h6⟩ ac w h1 h2
theorem a3Y {i:Nat} (hi:i≤xs.length) (h:Ent n w0 L0 fr (els E (cs.take (i*E.k)++vcs++cs.drop (i*E.k)) (xs.take i++ys++xs.drop i)::R) G):Ent n w0 L0 fr (els E cs xs::els E vcs ys::R) G:=λac w h1 h2=>by
 obtain ⟨L,⟨L1,Lq,rfl,g,L2,LR,rfl,g',hR⟩,hn,hst⟩:=h2
 have gg:y8 E w cs xs L1 true:=g
 rw[←List.take_append_drop i xs] at gg
 obtain ⟨c1,c2,M1,M2,rfl,rfl,k1,k2⟩:=gg.split
 have hl1:c1.length=i*E.k:=by rw[k1.len,List.length_take,Nat.min_eq_left hi]
 have e1:(c1++c2).take (i*E.k)=c1:=by rw[←hl1,List.take_left]
 have e2:(c1++c2).drop (i*E.k)=c2:=by rw[←hl1,List.drop_left]
 rw[e1,e2] at h
 have hperm:((M1++M2)++(L2++LR)).Perm (((M1++L2)++M2)++LR):=by
  simp only[List.append_assoc]
  refine List.Perm.append_left M1 ?_
  rw[←List.append_assoc, ←List.append_assoc]
  exact (List.perm_append_comm).append_right LR
 exact h ac w h1 ⟨((M1++L2)++M2)++LR,⟨_,LR,Z,(k1.app g').app k2,hR⟩,hperm.nodup_iff.1 hn,hst.sublist λb hb=>hperm.mem_iff.2 hb⟩
end
theorem b2O {cs vcs:List Value} {i n m k:Nat} {zs:List Value} (hc:cs.length=n*k) (hv:vcs.length=m*k) (hz:zs.length=(n+m-i)*k) (hi:i≤n):
  ((cs.take (i*k)++zs).take (i*k)++vcs++(cs.take (i*k)++zs).drop (i*k+m*k)).take ((i+m)*k)++cs.drop (i*k)++((cs.take (i*k)++zs).take (i*k)++vcs++(cs.take (i*k)++zs).drop (i*k+m*k)).drop ((i+m)*k+(n-i)*k)=cs.take (i*k)++vcs++cs.drop (i*k):=by
 have hik:i*k≤n*k:=Nat.mul_le_mul_right _ hi
 have e0:(n-i)*k=n*k-i*k:=Nat.sub_mul ..
 have e1:(i+m)*k=i*k+m*k:=Nat.add_mul ..
 have e2:(n+m-i)*k=n*k+m*k-i*k:=by rw[Nat.sub_mul,Nat.add_mul]
 have h1:(cs.take (i*k)++zs).take (i*k)=cs.take (i*k):=by rw[List.take_append_of_le_length (by simp;omega),List.take_of_length_le (by rw[List.length_take];omega)]
 rw[h1]
 have h2:(cs.take (i*k)++vcs).length=(i+m)*k:=by simp[hv];omega
 have h6:(cs.take (i*k)++vcs++(cs.take (i*k)++zs).drop (i*k+m*k)).drop ((i+m)*k+(n-i)*k)=[]:=List.drop_eq_nil_of_le (by simp only[List.length_append,List.length_take,List.length_drop,hv,hz];omega)
 rw[h6, ←h2,List.take_left,List.append_nil]
theorem b0N {cs vcs:List Value} {i n m k:Nat} {tl:List Value} (hc:cs.length=n*k) (hv:vcs.length=m*k) (ht:tl.length=m*k) (hi:i≤n):
  ((cs++tl).take ((i+m)*k)++cs.drop (i*k)++(cs++tl).drop ((i+m)*k+(n-i)*k)).take (i*k)++vcs++((cs++tl).take ((i+m)*k)++cs.drop (i*k)++(cs++tl).drop ((i+m)*k+(n-i)*k)).drop (i*k+m*k)=cs.take (i*k)++vcs++cs.drop (i*k):=by
 have hik:i*k≤n*k:=Nat.mul_le_mul_right _ hi
 have e0:(n-i)*k=n*k-i*k:=Nat.sub_mul ..
 have e1:(i+m)*k=i*k+m*k:=Nat.add_mul ..
 have h3:(cs++tl).drop ((i+m)*k+(n-i)*k)=[]:=List.drop_eq_nil_of_le (by simp[hc,ht];omega)
 rw[h3,List.append_nil]
 have h4:((cs++tl).take ((i+m)*k)++cs.drop (i*k)).take (i*k)=cs.take (i*k):=by
  rw[List.take_append_of_le_length (by simp[hc,ht];omega),List.take_take,Nat.min_eq_left (by omega),List.take_append_of_le_length (by omega)]
 have h5:((cs++tl).take ((i+m)*k)++cs.drop (i*k)).drop (i*k+m*k)=cs.drop (i*k):=by
  have:((cs++tl).take ((i+m)*k)).length=i*k+m*k:=by simp[hc,ht];omega
  rw[←this,List.drop_left]
 rw[h4,h5]
end Go.Proofs.YthapcdhdfaibkaaGreatDoor

namespace Go.Proofs.YthapcdhdfaibkaaGreatDoor
open Go.RowKit
set_option linter.all false
section
variable {w0:World} {L0:List Nat} {H:List HP} {e:TypeId} {k m c g:Nat} {cs news rest:List Value}
theorem a4a (hm:Go.Proofs.YthapcdhdfaibkaaGreatDoor.row e k (some ⟨g,0,none⟩) m c cs∈H) (p:Nat) (h:cs.drop (p*k)=news++rest):Has w0 L0 H g (p*k) news:=λw hw=>by
 have h1:=(Has.row (w0:=w0) (L0:=L0) Z hm) w hw
 intro j v hj
 have hj':(cs.drop (p*k))[j]? =some v:=by
  rw[h,List.getElem?_append_left (List.getElem?_eq_some_iff.1 hj).1];exact hj
 rw[List.getElem?_drop] at hj'
 have:=h1 _ v hj'
 rwa [Nat.zero_add] at this
theorem a7e (hm:Go.Proofs.YthapcdhdfaibkaaGreatDoor.row e k (some ⟨g,0,none⟩) m c cs∈H):Has w0 L0 H g 0 cs:=Has.row Z hm
end
theorem a7m {cs:List Value} {j k n:Nat} {vcs:List Value} (hc:cs.length=n*k) (hj:j=n):cs++vcs=cs.take (j*k)++vcs++cs.drop (j*k):=by
 subst hj
 rw[List.take_of_length_le (by omega),List.drop_eq_nil_of_le (by omega),List.append_nil]
end Go.Proofs.YthapcdhdfaibkaaGreatDoor

namespace Go.Proofs.YthapcdhdfaibkaaGreatDoor
open Go.RowKit
set_option linter.all false
section
variable {P:Program} {Q:Exit→Act→World→Prop} {n:Nat} {w0:World} {L0:List Nat} {fr:Fr} {H R:List HP} {d:Nat} {ty:TypeId} {pos:String} {af:Array Edge} {g:Option (Nat×Bool)}
theorem b8X {T e:TypeId} {agg:Bool} {k:Nat} {z:List Value} {by':Nat} (hT:P.underlying T=some (.slice e)) (ht:TyOk P e agg k z by') {gb M C:Nat} {cs:List Value} {w:World} {L:List Nat}
  (hrow:(row e k (some ⟨gb,0,none⟩) M C cs).holds w L) (hM:0<M) {i m2:Nat} {a2:Option Addr} {c2:Nat} {news:List Value}
  (hsrc:(m2=0∧news=[])∨ ∃b o,a2=some ⟨b,o,none⟩∧L9 w b o news) (hl:news.length=m2*k) (h1:∀u∈news,u.oneCell'=true) (hfit:i+m2≤M):
  ∃w',(Builtin.append_ #[T,T] ty #[.slice (some ⟨gb,0,none⟩) i C,.slice a2 m2 c2]).run P w= .ok (.slice (some ⟨gb,0,none⟩) (i+m2) C) w'∧(row e k (some ⟨gb,0,none⟩) M C (cs.take (i*k)++news++cs.drop (i*k+m2*k))).holds w' L∧Step w L w' L:=by
 obtain ⟨it,zv,i1,i2,i3,i4,i5⟩:=ht.info
 obtain ⟨hlc,⟨_,h0,_⟩|⟨g',cur,hg',hg,hmc,hcm,hcs,htake,rfl⟩⟩:=hrow
 ·omega
 cases hg'
 have hfirst:(Builtin.firstCells k m2 (.slice a2 m2 c2)).run P w= .ok news.toArray w:=by
  rcases hsrc with ⟨rfl,rfl⟩|⟨b,o,rfl,hc⟩
  ·cases a2<;>simp[Builtin.firstCells,loadCells,loadCellsFrom]
  ·exact run_firstCells_some (P:=P) w k m2 ⟨b,o,none⟩ m2 c2 news hl (λj v hj=>by
    have:=hc j v hj
    by_cases e0:j=0
    ·subst e0;simpa[Addr.add] using this
    ·simpa[Addr.add,e0] using this)
 have hpq:i*k+m2*k≤M*k:=by rw[←Nat.add_mul];exact Nat.mul_le_mul_right _ hfit
 have hMc:M*k≤cur.size:=by rw[hcs];exact Nat.mul_le_mul_right _ hmc
 have hroom:i+m2≤C:=by omega
 have hst:=run_storeCells_at P gb (i*k) e news 0 cur w hg (by simpa[hl] using Nat.le_trans hpq hMc) h1
 simp only[Nat.add_zero] at hst
 refine ⟨w.setRow gb (cur.toList.take (i*k)++news++cur.toList.drop (i*k+news.length)).toArray,?_,⟨?_,.inr ⟨gb,_,Z,setRow_heap w gb cur _ e _ hg,hmc,hcm,?_,?_,Z⟩⟩,Step.setRow (Array.getElem?_eq_some_iff.1 hg).1⟩
 ·simp[Builtin.append_,run_underlying hT,sizeOf,typeInfo,i1,Builtin.lenOf,i2,hfirst,hroom,Addr.add_lit,hst]
 ·simp only[List.length_append,List.length_take,List.length_drop,hl,hlc];omega
 ·simp only[List.size_toArray,List.length_append,List.length_take,List.length_drop,Array.length_toList,hl];omega
 ·rw[show (cur.toList.take (i*k)++news++cur.toList.drop (i*k+news.length)).toArray.toList=cur.toList.take (i*k)++news++cur.toList.drop (i*k+news.length) from Z,hl, ←htake]
  rw[List.take_append,List.take_append]
  simp only[List.length_append,List.length_take,Array.length_toList,hl]
  rw[List.take_of_length_le (l:=List.take (i*k) cur.toList) (by simp;omega),List.take_of_length_le (l:=news) (by omega)]
  congr 1
  ·rw[List.take_take,Nat.min_eq_left (by omega)]
  ·rw[List.drop_take];congr 1;rw[Nat.min_eq_left (by omega)]
theorem c2I {T e:TypeId} {agg:Bool} {k:Nat} {z:List Value} {by':Nat} {x y:Operand} {gb M C:Nat} {cs:List Value} {i:Nat} {a2:Option Addr} {m2 c2:Nat} {news cs':List Value} (hT:P.underlying T=some (.slice e)) (ht:TyOk P e agg k z by') (hx:ev fr x=some (.slice (some ⟨gb,0,none⟩) i C)) (hy:ev fr y=some (.slice a2 m2 c2))
  (hH:H=row e k (some ⟨gb,0,none⟩) M C cs::R) (hM:0<M) (hsrc:(m2=0∧news=[])∨ ∃b o,a2=some ⟨b,o,none⟩∧Has w0 L0 H b o news) (hl:news.length=m2*k) (h1:∀u∈news,u.oneCell'=true) (hfit:i+m2≤M) (hd:d<n) (hcs:cs.take (i*k)++news++cs.drop (i*k+m2*k)=cs'):
  Nop P Q n w0 L0 fr H ⟨some d,.call ⟨.builtin .append, #[x,y], #[T,T]⟩,ty,pos,af,g⟩ false (κ:=Unit) (λ_=>(d,.slice (some ⟨gb,0,none⟩) (i+m2) C)::fr) (λ_=>row e k (some ⟨gb,0,none⟩) M C cs'::R) (λ_=>True):=λK hK a w ha hw=>by
 subst hcs
 have hsrc':(m2=0∧news=[])∨ ∃b o,a2=some ⟨b,o,none⟩∧L9 w b o news:=hsrc.imp id λ⟨b,o,h1,h2⟩=>⟨b,o,h1,h2 w hw⟩
 have hw':=hw
 rw[hH] at hw'
 obtain ⟨L,⟨L1,L2,rfl,hrow,hR⟩,hn,hst⟩:=hw'
 obtain ⟨w',r1,r2,r3⟩:=b8X (P:=P) (ty:=ty) (c2:=c2) hT ht hrow hM hsrc' hl h1 hfit
 obtain ⟨k1,k2,k3⟩:=hst.call hn hR.inh r3 (List.nodup_append.1 hn).1
 have hrun:(execOp a.eval ⟨some d,.call ⟨.builtin .append, #[x,y], #[T,T]⟩,ty,pos,af,g⟩).run P w= .ok (.value (.slice (some ⟨gb,0,none⟩) (i+m2) C)) w':=by
  simp only[execOp,resolve,ha.ev hx,ha.ev hy,List.map_toArray,List.map_cons,List.map_nil,Sem.run_bind,Sem.run_pure,Result.andThen_ok,invoke,builtin,r1]
 rw[Oper.wp,hrun]
 exact hK () trivial w _ _ (ha.put hd _) ⟨L1++L2,⟨L1,L2,Z,r2,hR.stable k3⟩,k2,k1⟩ (by simp)
theorem c0w {z:List Value} {q:Nat} {u:Value} (h:u∈(Builtin.zeroCells z.toArray q).toList):u∈z:=by
 unfold Builtin.zeroCells at h
 simp only[Array.toList_map,List.mem_map,Array.toList_range,List.mem_range,List.size_toArray] at h
 obtain ⟨i,hi,rfl⟩:=h
 have hl:0<z.length:=by rcases Nat.eq_zero_or_pos z.length with h0|h0;rw[h0] at hi;omega;exact h0
 rw[List.getElem!_toArray,getElem!_pos z _ (Nat.mod_lt _ hl)]
 exact List.getElem_mem _
theorem c1I {T e:TypeId} {agg:Bool} {k:Nat} {z:List Value} {by':Nat} (hT:P.underlying T=some (.slice e)) (ht:TyOk P e agg k z by') (hz1:∀u∈z,u.oneCell'=true) {gb M C:Nat} {cs:List Value} {w:World} {L:List Nat}
  (hrow:(row e k (some ⟨gb,0,none⟩) M C cs).holds w L) (hM:0<M) {p q cd:Nat} (hfit:p+q≤M) (hq:0<q):
  ∃w',(Builtin.clear_ #[T] ty #[.slice (some ⟨gb,p*k,none⟩) q cd]).run P w= .ok (.tuple #[]) w'∧(row e k (some ⟨gb,0,none⟩) p C (cs.take (p*k))).holds w' L∧Step w L w' L:=by
 obtain ⟨it,zv,i1,i2,i3,i4,i5⟩:=ht.info
 obtain ⟨hlc,⟨_,h0,_⟩|⟨g',cur,hg',hg,hmc,hcm,hcs,htake,rfl⟩⟩:=hrow
 ·omega
 cases hg'
 have hpq:p*k+q*k≤M*k:=by rw[←Nat.add_mul];exact Nat.mul_le_mul_right _ hfit
 have hMc:M*k≤cur.size:=by rw[hcs];exact Nat.mul_le_mul_right _ hmc
 have hzs:zv.cells.size=k:=by rw[i5];simpa using ht.zl
 have hzl:(Builtin.zeroCells zv.cells q).toList.length=q*k:=by simp[size_zeroCells,hzs]
 have hone:∀u∈(Builtin.zeroCells zv.cells q).toList,u.oneCell'=true:=by
  intro u hu
  refine hz1 u ?_
  rw[i5] at hu
  exact c0w hu
 have hst:=run_storeCells_at P gb (p*k) e (Builtin.zeroCells zv.cells q).toList 0 cur w hg (by simpa[size_zeroCells,hzs] using Nat.le_trans hpq hMc) hone
 simp only[Nat.add_zero] at hst
 have hne:∃q',q=q'+1:=⟨q-1,by omega⟩
 refine ⟨w.setRow gb (cur.toList.take (p*k)++(Builtin.zeroCells zv.cells q).toList++cur.toList.drop (p*k+(Builtin.zeroCells zv.cells q).toList.length)).toArray,?_,⟨?_,.inr ⟨gb,_,Z,setRow_heap w gb cur _ e _ hg,by omega,hcm,?_,?_,Z⟩⟩,Step.setRow (Array.getElem?_eq_some_iff.1 hg).1⟩
 ·obtain ⟨q',rfl⟩:=hne
  simp[Builtin.clear_,run_underlying hT,zeroValue,typeInfo,i1,i4]
  rw[show Sem.run P (storeCells { block:=gb,off:=p*k } (Builtin.zeroCells zv.cells (q'+1)).toList) w=_ from hst]
  simp
 ·simp only[List.length_take,hlc];omega
 ·simp only[List.size_toArray,List.length_append,List.length_take,List.length_drop,Array.length_toList,hzl];omega
 ·rw[show (cur.toList.take (p*k)++(Builtin.zeroCells zv.cells q).toList++cur.toList.drop (p*k+(Builtin.zeroCells zv.cells q).toList.length)).toArray.toList=cur.toList.take (p*k)++(Builtin.zeroCells zv.cells q).toList++cur.toList.drop (p*k+(Builtin.zeroCells zv.cells q).toList.length) from Z, ←htake]
  rw[List.append_assoc,List.take_append_of_le_length (by simp;omega),List.take_take,List.take_take]
  congr 1;omega
theorem c1q {T e:TypeId} {agg:Bool} {k:Nat} {z:List Value} {by':Nat} {x:Operand} {gb M C:Nat} {cs cs':List Value} {p q cd:Nat} (hT:P.underlying T=some (.slice e)) (ht:TyOk P e agg k z by') (hz1:∀u∈z,u.oneCell'=true) (hx:ev fr x=some (.slice (some ⟨gb,p*k,none⟩) q cd))
  (hH:H=row e k (some ⟨gb,0,none⟩) M C cs::R) (hM:0<M) (hfit:p+q≤M) (hq:0<q) (hcs:cs.take (p*k)=cs'):
  Nop P Q n w0 L0 fr H ⟨none,.call ⟨.builtin .clear, #[x], #[T]⟩,ty,pos,af,g⟩ false (κ:=Unit) (λ_=>fr) (λ_=>row e k (some ⟨gb,0,none⟩) p C cs'::R) (λ_=>True):=λK hK a w ha hw=>by
 subst hcs
 have hw':=hw
 rw[hH] at hw'
 obtain ⟨L,⟨L1,L2,rfl,hrow,hR⟩,hn,hst⟩:=hw'
 obtain ⟨w',r1,r2,r3⟩:=c1I (P:=P) (ty:=ty) (cd:=cd) hT ht hz1 hrow hM hfit hq
 obtain ⟨k1,k2,k3⟩:=hst.call hn hR.inh r3 (List.nodup_append.1 hn).1
 have hrun:(execOp a.eval ⟨none,.call ⟨.builtin .clear, #[x], #[T]⟩,ty,pos,af,g⟩).run P w= .ok (.value (.tuple #[])) w':=by
  simp only[execOp,resolve,ha.ev hx,List.map_toArray,List.map_cons,List.map_nil,Sem.run_bind,Sem.run_pure,Result.andThen_ok,invoke,builtin,r1]
 rw[Oper.wp,hrun]
 exact hK () trivial w _ _ ha ⟨L1++L2,⟨L1,L2,Z,r2,hR.stable k3⟩,k2,k1⟩ (by simp)
end
section
variable {P:Program} {Q:Exit→Act→World→Prop} {n:Nat} {w0:World} {L0:List Nat} {fr:Fr} {H:List HP} {ops:Array Oper} {qt:Nat→Bool} {fuel:Nat} {listed:Array Bool}
end
end Go.Proofs.YthapcdhdfaibkaaGreatDoor

namespace Go.Proofs.YthapcdhdfaibkaaGreatDoor
open Go.RowKit
set_option linter.all false
def a0C (P:Program) (ops:Array Oper) (Q:Exit→Act→World→Prop) (R:World→World→Prop) (qt:Nat→Bool):Nat→Array Bool→Act→World→Prop
 |0,listed,a,w=>Region.ready .any ops listed=[]∧Q .normal a w
 |fuel+1,listed,a,w=>
  (Region.ready .any ops listed=[]→Q .normal a w)∧
  ∀i∈Region.ready .any ops listed,wpOp P ops Q i (λa' w'=>(qt i=true→R w w')∧a0C P ops Q R qt fuel (listed.setIfInBounds i true) a' w') a w
section
variable {P:Program} {Q:Exit→Act→World→Prop} {ops:Array Oper} {qt:Nat→Bool}
theorem b4h {R:World→World→Prop}:∀(fuel:Nat) (listed:Array Bool) (a:Act) (w:World),a0C P ops Q R qt fuel listed a w→wpAny P .any ops Q fuel listed a w
 |0,_,_,_,h=>h
 |fuel+1,_,_,_,h=>⟨h.1,λi hi=>wpOp_mono (λa' w' h'=>b4h fuel _ a' w' h'.2) (h.2 i hi)⟩
theorem b1c {R S:World→World→Prop} (hRr:∀w,R w w) (hSr:∀w,S w w) (hSt:∀a b c,S a b→S b c→S a c) {i:Nat} {oi:Oper} {v:Value} (hi:ops[i]? =some oi)
  (hsel:∀(j:Nat) (o:Oper) cs b,ops[j]? =some o→o.op≠ .select cs b)
  (hQ:∀c a w,Q (.panic c) (a.put oi.dst v) w→Q (.panic c) a w)
  (hq:(∀j,qt j=true∨a2t ops i ops.size j=true∨ops[j]? =none)∧(∀a b,R a b→S a b)∨ ∀a b,S a b):
  ∀(fuel:Nat) (listed:Array Bool) (a:Act) (w:World),a5Q ops listed→
   (∀j oj,ops[j]? =some oj→j≠i→listed.getD j true=false→(∀e∈oj.after,Region.binds .any e=true→e.on≠i)→oi.apart ops oj=true)→
   i∈Region.ready .any ops listed→Y0 P ops (S w) oi v a→
   a0C P ops Q R qt fuel (listed.setIfInBounds i true) (a.put oi.dst v) w→(qt i=true→R w w)→a0C P ops Q R qt (fuel+1) listed a w:=by
 intro fuel
 induction fuel with
 |zero=>
  intro listed a w _ _ hr hy H hE
  refine ⟨λh=>(by rw[h] at hr;cases hr),λj hj=>?_⟩
  by_cases hji:j=i
  ·subst hji;exact hy.wpOp hi (hSr w) ⟨hE,H⟩
  ·have:=ready_mono hj hji
   rw[H.1] at this
   cases this
 |succ fuel ih=>
  intro listed a w hd hfree hr hy H hE
  refine ⟨λh=>(by rw[h] at hr;cases hr),λj hj=>?_⟩
  by_cases hji:j=i
  ·subst hji;exact hy.wpOp hi (hSr w) ⟨hE,H⟩
  ·have h1:=H.2 j (ready_mono hj hji)
   obtain ⟨hjun,oj,hoj,hall⟩:=mem_ready.1 hj
   have hiun:=(mem_ready.1 hr).1
   have hnot:∀e∈oj.after,Region.binds .any e=true→e.on≠i:=λe he hb heq=>by
    have h1:=hall e he hb
    rw[heq] at h1
    rcases Nat.lt_or_ge i listed.size with h'|h'
    ·simp[h'] at hiun h1;rw[hiun] at h1;cases h1
    ·simp[Array.getElem?_eq_none h'] at h1
   have hS':∀w',(qt j=true→R w w')→S w w':=by
    rcases hq with ⟨hq1,hq2⟩|hq
    ·intro w' h
     rcases hq1 j with h'|h'|h'
     ·exact hq2 _ _ (h h')
     ·exact absurd hall (b1n hiun hd _ j h' oj hoj)
     ·rw[h'] at hoj;cases hoj
    ·intro w' _;exact hq _ _
   have h2:=b2S hoj (hfree j oj hoj hji hjun hnot) (λcs b=>hsel i oi cs b hi) (λcs b=>hsel j oj cs b hoj) hQ hy h1
   have hfree':∀k ok,ops[k]? =some ok→k≠i→(listed.setIfInBounds j true).getD k true=false→
     (∀e∈ok.after,Region.binds .any e=true→e.on≠i)→oi.apart ops ok=true:=λk ok hk hki hun hno=>by
    refine hfree k ok hk hki ?_ hno
    by_cases hjk:j=k
    ·subst hjk;exact hjun
    ·rw[getD_set_ne true hjk] at hun;exact hun
   refine wpOp_mono (λa' w' h3=>⟨h3.2.1,ih (listed.setIfInBounds j true) a' w' (hd.set hj) hfree' (ready_mono hr (Ne.symm hji)) (h3.1.sub λw'' hw=>hSt _ _ _ (hS' w' h3.2.1) hw) ?_ (λ_=>hRr w')⟩) h2
   rw[Array.setIfInBounds_comm _ _ hji]
   exact h3.2.2
end
structure Kp (w0:World) (L0:List Nat) (PB:List Nat) (w w':World):Prop where
 os:w'.os=w.os
 tape:w'.tape=w.tape
 output:w'.output=w.output
 size:w0.heap.size≤w.heap.size→w0.heap.size≤w'.heap.size
 keep:∀b,b<w0.heap.size→b∉L0→w'.heap[b]? =w.heap[b]?
 pb:∀b∈PB,w'.heap[b]? =w.heap[b]?
section
variable {w0:World} {L0 PB:List Nat}
theorem a6x (w:World):Kp w0 L0 PB w w:=⟨Z,Z,Z,id,λ_ _ _=>rfl,λ_ _=>rfl⟩
theorem Kp.trans {a b c:World} (h:Kp w0 L0 PB a b) (k:Kp w0 L0 PB b c):Kp w0 L0 PB a c:=
 ⟨k.os.trans h.os,k.tape.trans h.tape,k.output.trans h.output,λx=>k.size (h.size x),λi x y=>(k.keep i x y).trans (h.keep i x y),λi x=>(k.pb i x).trans (h.pb i x)⟩
def a3q (PB:List Nat) (H H':List HP):Prop:=∀b∈PB,∃T cs,pt b T cs∈H∧pt b T cs∈H'
theorem a3q.nil {H H':List HP}:a3q [] H H':=λb h=>by cases h
theorem a3q.cons {b:Nat} {T:TypeId} {cs:List Value} {H H':List HP} (h:pt b T cs∈H) (h':pt b T cs∈H') (k:a3q PB H H'):a3q (b::PB) H H':=λx hx=>by
 rcases List.mem_cons.1 hx with rfl|hx
 ·exact ⟨T,cs,h,h'⟩
 ·exact k x hx
class PtIn (b:Nat) (T:outParam TypeId) (cs:outParam (List Value)) (H:List HP):Prop where
 out:pt b T cs∈H
instance PtIn.tail {b:Nat} {T:TypeId} {cs:List Value} {X:HP} {H:List HP} [h:PtIn b T cs H]:PtIn b T cs (X::H):=⟨mS h.out⟩
instance PtIn.app {b:Nat} {T:TypeId} {cs:List Value} {A H:List HP} [h:PtIn b T cs H]:PtIn b T cs (A++H):=⟨List.mem_append.2 (.inr h.out)⟩
instance PtIn.head {b:Nat} {T:TypeId} {cs:List Value} {H:List HP}:PtIn b T cs (pt b T cs::H):=⟨m0⟩
class SameI (PB:List Nat) (H H':List HP):Prop where
 out:a3q PB H H'
instance SameI.nil {H H':List HP}:SameI [] H H':=⟨a3q.nil⟩
instance SameI.cons {b:Nat} {PB:List Nat} {T:TypeId} {cs:List Value} {H H':List HP} [h1:PtIn b T cs H] [h2:PtIn b T cs H'] [h3:SameI PB H H']:SameI (b::PB) H H':=⟨a3q.cons h1.out h2.out h3.out⟩
theorem c1m {H H':List HP} {w w':World} (h:Hp w0 L0 H w) (h':Hp w0 L0 H' w') (hs:a3q PB H H'):Kp w0 L0 PB w w':=by
 obtain ⟨L,hL⟩:=h.step
 obtain ⟨L',hL'⟩:=h'.step
 refine ⟨hL'.os.trans hL.os.symm,hL'.tape.trans hL.tape.symm,hL'.output.trans hL.output.symm,λ_=>hL'.size,λb h1 h2=>(hL'.keep b h1 h2).trans (hL.keep b h1 h2).symm,λb hb=>?_⟩
 obtain ⟨T,cs,m1,m2⟩:=hs b hb
 obtain ⟨_,_,h1⟩:=h.mem m1
 obtain ⟨_,_,h2⟩:=h'.mem m2
 rw[h1,h2]
def X7 (w0:World) (L0 PB:List Nat) (H:List HP) (b off:Nat) (cs:List Value):Prop:=∀w,Hp w0 L0 H w→∀w',Kp w0 L0 PB w w'→L9 w' b off cs
theorem X7.pt {H:List HP} {b:Nat} {T:TypeId} {cs:List Value} (hm:Go.Proofs.YthapcdhdfaibkaaGreatDoor.pt b T cs∈H) (hb:b∈PB):X7 w0 L0 PB H b 0 cs:=λw h w' hk=>by
 obtain ⟨L',_,h1⟩:=h.mem hm
 intro j v hj
 simp[World.cell?,hk.pb b hb,h1,hj]
theorem X7.ro {H:List HP} {b off:Nat} {cs:List Value} (h:∀H,Has w0 L0 H b off cs):X7 w0 L0 PB H b off cs:=λw hw w' hk=>by
 obtain ⟨L,hL⟩:=hw.step
 exact h [] w' ⟨[],Z,List.nodup_nil,⟨hk.os.trans hL.os,hk.tape.trans hL.tape,hk.output.trans hL.output,hk.size hL.size,λb h1 h2=>(hk.keep b h1 h2).trans (hL.keep b h1 h2),by simp⟩⟩
theorem X7.sub {H:List HP} {b off:Nat} {cs cs':List Value} (h:X7 w0 L0 PB H b off cs) (i:Nat) (he:(cs.drop i).take cs'.length=cs'):X7 w0 L0 PB H b (off+i) cs':=λw hw w' hk=>(h w hw w' hk).sub' i he
end
def YdK (P:Program) (n:Nat) (w0:World) (L0 PB:List Nat) (fr:Fr) (H:List HP) (op:Op) (v:Value):Prop:=
 ∀a w,Fr.ok n fr a→Hp w0 L0 H w→∀w',Kp w0 L0 PB w w'→∀d t p af g,(execOp a.eval ⟨d,op,t,p,af,g⟩).run P w'= .ok (.value v) w'
section
variable {P:Program} {Q:Exit→Act→World→Prop} {n:Nat} {w0:World} {L0 PB:List Nat} {fr:Fr} {H:List HP} {ops:Array Oper} {i:Nat} {qt:Nat→Bool} {fuel:Nat} {listed:Array Bool} {op:Op} {d:Nat} {ty:TypeId} {pos:String} {af:Array Edge} {g:Option (Nat×Bool)} {v:Value}
theorem W4 {x:Operand} {T:TypeId} {k:Nat} {z:List Value} {by':Nat} {b off:Nat} {v:Value} (ht:TyOk P T false k z by') (hx:ev fr x=some (.pointer (some ⟨b,off,none⟩)))
  (hc:X7 w0 L0 PB H b off [v]) (h1:k=1):YdK P n w0 L0 PB fr H (.load T x) v:=λa w ha hw w' hE d t p af g=>by
 simp[execOp,ha.ev hx,(hc w hw w' hE).run_load (v:=v) ht (by simp[h1]) (by simp) (λ_=>h1)]
theorem U3 {id:Nat} (PB:List Nat) (qt:Nat→Bool) (hm:P.follows .mixedOrders=true) (h:Ent n w0 L0 fr H (a0C P ops Q (Kp w0 L0 PB) qt ops.size (Array.replicate ops.size false))):
  Ent n w0 L0 fr H ((Code.region id ops true).wp P Q):=λa w h1 h2=>
 wp_region_any hm (b4h _ _ _ _ (h a _ h1 h2.drew))
theorem a1y (i:Nat) [hQ:NoPan Q] (ho:ops[i]? =some ⟨some d,op,ty,pos,af,g⟩) (hg:N6 ops fr g=some true) (hd:d<n) (hy:YdK P n w0 L0 PB fr H op v)
  (hk:Z0 ops qt false listed i=true)
  (h:Ent n w0 L0 ((d,v)::fr) H (a0C P ops Q (Kp w0 L0 PB) qt fuel (listed.setIfInBounds i true))):Ent n w0 L0 fr H (a0C P ops Q (Kp w0 L0 PB) qt (fuel+1) listed):=λa w h1 h2=>by
 simp only[Z0,Bool.and_eq_true,Bool.or_eq_true,Bool.false_eq_true,false_or] at hk
 obtain ⟨⟨⟨⟨k1,k2⟩,k3⟩,k4⟩,k5⟩:=hk
 refine b1c (S:=Kp w0 L0 PB) (oi:=⟨some d,op,ty,pos,af,g⟩) (v:=v) (λw=>a6x w) (λw=>a6x w) (λ_ _ _ h k=>h.trans k) ho (Region.noSelect_spec k1) (λc a w=>hQ.out c a _ _ w)
  (.inl ⟨b2N k5,λ_ _ h=>h⟩) fuel listed a w (a2f k4) (Region.free_spec ho k2) (by simpa using k3) (.inl ⟨Q8 (o:=⟨some d,op,ty,pos,af,g⟩) h1 hg,λw' hw=>hy a w h1 h2 w' hw _ _ _ _ _⟩) (h _ _ (h1.put hd v) h2) (λ_=>a6x w)
theorem C7 (i:Nat) [hQ:NoPan Q] (ho:ops[i]? =some ⟨some d,op,ty,pos,af,g⟩) (hg:N6 ops fr g=some true) (hd:d<n) (hy:Yp P n fr op v)
  (hk:Z0 ops qt true listed i=true)
  (h:Ent n w0 L0 ((d,v)::fr) H (a0C P ops Q (Kp w0 L0 PB) qt fuel (listed.setIfInBounds i true))):Ent n w0 L0 fr H (a0C P ops Q (Kp w0 L0 PB) qt (fuel+1) listed):=λa w h1 h2=>by
 simp only[Z0,Bool.and_eq_true,Bool.or_eq_true,true_or] at hk
 obtain ⟨⟨⟨⟨k1,k2⟩,k3⟩,k4⟩,_⟩:=hk
 refine b1c (S:=λ_ _=>True) (oi:=⟨some d,op,ty,pos,af,g⟩) (v:=v) (λw=>a6x w) (λw=>trivial) (λ_ _ _ _ _=>trivial) ho (Region.noSelect_spec k1) (λc a w=>hQ.out c a _ _ w)
  (.inr λ_ _=>trivial) fuel listed a w (a2f k4) (Region.free_spec ho k2) (by simpa using k3) (.inl ⟨Q8 (o:=⟨some d,op,ty,pos,af,g⟩) h1 hg,λw' _=>hy a h1 w' _ _ _ _ _⟩) (h _ _ (h1.put hd v) h2) (λ_=>a6x w)
theorem G7 (i:Nat) {dst:Option Tmp} {κ:Type} {fr':κ→Fr} {H':κ→List HP} {φ:κ→Prop} {q:Bool} (ho:ops[i]? =some ⟨dst,op,ty,pos,af,g⟩) (hg:N6 ops fr g=some true)
  (hr:Region.ready .any ops listed=[i]) (hqt:qt i=true→∀k,a3q PB H (H' k))
  (hn:Nop P Q n w0 L0 fr H ⟨dst,op,ty,pos,af,g⟩ q fr' H' φ) (h:∀k,φ k→Ent n w0 L0 (fr' k) (H' k) (a0C P ops Q (Kp w0 L0 PB) qt fuel (listed.setIfInBounds i true))):Ent n w0 L0 fr H (a0C P ops Q (Kp w0 L0 PB) qt (fuel+1) listed):=λa w h1 h2=>by
 refine ⟨λh=>absurd (hr▸h) (by simp),λj hj=>?_⟩
 rw[hr] at hj
 simp only[List.mem_singleton] at hj
 subst hj
 rw[wpOp]
 simp only[ho]
 rw[Q8 (o:=⟨dst,op,ty,pos,af,g⟩) h1 hg,if_pos Z]
 refine .inl (hn (λw1 a' w'=>(qt j=true→Kp w0 L0 PB w w')∧a0C P ops Q (Kp w0 L0 PB) qt fuel (listed.setIfInBounds j true) a' w') (λk hk w1 a' w' h3 h4 h5=>⟨λhq=>c1m h2 h4 (hqt hq k),h k hk a' w' h3 h4⟩) a w h1 h2)
theorem X4 (hr:Region.ready .any ops listed=[]) (h:Ent n w0 L0 fr H (Q .normal)):Ent n w0 L0 fr H (a0C P ops Q (Kp w0 L0 PB) qt fuel listed):=λa w h1 h2=>by
 cases fuel with
 |zero=>exact ⟨hr,h a w h1 h2⟩
 |succ f=>exact ⟨λ_=>h a w h1 h2,by rw[hr];simp⟩
def PkK (P:Program) (ops:Array Oper) (Q:Exit→Act→World→Prop) (R:World→World→Prop) (qt:Nat→Bool) (fuel:Nat) (listed:Array Bool) (i:Nat) (a:Act) (w:World):Prop:=
 wpOp P ops Q i (λa' w'=>(qt i=true→R w w')∧a0C P ops Q R qt fuel (listed.setIfInBounds i true) a' w') a w
theorem b3N {l:List Nat} {R:World→World→Prop} (hr:Region.ready .any ops listed=l) (h0:l≠[]) (h:∀x∈l,Ent n w0 L0 fr H (PkK P ops Q R qt fuel listed x)):Ent n w0 L0 fr H (a0C P ops Q R qt (fuel+1) listed):=λa w a1 a2=>
 ⟨λe=>absurd (hr.symm.trans e) h0,λx hx=>h x (hr▸hx) a w a1 a2⟩
theorem c3Y {i:Nat} {R:World→World→Prop} (hr:Region.ready .any ops listed=[i]) (h1:Ent n w0 L0 fr H (PkK P ops Q R qt fuel listed i)):Ent n w0 L0 fr H (a0C P ops Q R qt (fuel+1) listed):=
 b3N hr (by simp) (by simp only[List.mem_cons,List.not_mem_nil,or_false];rintro x rfl<;>assumption)
theorem B2 {i j:Nat} {R:World→World→Prop} (hr:Region.ready .any ops listed=[i,j]) (h1:Ent n w0 L0 fr H (PkK P ops Q R qt fuel listed i)) (h2:Ent n w0 L0 fr H (PkK P ops Q R qt fuel listed j)):Ent n w0 L0 fr H (a0C P ops Q R qt (fuel+1) listed):=
 b3N hr (by simp) (by simp only[List.mem_cons,List.not_mem_nil,or_false];rintro x (rfl|rfl)<;>assumption)
theorem a1N {i j l:Nat} {R:World→World→Prop} (hr:Region.ready .any ops listed=[i,j,l]) (h1:Ent n w0 L0 fr H (PkK P ops Q R qt fuel listed i)) (h2:Ent n w0 L0 fr H (PkK P ops Q R qt fuel listed j)) (h3:Ent n w0 L0 fr H (PkK P ops Q R qt fuel listed l)):Ent n w0 L0 fr H (a0C P ops Q R qt (fuel+1) listed):=
 b3N hr (by simp) (by simp only[List.mem_cons,List.not_mem_nil,or_false];rintro x (rfl|rfl|rfl)<;>assumption)
theorem b9u {i j l m:Nat} {R:World→World→Prop} (hr:Region.ready .any ops listed=[i,j,l,m]) (h1:Ent n w0 L0 fr H (PkK P ops Q R qt fuel listed i)) (h2:Ent n w0 L0 fr H (PkK P ops Q R qt fuel listed j)) (h3:Ent n w0 L0 fr H (PkK P ops Q R qt fuel listed l)) (h4:Ent n w0 L0 fr H (PkK P ops Q R qt fuel listed m)):Ent n w0 L0 fr H (a0C P ops Q R qt (fuel+1) listed):=
 b3N hr (by simp) (by simp only[List.mem_cons,List.not_mem_nil,or_false];rintro x (rfl|rfl|rfl|rfl)<;>assumption)
theorem J6 (i:Nat) {dst:Option Tmp} {κ:Type} {fr':κ→Fr} {H':κ→List HP} {φ:κ→Prop} {q:Bool} (ho:ops[i]? =some ⟨dst,op,ty,pos,af,g⟩) (hg:N6 ops fr g=some true) (hqt:qt i=true→∀k,a3q PB H (H' k))
  (hn:Nop P Q n w0 L0 fr H ⟨dst,op,ty,pos,af,g⟩ q fr' H' φ) (h:∀k,φ k→Ent n w0 L0 (fr' k) (H' k) (a0C P ops Q (Kp w0 L0 PB) qt fuel (listed.setIfInBounds i true))):Ent n w0 L0 fr H (PkK P ops Q (Kp w0 L0 PB) qt fuel listed i):=λa w h1 h2=>by
 rw[PkK,wpOp]
 simp only[ho]
 rw[Q8 (o:=⟨dst,op,ty,pos,af,g⟩) h1 hg,if_pos Z]
 exact .inl (hn (λw1 a' w'=>(qt i=true→Kp w0 L0 PB w w')∧a0C P ops Q (Kp w0 L0 PB) qt fuel (listed.setIfInBounds i true) a' w') (λk hk w1 a' w' h3 h4 h5=>⟨λhq=>c1m h2 h4 (hqt hq k),h k hk a' w' h3 h4⟩) a w h1 h2)
end
end Go.Proofs.YthapcdhdfaibkaaGreatDoor
