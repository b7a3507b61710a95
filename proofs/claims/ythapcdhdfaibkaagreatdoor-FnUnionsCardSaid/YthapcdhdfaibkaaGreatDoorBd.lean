import Derived.Test.YthapcdhdfaibkaaGreatDoorBc
import Derived.Lib.SlicesCompact
namespace Go.Proofs.YthapcdhdfaibkaaGreatDoor
open Go.RowKit
set_option linter.all false
def FnP2 {α:Type} (P:Program) (w:World) (L:List Nat) (g:FuncId) (caps:List Value) (E:Enc α) (val:List Value→Value) (p:α→α→Bool):Prop:=
 a5y P g∧∀w',Keep w L w'→∀cs x ds y,Ro w' [] E cs x→Ro w' [] E ds y→Calls P g (val cs::val ds::caps).toArray w' λe w''=>e= .returned (.bool (p x y))∧Ext w' w''
section
variable {P:Program} {α:Type} {E:Enc α} {w w0:World} {L L0 Lp:List Nat} {pre rest:List HP} {g:FuncId} {caps:List Value} {val:List Value→Value} {p:α→α→Bool}
end
section
variable {P:Program} {Q:Exit→Act→World→Prop} {n:Nat} {w0:World} {L0:List Nat} {fr:Fr} {H:List HP} {d:Nat} {ty:TypeId} {pos:String} {af:Array Edge} {g:Option (Nat×Bool)}
end
section
variable {P:Program} {w:World} {L:List Nat} {g:FuncId} {caps:List Value} {RR:World→List Nat→Prop}
theorem c4g {p:IL→IL→Bool} (tr:∀{x0:Int} {ax1:Option Addr} {mx1 cx1:Nat} {x1:List Int} {y0:Int} {ay1:Option Addr} {my1 cy1:Nat} {y1:List Int},Tr P g (.agg #[.int .i64 x0,.slice ax1 mx1 cx1]:: .agg #[.int .i64 y0,.slice ay1 my1 cy1]::caps) (λw L=>(I64 x0∧Ro w L eIs [.slice ax1 mx1 cx1] x1∧I64 y0∧Ro w L eIs [.slice ay1 my1 cy1] y1)∧RR w L) [] (κ:=Unit) (λ_=>True) (λ_=>.bool (p (x0,x1) (y0,y1))) (λ_=>[])) (hR:∀w',Keep w L w'→RR w' []):FnP2 P w L g caps I3 a1U p:=
 ⟨(tr (x0:=0) (x1:=[]) (ax1:=none) (mx1:=0) (cx1:=0) (y0:=0) (y1:=[]) (ay1:=none) (my1:=0) (cy1:=0)).1,λw' k cs x ds y hx hy=>by obtain ⟨a0,c0,rfl,h0,h1⟩:=U2 hx;obtain ⟨b0,e0,rfl,k0,k1⟩:=U2 hy;exact Tr.bool tr ⟨⟨h0,h1,k0,k1⟩,hR w' k⟩⟩
theorem c2O {p:IL→IL→Bool} (tr:∀{x0:Int} {ax1:Option Addr} {mx1 cx1:Nat} {x1:List Int} {y0:Int} {ay1:Option Addr} {my1 cy1:Nat} {y1:List Int},Tr P g (.agg #[.int .i64 x0,.slice ax1 mx1 cx1]:: .agg #[.int .i64 y0,.slice ay1 my1 cy1]::caps) (λw L=>(I64 x0∧Ro w L eIs [.slice ax1 mx1 cx1] x1∧I64 y0∧Ro w L eIs [.slice ay1 my1 cy1] y1)∧RR w L) [] (κ:=Unit) (λ_=>True) (λ_=>.bool (p (x0,x1) (y0,y1))) (λ_=>[])) (hR:∀w',Keep w L w'→RR w' []):FnP2 P w L g caps a0i a1U p:=
 ⟨(tr (x0:=0) (x1:=[]) (ax1:=none) (mx1:=0) (cx1:=0) (y0:=0) (y1:=[]) (ay1:=none) (my1:=0) (cy1:=0)).1,λw' k cs x ds y hx hy=>by obtain ⟨a0,c0,rfl,h0,h1⟩:=a1Z hx;obtain ⟨b0,e0,rfl,k0,k1⟩:=a1Z hy;exact Tr.bool tr ⟨⟨h0,h1,k0,k1⟩,hR w' k⟩⟩
theorem c4h {p:IL→IL→Bool} (tr:∀{x0:Int} {ax1:Option Addr} {mx1 cx1:Nat} {x1:List Int} {y0:Int} {ay1:Option Addr} {my1 cy1:Nat} {y1:List Int},Tr P g (.agg #[.int .i64 x0,.slice ax1 mx1 cx1]:: .agg #[.int .i64 y0,.slice ay1 my1 cy1]::caps) (λw L=>(I64 x0∧Ro w L eIs [.slice ax1 mx1 cx1] x1∧I64 y0∧Ro w L eIs [.slice ay1 my1 cy1] y1)∧RR w L) [] (κ:=Unit) (λ_=>True) (λ_=>.bool (p (x0,x1) (y0,y1))) (λ_=>[])) (hR:∀w',Keep w L w'→RR w' []):FnP2 P w L g caps W5 a1U p:=
 ⟨(tr (x0:=0) (x1:=[]) (ax1:=none) (mx1:=0) (cx1:=0) (y0:=0) (y1:=[]) (ay1:=none) (my1:=0) (cy1:=0)).1,λw' k cs x ds y hx hy=>by obtain ⟨a0,c0,rfl,h0,h1⟩:=L6 hx;obtain ⟨b0,e0,rfl,k0,k1⟩:=L6 hy;exact Tr.bool tr ⟨⟨h0,h1,k0,k1⟩,hR w' k⟩⟩
theorem c5i {p:List Int→List Int→Bool} (tr:∀{ax:Option Addr} {mx cx:Nat} {x:List Int} {ay:Option Addr} {my cy:Nat} {y:List Int},Tr P g (.slice ax mx cx:: .slice ay my cy::caps) (λw L=>(Ro w L eIs [.slice ax mx cx] x∧Ro w L eIs [.slice ay my cy] y)∧RR w L) [] (κ:=Unit) (λ_=>True) (λ_=>.bool (p x y)) (λ_=>[])) (hR:∀w',Keep w L w'→RR w' []):FnP2 P w L g caps eIs a7z p:=
 ⟨(tr (ax:=none) (mx:=0) (cx:=0) (x:=[]) (ay:=none) (my:=0) (cy:=0) (y:=[])).1,λw' k cs x ds y hx hy=>by obtain ⟨a,c,rfl⟩:=hx.sl;obtain ⟨b,e,rfl⟩:=hy.sl;exact (tr (x:=x) (y:=y)).bool ⟨⟨hx,hy⟩,hR w' k⟩⟩
end
end Go.Proofs.YthapcdhdfaibkaaGreatDoor

namespace Go.Proofs.YthapcdhdfaibkaaGreatDoor
open Go.RowKit
set_option linter.all false
def owd {α:Type} (e:TypeId) (E:Enc α) (a:Option Addr) (m c:Nat) (xs:List α) (j:Nat):HP where
 holds w L:=∃c1 c2 L1 L2,L=L1++L2∧m=xs.length∧m≤maxLen∧c1.length=j*E.k∧y8 E w c2 (xs.drop j) L2 true∧(row e E.k a m c (c1++c2)).holds w L1
 stable:=by
  rintro w w' L ⟨c1,c2,L1,L2,rfl,h1,h2,h3,h4,h5⟩ hb
  exact ⟨c1,c2,L1,L2,Z,h1,h2,h3,h4.stable λb h=>hb b (by simp[h]),(row e E.k a m c _).stable h5 λb h=>hb b (by simp[h])⟩
 inh:=by
  rintro w L ⟨c1,c2,L1,L2,rfl,h1,h2,h3,h4,h5⟩ b hb
  rcases List.mem_append.1 hb with hb|hb
  ·exact (row e E.k a m c _).inh h5 b hb
  ·exact h4.inh b hb
def owt {α:Type} (e:TypeId) (E:Enc α) (a:Option Addr) (m c:Nat) (xs:List α) (j:Nat) (ce:List Value):HP where
 holds w L:=∃c1 c2 L1 L2,L=L1++L2∧m=xs.length∧m≤maxLen∧j<xs.length∧ce.length=E.k∧c1.length=j*E.k∧y8 E w c2 (xs.drop (j+1)) L2 true∧(row e E.k a m c (c1++(ce++c2))).holds w L1
 stable:=by
  rintro w w' L ⟨c1,c2,L1,L2,rfl,h1,h2,h0,h6,h3,h4,h5⟩ hb
  exact ⟨c1,c2,L1,L2,Z,h1,h2,h0,h6,h3,h4.stable λb h=>hb b (by simp[h]),(row e E.k a m c _).stable h5 λb h=>hb b (by simp[h])⟩
 inh:=by
  rintro w L ⟨c1,c2,L1,L2,rfl,h1,h2,h0,h6,h3,h4,h5⟩ b hb
  rcases List.mem_append.1 hb with hb|hb
  ·exact (row e E.k a m c _).inh h5 b hb
  ·exact h4.inh b hb
section
variable {n:Nat} {w0:World} {L0:List Nat} {fr:Fr} {H R:List HP} {G:Act→World→Prop} {α:Type} {E:Enc α} {e:TypeId} {a:Option Addr} {m c:Nat} {xs:List α} {j:Nat}
theorem b2p (h:Ent n w0 L0 fr (owd e E a m c xs 0::R) G):Ent n w0 L0 fr (ow (Enc.sl e E) [.slice a m c] xs::R) G:=λac w h1 h2=>by
 obtain ⟨L,⟨Lo,LR,rfl,ho,hR⟩,hn,hst⟩:=h2
 obtain ⟨ccs,L1,L2,rfl,g1,g2,g3,g4⟩:=a0V ho
 exact h ac w h1 ⟨(L1++L2)++LR,⟨L1++L2,LR,Z,⟨[],ccs,L1,L2,Z,g1,g2,by simp,g3,g4⟩,hR⟩,hn,hst⟩
theorem b2m (hj:j<xs.length) (h:∀ce,Ent n w0 L0 fr (owt e E a m c xs j ce::ow E ce xs[j]::R) G):Ent n w0 L0 fr (owd e E a m c xs j::R) G:=λac w h1 h2=>by
 obtain ⟨L,⟨Lo,LR,rfl,⟨c1,c2,L1,L2,rfl,g1,g2,g3,g4,g5⟩,hR⟩,hn,hst⟩:=h2
 rw[List.drop_eq_getElem_cons hj] at g4
 obtain ⟨d1,d2,N1,N2,rfl,rfl,k1,k2⟩:=g4
 have hperm:(L1++(N1++N2)++LR).Perm ((L1++N2)++(N1++LR)):=by
  simp only[List.append_assoc]
  refine List.Perm.append_left L1 ?_
  rw[←List.append_assoc, ←List.append_assoc]
  exact (List.perm_append_comm).append_right LR
 exact h d1 ac w h1 ⟨(L1++N2)++(N1++LR),⟨_,_,Z,⟨c1,d2,L1,N2,Z,g1,g2,hj,E.len k1,g3,k2,g5⟩,N1,LR,Z,k1,hR⟩,hperm.nodup_iff.1 hn,hst.sublist λb hb=>hperm.mem_iff.2 hb⟩
theorem a6v {ce:List Value} (h:Ent n w0 L0 fr (owd e E a m c xs (j+1)::R) G):Ent n w0 L0 fr (owt e E a m c xs j ce::R) G:=λac w h1 h2=>by
 obtain ⟨L,⟨Lo,LR,rfl,⟨c1,c2,L1,L2,rfl,g1,g2,g0,g6,g3,g4,g5⟩,hR⟩,hn,hst⟩:=h2
 exact h ac w h1 ⟨(L1++L2)++LR,⟨L1++L2,LR,Z,⟨c1++ce,c2,L1,L2,Z,g1,g2,by rw[List.length_append,g3,g6,Nat.succ_mul],g4,by rw[List.append_assoc];exact g5⟩,hR⟩,hn,hst⟩
theorem c2C {cs:List Value} (h:∀(a:Option Addr) (m c:Nat),cs=[.slice a m c]→m=xs.length→Ent n w0 L0 fr (ow (Enc.sl e E) [.slice a m c] xs::R) G):Ent n w0 L0 fr (ow (Enc.sl e E) cs xs::R) G:=λac w h1 h2=>by
 obtain ⟨L,⟨Lx,LR,rfl,hx,hR⟩,hn,hst⟩:=h2
 obtain ⟨a,m,c,ccs,L1,L2,rfl,hm,hx2⟩:=id hx
 exact h a m c Z hm ac w h1 ⟨Lx++LR,⟨Lx,LR,Z,hx,hR⟩,hn,hst⟩
theorem Has.owt {ce:List Value} {b o:Nat} (ha:a=some ⟨b,o,none⟩) (hm:Go.Proofs.YthapcdhdfaibkaaGreatDoor.owt e E a m c xs j ce∈H):Has w0 L0 H b (o+j*E.k) ce:=λw h=>by
 obtain ⟨L',c1,c2,L1,L2,_,g1,g2,hj,g6,g3,g4,h0,g8⟩:=h.mem hm
 rcases g8 with ⟨_,h,_⟩|⟨g',cur,h2,h3,h4,h5,h6,h7,_⟩
 ·omega
 rw[ha] at h2;cases h2
 intro i v hi
 have hi':(c1++(ce++c2))[j*E.k+i]? =some v:=by
  rw[←g3,List.getElem?_append_right (by omega),show c1.length+i-c1.length=i from by omega]
  rw[List.getElem?_append_left (by exact (List.getElem?_eq_some_iff.1 hi).1)];exact hi
 rw[←h7,List.getElem?_take] at hi'
 split at hi'
 ·simpa[World.cell?,h3] using hi'
 ·cases hi'
theorem b0y (hm:owd e E a m c xs j∈H) (hlt:0<m) (h:∀b,a=some ⟨b,0,none⟩→Ent n w0 L0 fr H G):Ent n w0 L0 fr H G:=λac w h1 h2=>by
 obtain ⟨L,hL⟩:=h2.mem hm
 obtain ⟨c1,c2,L1,L2,_,g1,g2,_,_,g4⟩:=hL
 rcases g4.2 with ⟨_,h0,_⟩|⟨g,cur,h3,_⟩
 ·omega
 ·exact h g h3 ac w h1 h2
end
theorem a0G.has {w1 w0:World} {L1 L0:List Nat} {b off:Nat} {cs:List Value} (h:a0G w1 L1 w0 L0) (k:∀H,Has w0 L0 H b off cs):∀H,Has w1 L1 H b off cs:=λH w hw=>k H w (h H w hw)
theorem frB {a b:Bool} (h:a=b):some (Value.bool a)=some (Value.bool b):=by rw[h]
end Go.Proofs.YthapcdhdfaibkaaGreatDoor

namespace Go.Proofs.YthapcdhdfaibkaaGreatDoor
set_option linter.all false
def S2 (a b:Int):Int:=if a<b then-1 else if b<a then 1 else 0
def I7:List Int→List Int→Int
 |[],[]=>0
 |[],_::_=>-1
 |_::_,[]=>1
 |a::l,b::m=>if S2 a b≠0 then S2 a b else I7 l m
def orI:List Int→Int
 |[]=>0
 |x::l=>if x≠0 then x else orI l
def R3 (a b:IL):Int:=if S2 a.1 b.1≠0 then S2 a.1 b.1 else I7 a.2 b.2
theorem b4A {a b:Int}:I64 (S2 a b):=by unfold S2 I64;split;omega;split<;>omega
theorem b4y:∀{l m:List Int},I64 (I7 l m)
 |[],[]=>by unfold I7 I64;omega
 |[],_::_=>by unfold I7 I64;omega
 |_::_,[]=>by unfold I7 I64;omega
 |a::l,b::m=>by unfold I7;split;exact b4A;exact b4y
theorem b2y {a b:Int}:S2 a b=0↔a=b:=by unfold S2;grind
theorem a5o:∀{l m:List Int},I7 l m=0↔l=m
 |[],[]=>by simp[I7]
 |[],_::_=>by simp[I7]
 |_::_,[]=>by simp[I7]
 |a::l,b::m=>by
  have:=b2y (a:=a) (b:=b)
  have h2:=a5o (l:=l) (m:=m)
  unfold I7;grind
theorem a4h {a b:IL}:R3 a b=0↔a=b:=by
 have h1:=b2y (a:=a.1) (b:=b.1)
 have h2:=a5o (l:=a.2) (m:=b.2)
 unfold R3
 rcases a with ⟨a1,a2⟩;rcases b with ⟨b1,b2⟩
 grind
def eqP {α:Type} (p:α→α→Bool):List α→List α→Bool
 |[],[]=>true
 |a::l,b::m=>p a b&&eqP p l m
 |_,_=>false
end Go.Proofs.YthapcdhdfaibkaaGreatDoor

namespace Go.Proofs.YthapcdhdfaibkaaGreatDoor
set_option linter.all false
def O5 (l:List IL) (f:IL):Bool:=l.any λz=>decide (R3 z f=0)
def R2 (a:IL) (b:List Int×List Int):IL:=(a.1,a.2.map (y9 b))
def c6D (q:List Int×List IL) (d6:List IL) (head:List Int) (b:List Int×List Int):Bool:=
 decide (b.1.length=b.2.length)&&(decide (q.1.map (y9 b)=head)&& !q.2.any λa=> !O5 d6 (R2 a b))
theorem Ro.i64A {w:World} {L:List Nat} {e:TypeId} {a:Option Addr} {m c:Nat} {xs:List IL} (h:Ro w L (Enc.sl e (Enc.pair Enc.int (Enc.sl tI Enc.int))) [.slice a m c] xs):∀x∈xs,I64 x.1∧∀y∈x.2,I64 y:=by
 intro x hx
 obtain ⟨i,hi,rfl⟩:=List.getElem_of_mem hx
 obtain ⟨_,_,ci,_,h1,_⟩:=h.elem i hi
 obtain ⟨c1,c2,rfl,h2,h3⟩:=h1.pair
 obtain ⟨a',c',rfl⟩:=h3.sl
 exact ⟨h2.int.2,h3.i64⟩
theorem c1Y {α:Type} {t:α→Nat} {l:List α} {n:Nat} (h:D8 t l≤n):∀x∈l,t x≤n:=by
 intro x hx
 obtain ⟨i,hi,rfl⟩:=List.getElem_of_mem hx
 exact Nat.le_trans (b9J hi) h
theorem a7N {l:List IL} {n:Nat} (h:D8 (λx=>x.2.length) l≤n):∀x∈l,x.2.length≤n:=c1Y h
end Go.Proofs.YthapcdhdfaibkaaGreatDoor

namespace Go.Proofs.YthapcdhdfaibkaaGreatDoor
set_option linter.all false
def E8 {α:Type} (r:α→α→Bool):List α→Bool
 |a::b::l=>r a b&&E8 r (b::l)
 |_=>true
theorem b8e {α:Type} {l:List α} {g:Nat} (h:g<l.length) (h0:0<g):l.drop (g-1)=l[g-1]::l[g]::l.drop (g+1):=by
 rw[List.drop_eq_getElem_cons (by omega),show g-1+1=g by omega,List.drop_eq_getElem_cons h]
def ltB (a b:Int):Bool:=decide (a<b)
theorem I2 {α:Type} {r:α→α→Bool} {l:List α} {g:Nat} (h:g<l.length) (h0:0<g):E8 r (l.drop (g-1))=(r l[g-1] l[g]&&E8 r (l.drop g)):=by
 rw[b8e h h0,E8, ←List.drop_eq_getElem_cons h]
theorem I4 {α:Type} {r:α→α→Bool} {l:List α} {g:Nat} (h:g=0):E8 r (l.drop (g-1))=E8 r (l.drop g):=by subst h;rfl
theorem K0 {α:Type} {r:α→α→Bool} {l:List α} {g:Nat} (h:l.length≤g):E8 r (l.drop (g-1))=true:=by
 have:(l.drop (g-1)).length≤1:=by simp;omega
 match l.drop (g-1),this with
 |[],_=>rfl
 |[x],_=>rfl
 |x::y::z,h=>simp at h
def a0X (m:Int×List Int×Int×Int×Int) (ar:Int):Bool:=
 E8 ltB m.2.1&&(Y9 m.2.1 ar&&(inR m.2.2.1 0 9&&(inR m.2.2.2.1 0 99&&inR m.2.2.2.2 1 99)))
def S4 (s:List Int) (m:Int×List Int×Int×Int×Int):Bool:=N8 s m.1&&a0X m (at0 s m.1)
def C5 (s:List Int) (l:List (Int×List Int×Int×Int×Int)):Bool:=Q4 s&&(decide ((l.length:Int)≤5)&& !l.any λm=> !S4 s m)
def a8N (v:List Int):Bool:=E8 ltB v&&S3 v
def a2k (l:List IL) (a:IL):Bool:=l.any λz=>decide (z=a)
def K8 (N5:List Int):Nat→List (List Int)
 |0=>[[]]
 |n+1=>(K8 N5 n).flatMap λl=>N5.map λv=>l++[v]
def R5 (N5:List Int) (log:List IL) (i:Int) (k:Nat):List IL:=
 ((K8 N5 k).filter λv=> !a2k log (i,v)).map λv=>(i,v)
def Q7 (N5:List Int) (log:List IL):List (Int×List Int×Int×Int×Int)→Int→List IL
 |[],_=>[]
 |m::l,i=>(if m.2.2.1≠0 then [] else R5 N5 log i m.2.1.length)++Q7 N5 log l (i+1)
def S1 (s:List Int) (l:List (Int×List Int×Int×Int×Int)) (N5:List Int) (log:List IL):List IL:=
 if C5 s l&&a8N N5 then Q7 N5 log l 0 else []
theorem b3d:∀{l:List Int} {a b:Int},E8 ltB l=true→(∀x∈l,a≤x∧x≤b)→a≤b+1→(l.length:Int)≤b-a+1
 |[],_,_,_,_,_=>by simp;omega
 |[x],a,b,_,h,_=>by have:=h x (by simp);simp;omega
 |x::y::l,a,b,hc,h,hab=>by
  simp only[E8,ltB,Bool.and_eq_true,decide_eq_true_eq] at hc
  have hx:=h x (by simp)
  have hge:∀z∈y::l,x+1≤z:=by
   have:∀{l:List Int} {y:Int},E8 ltB (y::l)=true→∀z∈y::l,y≤z:=by
    intro l
    induction l with
    |nil=>intro y _ z hz;simp at hz;omega
    |cons u l ih=>
     intro y hc z hz
     simp only[E8,ltB,Bool.and_eq_true,decide_eq_true_eq] at hc
     rcases List.mem_cons.1 hz with rfl|hz
     ·omega
     ·have:=ih hc.2 z hz;omega
   intro z hz
   have:=this hc.2 z hz;omega
  have:=b3d (l:=y::l) (a:=x+1) (b:=b) hc.2 (λz hz=>⟨hge z hz,(h z (by simp only[List.mem_cons] at hz ⊢;exact .inr hz)).2⟩) (by omega)
  simp only[List.length_cons] at this ⊢;omega
theorem b7B {s:List Int} {m:Int×List Int×Int×Int×Int} (h:S4 s m=true):m.2.1.length≤3:=by
 simp only[S4,a0X,Y9,Bool.and_eq_true,Bool.not_eq_true',List.any_eq_false] at h
 have h1:=a0R h.1
 have:=b3d (a:=0) (b:=at0 s m.1-1) h.2.1 (λx hx=>by have:=h.2.2.1 x hx;simpa[inR] using this) (by simp only[at0];omega)
 simp only[at0] at this;omega
theorem a0k {s:List Int} {l:List (Int×List Int×Int×Int×Int)} (h:C5 s l=true):(∀m∈l,m.2.1.length≤3)∧l.length≤5:=by
 simp only[C5,Bool.and_eq_true,Bool.not_eq_true',List.any_eq_false,decide_eq_true_eq] at h
 refine ⟨λm hm=>b7B (s:=s) ?_,by omega⟩
 have:=h.2.2 m hm
 simpa using this
theorem a5e {α:Type} {c:α→Nat} {n:Nat}:∀{l:List α},(∀x∈l,c x≤n)→E7 c l≤l.length*n
 |[],_=>by simp[E7]
 |x::l,h=>by
  have h1:=a5e (c:=c) (n:=n) (l:=l) λy hy=>h y (by simp[hy])
  have h2:=h x (by simp)
  simp only[E7,List.map_cons,List.sum_cons,List.length_cons,Nat.succ_mul] at h1 ⊢;omega
end Go.Proofs.YthapcdhdfaibkaaGreatDoor

namespace Go.Proofs.YthapcdhdfaibkaaGreatDoor
set_option linter.all false
def P4 {α:Type} (p:α→Bool) (f:α):List α→List α
 |[]=>[]
 |x::l=>if p x then f::x::l else x::P4 p f l
def W2 {α:Type} (has:Bool) (p:α→Bool) (f:α) (l:List α):List α:=if has then l else if l.any p then P4 p f l else l++[f]
section
variable {α:Type} {p q:α→Bool} {f:α}
theorem a0q:∀{l:List α},l.any p=false→P4 p f l=l
 |[],_=>rfl
 |x::l,h=>by
  simp only[List.any_cons,Bool.or_eq_false_iff] at h
  simp[P4,h.1,a0q h.2]
theorem X1:∀{l:List α} {y:α},P4 p f (l++[y])=if l.any p then P4 p f l++[y] else if p y then l++[f,y] else l++[y]
 |[],y=>by simp[P4]
 |x::l,y=>by
  have h:=X1 (l:=l) (y:=y)
  simp only[List.cons_append,P4,List.any_cons,h]
  cases p x<;>cases l.any p<;>cases p y<;>simp
theorem a6y:∀{l:List α},(P4 p f l).length≤l.length+1
 |[]=>by simp[P4]
 |x::l=>by
  have:=a6y (l:=l)
  simp only[P4];split<;>simp<;>omega
theorem a3M {h:Bool} {l:List α}:(W2 h p f l).length≤l.length+1:=by
 have:=a6y (p:=p) (f:=f) (l:=l)
 unfold W2;split;omega;split;omega;simp
theorem a3Q {h:Bool} {l:List α} {y:α} (hy:y∈W2 h p f l):y∈l∨y=f:=by
 have ins:∀{l:List α},y∈P4 p f l→y∈l∨y=f:=by
  intro l
  induction l with
  |nil=>simp[P4]
  |cons x l ih=>
   intro h
   simp only[P4] at h
   split at h
   ·simp only[List.mem_cons] at h ⊢;rcases h with h|h|h<;>simp[h]
   ·simp only[List.mem_cons] at h ⊢
    rcases h with h|h
    ·simp[h]
    ·rcases ih h with h|h<;>simp[h]
 unfold W2 at hy
 split at hy
 ·exact .inl hy
 ·split at hy
  ·exact ins hy
  ·simpa using hy
theorem b4m {l:List α} (hpq:∀y∈l,p y=q y):W2 false p f l=l.take (if J0 q l<0 then l.length else (J0 q l).toNat)++f::l.drop (if J0 q l<0 then l.length else (J0 q l).toNat):=by
 have ha:l.any p=l.any q:=by
  induction l with
  |nil=>rfl
  |cons x l ih=>simp[List.any_cons,hpq x (by simp),ih λy hy=>hpq y (by simp[hy])]
 unfold W2 J0
 rw[ha]
 by_cases h:l.any q=true
 ·simp only[h,if_true,Bool.false_eq_true,if_false]
  rw[if_neg (by omega),Int.toNat_natCast]
  clear ha
  induction l with
  |nil=>simp at h
  |cons x l ih=>
   simp only[P4,List.findIdx_cons,hpq x (by simp)]
   cases hq:q x with
   |true=>simp
   |false=>
    simp only[List.any_cons,hq,Bool.false_or] at h
    simp[ih (λy hy=>hpq y (by simp[hy])) h]
 ·simp[h]
end
def H6 (l:List Int) (x:Int):Bool:=l.any λy=>decide (y=x)
def O9 (l:List Int) (x:Int):List Int:=W2 (H6 l x) (λy=>decide (x<y)) x l
def W0 (l:List Int):List Int:=l.foldl O9 []
theorem b6I:∀{a b:List Int},a.Pairwise (· < ·)→b.Pairwise (· < ·)→(∀x,x∈a↔x∈b)→a=b
 |[],[],_,_,_=>rfl
 |[],y::b,_,_,h=>by have:=(h y).2 (by simp);simp at this
 |x::a,[],_,_,h=>by have:=(h x).1 (by simp);simp at this
 |x::a,y::b,ha,hb,h=>by
  rw[List.pairwise_cons] at ha hb
  have e:x=y:=by
   have h1:=(h x).1 (by simp)
   have h2:=(h y).2 (by simp)
   simp only[List.mem_cons] at h1 h2
   rcases h1 with h1|h1
   ·exact h1
   ·rcases h2 with h2|h2
    ·exact h2.symm
    ·have:=hb.1 x h1;have:=ha.1 y h2;omega
  subst e
  rw[b6I ha.2 hb.2 λz=>?_]
  have:=h z
  simp only[List.mem_cons] at this
  constructor
  ·intro hz
   rcases this.1 (.inr hz) with e|e
   ·have:=ha.1 z hz;omega
   ·exact e
  ·intro hz
   rcases this.2 (.inr hz) with e|e
   ·have:=hb.1 z hz;omega
   ·exact e
theorem b8C {l:List Int} {x:Int} (h:l.Pairwise (· < ·)):(O9 l x).Pairwise (· < ·)∧∀y,y∈O9 l x↔y∈l∨y=x:=by
 have ins:∀{l:List Int},l.Pairwise (· < ·)→x∉l→(if (l.any λy=>decide (x<y)) then P4 (λy=>decide (x<y)) x l else l++[x]).Pairwise (· < ·)∧∀y,y∈(if (l.any λy=>decide (x<y)) then P4 (λy=>decide (x<y)) x l else l++[x])↔y∈l∨y=x:=by
  intro l
  induction l with
  |nil=>intro _ _;simp
  |cons z l ih=>
   intro h hx
   rw[List.pairwise_cons] at h
   simp only[List.mem_cons,not_or] at hx
   have ih':=ih h.2 hx.2
   by_cases hz:x<z
   ·simp only[List.any_cons,hz,decide_true,Bool.true_or,if_true,P4]
    refine ⟨?_,λy=>by simp only[List.mem_cons];constructor<;>(intro h;rcases h with h|h|h)<;>simp[h]⟩
    rw[List.pairwise_cons,List.pairwise_cons]
    refine ⟨λy hy=>?_,h⟩
    simp only[List.mem_cons] at hy
    rcases hy with rfl|hy
    ·exact hz
    ·have:=h.1 y hy;omega
   ·simp only[List.any_cons,hz,decide_false,Bool.false_or,P4,Bool.false_eq_true,if_false]
    have e:(if (l.any λy=>decide (x<y)) then z::P4 (λy=>decide (x<y)) x l else z::l++[x])=z::(if (l.any λy=>decide (x<y)) then P4 (λy=>decide (x<y)) x l else l++[x]):=by split<;>simp
    rw[e]
    refine ⟨?_,λy=>by rw[List.mem_cons,ih'.2 y,List.mem_cons,or_assoc]⟩
    rw[List.pairwise_cons]
    refine ⟨λy hy=>?_,ih'.1⟩
    rcases (ih'.2 y).1 hy with hy|rfl
    ·exact h.1 y hy
    ·omega
 unfold O9 W2 H6
 by_cases hx:x∈l
 ·have:(l.any λy=>decide (y=x))=true:=List.any_eq_true.2 ⟨x,hx,by simp⟩
  rw[if_pos this]
  exact ⟨h,λy=>⟨.inl,λe=>by rcases e with e|rfl;exact e;exact hx⟩⟩
 ·have:¬(l.any λy=>decide (y=x))=true:=λe=>by
   obtain ⟨y,hy,e⟩:=List.any_eq_true.1 e
   simp at e;subst e;exact hx hy
  rw[if_neg this]
  exact ins h hx
theorem a3n:∀{l s:List Int},s.Pairwise (· < ·)→(l.foldl O9 s).Pairwise (· < ·)∧∀y,y∈l.foldl O9 s↔y∈s∨y∈l
 |[],s,h=>⟨h,by simp⟩
 |x::l,s,h=>by
  have h1:=b8C (x:=x) h
  have h2:=a3n (l:=l) h1.1
  refine ⟨h2.1,λy=>?_⟩
  rw[List.foldl_cons,h2.2 y,h1.2 y,List.mem_cons,or_assoc]
theorem b9N {l:List Int}:(W0 l).Pairwise (· < ·):=(a3n .nil).1
theorem a4Y {l:List Int} {y:Int}:y∈W0 l↔y∈l:=by rw[W0,(a3n .nil).2 y];simp
theorem b0m {l:List Int}:(W0 l).length≤l.length:=by
 have:∀{l s:List Int},(l.foldl O9 s).length≤s.length+l.length:=by
  intro l
  induction l with
  |nil=>intro s;simp
  |cons x l ih=>intro s;have:=ih (s:=O9 s x);have h2:=a3M (h:=H6 s x) (p:=λy=>decide (x<y)) (f:=x) (l:=s);simp only[List.foldl_cons,List.length_cons];unfold O9 at *;omega
 have h:=this (l:=l) (s:=[])
 simpa[W0] using h
theorem b1Z {d:List Int} (hd:d.Pairwise (· ≤ ·)):(Lib.compact d).Pairwise (· < ·)∧∀y,y∈Lib.compact d↔y∈d:=by
 have hle:∀i j,(hij:i≤j)→(hj:j<d.length)→d[i]'(by omega)≤d[j]'hj:=by
  intro i j hij hj
  rcases Nat.lt_or_eq_of_le hij with h|h
  ·exact List.pairwise_iff_getElem.1 hd i j (by omega) hj h
  ·subst h;exact Int.le_refl _
 have hget:∀i,(h:i<d.length)→d.toArray[i]! =d[i]:=by intro i h;simp[h]
 have key:∀m,m≤d.length→(Lib.compactUpTo d.toArray m).Pairwise (· < ·)∧∀y,y∈Lib.compactUpTo d.toArray m↔y∈d.take m:=by
  intro m
  induction m with
  |zero=>intro _;simp[Lib.compactUpTo]
  |succ m ih=>
   intro hm
   obtain ⟨h1,h2⟩:=ih (by omega)
   have hmem:∀y,y∈d.take (m+1)↔y∈d.take m∨y=d[m]:=by
    intro y;rw[List.take_succ_eq_append_getElem (show m<d.length by omega),List.mem_append,List.mem_singleton]
   rw[Lib.compactUpTo_succ,hget m (by omega)]
   by_cases hk:Lib.keeps d.toArray m=true
   ·rw[if_pos hk]
    refine ⟨List.pairwise_append.2 ⟨h1,by simp,λa ha b hb=>?_⟩,λy=>by rw[List.mem_append,h2 y,hmem y];simp⟩
    simp only[List.mem_singleton] at hb
    subst hb
    rw[h2 a,List.mem_take_iff_getElem] at ha
    obtain ⟨i,hi,rfl⟩:=ha
    have hi':i<m:=by omega
    have e1:=hle i (m-1) (by omega) (by omega)
    have e2:=hle (m-1) m (by omega) (by omega)
    have e3:d[m-1]'(by omega)≠d[m]:=by
     intro e
     have:=Lib.keeps_neg (d:=d.toArray) (m:=m) (by omega) (by rw[hget m (by omega),hget (m-1) (by omega),e])
     rw[this] at hk;cases hk
    omega
   ·rw[if_neg hk,List.append_nil]
    refine ⟨h1,λy=>?_⟩
    rw[h2 y,hmem y]
    refine ⟨.inl,λh=>h.elim id ?_⟩
    rintro rfl
    have h0:0<m:=by
     rcases Nat.eq_zero_or_pos m with e|e
     ·subst e;exact absurd (Lib.keeps_lt_one d.toArray 0 (by omega)) hk
     ·exact e
    have e3:d[m-1]'(by omega)=d[m]:=by
     refine Classical.byContradiction λe=>hk (Lib.keeps_pos ?_)
     rw[hget m (by omega),hget (m-1) (by omega)]
     exact λe'=>e e'.symm
    rw[List.mem_take_iff_getElem]
    exact ⟨m-1,by omega,e3⟩
 have:=key d.length (Nat.le_refl _)
 simpa[Lib.compact] using this
theorem a1I {l:List Int}:Lib.compact (l.mergeSort λx y=>decide (x≤y))=W0 l:=by
 have hs:(l.mergeSort λx y=>decide (x≤y)).Pairwise (· ≤ ·):=by
  have:=List.pairwise_mergeSort (le:=λx y:Int=>decide (x≤y)) (by intro a b c;simp only[decide_eq_true_eq];omega) (by intro a b;simp only[Bool.or_eq_true,decide_eq_true_eq];omega) l
  exact this.imp λh=>by simpa using h
 have h:=b1Z hs
 refine b6I h.1 b9N λx=>?_
 rw[h.2 x,a4Y]
 exact (List.mergeSort_perm l _).mem_iff
end Go.Proofs.YthapcdhdfaibkaaGreatDoor

namespace Go.Proofs.YthapcdhdfaibkaaGreatDoor
set_option linter.all false
theorem c1r {P:Program} {f:FuncId} {args:List Value} {RR RR':World→List Nat→Prop} {pre:List HP} {κ:Type} {φ:κ→Prop} {ret:κ→Value} {post:κ→List HP} (h:Tr P f args RR pre φ ret post) (hR:∀w L,RR' w L→RR w L):Tr P f args RR' pre φ ret post:=
 ⟨h.1,λw L hr hs hn=>h.2 w L (hR w L hr) hs hn⟩
theorem a0j {l m:List Int}:W0 (l++m)=m.foldl O9 (W0 l):=by unfold W0;rw[List.foldl_append]
theorem Y3 {l:List Int} {x:Int}:W0 (l++[x])=O9 (W0 l) x:=by rw[a0j];rfl
theorem a0y {l:List Int} {x:Int}:H6 l x=true↔x∈l:=by
 unfold H6
 rw[List.any_eq_true]
 constructor
 ·rintro ⟨y,hy,e⟩;simp at e;subst e;exact hy
 ·intro h;exact ⟨x,h,by simp⟩
def k7 (is:Int→Bool) (d7:List IL):List Int:=W0 ((d7.flatMap λa=>a.2).filter is)
theorem b0e:∀{l:List IL},(l.flatMap λa=>a.2).length=E7 (λx=>x.2.length) l
 |[]=>rfl
 |a::l=>by simp only[List.flatMap_cons,List.length_append,b0e (l:=l),E7,List.map_cons,List.sum_cons]
theorem b8Y {is:Int→Bool} {d7:List IL} {g:Nat} (hz:D8 (λx=>x.2.length) d7≤1048576):(((d7.take g).flatMap λa=>a.2).filter is).length≤1048576:=by
 have h1:=List.length_filter_le is ((d7.take g).flatMap λa=>a.2)
 have h2:=b1B (t:=λx:IL=>x.2.length) (l:=d7) (g:=g)
 rw[b0e] at h1
 unfold D8 at hz;omega
theorem a6S {is:Int→Bool} {d7:List IL} {g h:Nat} (hz:D8 (λx=>x.2.length) d7≤1048576) (hg:g<d7.length):(((d7.take g).flatMap λa=>a.2).filter is++(d7[g].2.take h).filter is).length≤1048576:=by
 have h1:=List.length_filter_le is ((d7.take g).flatMap λa=>a.2)
 have h2:=b1B (t:=λx:IL=>x.2.length) (l:=d7) (g:=g+1)
 have h3:=List.length_filter_le is (d7[g].2.take h)
 have h4:=List.length_take_le' h d7[g].2
 rw[b2P hg] at h2
 rw[b0e] at h1
 rw[List.length_append]
 unfold D8 at hz;omega
def K7 (t:Int):Bool:=inR t 0 9||inR t 10 17
def P1 (s:List Int) (a:IL):Bool:=N8 s a.1&&(decide ((a.2.length:Int)=at0 s a.1)&& !a.2.any λt=> !K7 t)
def T7 (q:List Int×List IL):Bool:=decide ((q.1.length:Int)≤3)&& !q.1.any λt=> !H6 (k7 (λt=>inR t 10 17) q.2) t
def w7 (s:List Int) (q:List Int×List IL):Bool:=Q4 s&&(inR (q.2.length:Int) 1 4&&((!q.2.any λa=> !P1 s a)&&T7 q))
def a2z (s:List Int) (u:List (List Int×List IL)) (q:List Int×List IL):Bool:= !w7 s q||decide ((q.1.length:Int)≠((u.getD 0 ([],[])).1.length:Int))
def F9 (s:List Int) (u:List (List Int×List IL)):Bool:=inR (u.length:Int) 1 3&& !u.any (a2z s u)
theorem a8O {s:List Int} {u:List (List Int×List IL)} (h:Q4 s=false):F9 s u=false:=by
 cases u with
 |nil=>simp[F9,inR]
 |cons q u=>simp[F9,a2z,w7,h]
def b2c (s:List Int) (g:(List Int×List IL)×List IL):Bool:=
 w7 s g.1&&(decide ((g.2.length:Int)≤4)&&((!g.2.any λa=> !P1 s a)&& !(k7 (λt=>inR t 10 17) g.2).any λt=> !H6 (k7 (λt=>inR t 10 17) g.1.2) t))
end Go.Proofs.YthapcdhdfaibkaaGreatDoor

namespace Go.Proofs.YthapcdhdfaibkaaGreatDoor
set_option linter.all false
def ltF (a b:IL):Bool:=decide (R3 a b<0)
def F3 (l:List IL) (f:IL):List IL:=W2 (O5 l f) (ltF f) f l
theorem b4r {a b:Int}:S2 a b= -S2 b a:=by unfold S2;grind
theorem a6N:∀{l m:List Int},I7 l m= -I7 m l
 |[],[]=>by simp[I7]
 |[],_::_=>by simp[I7]
 |_::_,[]=>by simp[I7]
 |a::l,b::m=>by
  have h1:=b4r (a:=a) (b:=b)
  have h2:=a6N (l:=l) (m:=m)
  unfold I7;grind
theorem a9T {a b:IL}:R3 a b= -R3 b a:=by
 have h1:=b4r (a:=a.1) (b:=b.1)
 have h2:=a6N (l:=a.2) (m:=b.2)
 unfold R3;grind
theorem a5f {l:List IL} {f:IL} (h:O5 l f=true):F3 l f=l:=by simp[F3,W2,h]
theorem a6V {l:List IL} {f:IL} (h:O5 l f=false):F3 l f=l.take (if J0 (λz=>decide (0<R3 z f)) l<0 then l.length else (J0 (λz=>decide (0<R3 z f)) l).toNat)++f::l.drop (if J0 (λz=>decide (0<R3 z f)) l<0 then l.length else (J0 (λz=>decide (0<R3 z f)) l).toNat):=by
 rw[F3,h]
 refine b4m λy _=>?_
 have:=a9T (a:=f) (b:=y)
 rw[ltF,decide_eq_decide];omega
theorem a3i {α:Type} {p:α→Bool} {s:List α}:J0 p s≤s.length∧ -1≤J0 p s:=by
 unfold J0
 split
 ·have:=List.findIdx_le_length (p:=p) (xs:=s);omega
 ·omega
def addS {α:Type} (h:Bool) (p:α→Bool) (f:α) (l:List α):List α:=if h then l else P4 p f l
theorem a9N {α:Type} {h:Bool} {p:α→Bool} {f:α} {l:List α}:(addS h p f l).length≤l.length+1:=by
 have:=a6y (p:=p) (f:=f) (l:=l)
 unfold addS;split<;>omega
theorem H7 {α:Type} {h:Bool} {p:α→Bool} {f:α}:addS h p f []=[]:=by unfold addS;cases h<;>rfl
theorem G3 {α:Type} {h:Bool} {p:α→Bool} {f:α} {l:List α} {y:α}:addS h p f (l++[y])=if (h||l.any p)=true then addS h p f l++[y] else if p y=true then addS h p f l++[f,y] else addS h p f l++[y]:=by
 unfold addS
 cases h
 ·simp only[Bool.false_eq_true,if_false,Bool.false_or,X1]
  cases ha:l.any p
  ·simp[a0q ha]
  ·simp
 ·simp
theorem G2 {α:Type} {h:Bool} {p:α→Bool} {f:α} {l:List α}:W2 h p f l=if (h||l.any p)=true then addS h p f l else addS h p f l++[f]:=by
 unfold addS W2
 cases h
 ·cases ha:l.any p
  ·simp[a0q ha]
  ·simp
 ·simp
theorem H8 {α:Type} {p:α→Bool} {l:List α} {g:Nat} (h:g<l.length):(l.take (g+1)).any p=((l.take g).any p||p l[g]):=by
 rw[List.take_succ_eq_append_getElem h,List.any_append];simp
theorem W8 {f:IL} {a:Int} {b:List Int}:ltF f (a,b)=decide (R3 f (a,b)<0):=rfl
def a1W (s:List Int) (l:List IL) (g:Nat):Bool:=(l.drop g).all (N9 s)&&E8 ltF (l.drop (g-1))
def B8 (s:List Int) (l:List IL):Bool:=a1W s l 0&&(Q4 s&&decide ((l.length:Int)≤24))
def c4q (d6:List IL) (f:IL) (out:List IL) (r:Int×IL):List IL:=
 if f.1=r.1 then (if O5 d6 (r.2.1,a3a r.2.2 f.2) then out else F3 out (r.2.1,a3a r.2.2 f.2)) else out
def c4o (l:List (Int×IL)) (d6:List IL) (out:List IL) (f:IL):List IL:=l.foldl (c4q d6 f) out
def b7j (l:List (Int×IL)) (d6:List IL):List IL:=d6.foldl (c4o l d6) []
end Go.Proofs.YthapcdhdfaibkaaGreatDoor

namespace Go.Proofs.YthapcdhdfaibkaaGreatDoor
set_option linter.all false
theorem N4 {s:List Int} {l:List IL} (h:B8 s l=true):l.length≤24∧∀f∈l,N9 s f=true:=by
 simp only[B8,a1W,List.drop_zero,Bool.and_eq_true,decide_eq_true_eq,List.all_eq_true] at h
 exact ⟨by omega,h.1.1⟩
theorem a0B {s:List Int} {f:IL} (h:N9 s f=true):f.2.length≤3:=by
 simp only[N9,Bool.and_eq_true,decide_eq_true_eq] at h
 have:=a0R h.1
 simp only[at0] at h;omega
theorem b7k {v:List Int} (h:S3 v=true):∀x∈v,0≤x∧x≤9:=by
 simp only[S3,Bool.not_eq_true',List.any_eq_false,Bool.not_eq_true] at h
 intro x hx
 have:=h x hx
 simp[inR] at this;omega
theorem b9f {v:List Int} (h:∀x∈v,0≤x∧x≤9):S3 v=true:=by
 simp only[S3,Bool.not_eq_true',List.any_eq_false,Bool.not_eq_true]
 intro x hx
 have:=h x hx
 simp[inR];omega
def c6t (s:List Int) (l:List (Int×IL)) (d6:List IL):List IL:=if a6f s l&&B8 s d6 then b7j l d6 else []
def a8H (l:List (Int×IL)) (d6:List IL):Nat→List IL
 |0=>d6
 |n+1=>(b7j l (a8H l d6 n)).foldl F3 (a8H l d6 n)
def c3C (l:List (Int×IL)) (d6:List IL):List IL:=a8H l d6 6001
theorem a3N:∀{n:Nat} {l:List Nat},l.Nodup→(∀x∈l,x<n)→l.length≤n
 |0,l,_,h=>by
  cases l with
  |nil=>simp
  |cons x l=>exact absurd (h x (by simp)) (by omega)
 |n+1,l,hd,h=>by
  by_cases hm:n∈l
  ·have h1:=a3N (n:=n) (l:=l.erase n) (hd.erase n) λx hx=>by
    have h2:=(hd.mem_erase_iff).1 hx
    have:=h x h2.2;omega
   rw[List.length_erase_of_mem hm] at h1;omega
  ·have h1:=a3N (n:=n) (l:=l) hd λx hx=>by
    have h2:=h x hx
    have:x≠n:=λe=>hm (e▸hx)
    omega
   omega
def a4d:List Int→Nat
 |[]=>0
 |v::l=>(v.toNat+1)+11*a4d l
theorem b2K:∀{a b:List Int},(∀x∈a,0≤x∧x≤9)→(∀x∈b,0≤x∧x≤9)→a4d a=a4d b→a=b
 |[],[],_,_,_=>rfl
 |[],y::b,_,_,h=>by simp[a4d] at h;omega
 |x::a,[],_,_,h=>by simp[a4d] at h
 |x::a,y::b,ha,hb,h=>by
  have h1:=ha x (by simp)
  have h2:=hb y (by simp)
  simp only[a4d] at h
  rw[b2K (a:=a) (b:=b) (λz hz=>ha z (by simp[hz])) (λz hz=>hb z (by simp[hz])) (by omega),show x=y by omega]
theorem b5q:∀{n:Nat} {a:List Int},(∀x∈a,0≤x∧x≤9)→a.length≤n→a4d a<11^n
 |n,[],_,_=>by simp[a4d];exact Nat.pow_pos (by decide)
 |0,x::a,_,h=>by simp at h
 |n+1,x::a,ha,h=>by
  have h1:=b5q (n:=n) (a:=a) (λz hz=>ha z (by simp[hz])) (by simpa using h)
  have h2:=ha x (by simp)
  simp only[a4d,Nat.pow_succ];omega
def b7d (f:IL):Nat:=f.1.toNat+4*a4d f.2
theorem a6U {s:List Int} {f:IL} (h:N9 s f=true):0≤f.1∧f.1<4:=by
 simp only[N9,Bool.and_eq_true,decide_eq_true_eq] at h
 have h1:=a0R h.1
 have h2:=h.1
 simp only[N8,Q4,inR,Bool.and_eq_true,decide_eq_true_eq] at h2
 omega
theorem a1w {s:List Int} {f:IL} (h:N9 s f=true):∀x∈f.2,0≤x∧x≤9:=by
 simp only[N9,Bool.and_eq_true] at h
 exact b7k h.2.2
theorem b2x {s:List Int} {D:List IL} (hd:D.Nodup) (h:∀f∈D,N9 s f=true):D.length≤5324:=by
 have h1:(D.map b7d).Nodup:=by
  unfold List.Nodup at hd ⊢
  rw[List.pairwise_map]
  refine List.Pairwise.imp_of_mem (λ{a b} ha hb hab e=>hab ?_) hd
  have ra:=a6U (h a ha)
  have rb:=a6U (h b hb)
  simp only[b7d] at e
  have e2:=b2K (a1w (h a ha)) (a1w (h b hb)) (by omega)
  exact Prod.ext (by omega) e2
 have h2:=a3N (n:=5324) h1 λx hx=>by
  obtain ⟨f,hf,rfl⟩:=List.mem_map.1 hx
  have r:=a6U (h f hf)
  have c:=b5q (n:=3) (a1w (h f hf)) (a0B (h f hf))
  unfold b7d;omega
 simpa using h2
theorem a9A {α:Type} {p:α→Bool} {f y:α}:∀{l:List α},y∈l→y∈P4 p f l
 |x::l,h=>by
  simp only[P4]
  simp only[List.mem_cons] at h
  split
  ·simp[h]
  ·rcases h with h|h
   ·simp[h]
   ·simp[a9A h]
theorem a8p {α:Type} {p:α→Bool} {f:α}:∀{l:List α},l.any p=true→f∈P4 p f l
 |x::l,h=>by
  simp only[P4]
  split
  ·simp
  ·rename_i h1
   simp only[List.any_cons,h1,Bool.false_or] at h
   simp[a8p h]
theorem a6W {l:List IL} {f y:IL} (h:y∈l):y∈F3 l f:=by
 unfold F3 W2
 split
 ·exact h
 ·split
  ·exact a9A h
  ·simp[h]
theorem b0d {l:List IL} {f:IL}:O5 l f=true↔f∈l:=by
 unfold O5
 rw[List.any_eq_true]
 constructor
 ·rintro ⟨x,hx,e⟩
  rw[decide_eq_true_eq,a4h] at e
  exact e▸hx
 ·intro h
  exact ⟨f,h,by rw[decide_eq_true_eq,a4h]⟩
theorem b2L {l:List IL} {f:IL} (h:O5 l f=false):f∈F3 l f:=by
 unfold F3 W2
 rw[h]
 simp only[Bool.false_eq_true,if_false]
 split
 ·rename_i h1;exact a8p h1
 ·simp
def c5B (s:List Int) (x D:List IL):Prop:=D.Nodup∧(∀f∈D,f∈x)∧x.length≤24+D.length∧∀f∈x,N9 s f=true
def c6P (l:List (Int×IL)) (d6:List IL) (n:Nat):Prop:=∃s,a6f s l=true∧∃D,c5B s (a8H l d6 n) D∧n≤D.length
theorem b9Y {m x:List IL}:(m.foldl F3 x).length≤x.length+m.length:=by
 induction m generalizing x with
 |nil=>simp
 |cons f m ih=>
  have h1:=ih (x:=F3 x f)
  have h2:=a3M (h:=O5 x f) (p:=ltF f) (f:=f) (l:=x)
  simp only[List.foldl_cons,List.length_cons]
  unfold F3 at h1 ⊢;omega
def c6n (s:List Int) (l:List (Int×IL)) (d6:List IL):List IL:=if a6f s l&&B8 s d6 then c3C l d6 else []
end Go.Proofs.YthapcdhdfaibkaaGreatDoor

namespace Go.Proofs.YthapcdhdfaibkaaGreatDoor
set_option linter.all false
def unb (b:List Int×List Int) (t:Int):Bool:= !(b.1.take (min b.1.length b.2.length)).any λx=>decide (x=t)
theorem b1u {α:Type} {p:α→Bool} {s:List α}:J0 p s<0↔s.any p=false:=by
 unfold J0
 by_cases h:s.any p=true
 ·rw[if_pos h];simp[h]
 ·rw[if_neg h];simp at h;simp;exact h
theorem B7 {b:List Int×List Int} {t:Int}:unb b t=decide (J0 (λx=>decide (x=t)) (b.1.take (min b.1.length b.2.length))<0):=by
 rw[unb,Bool.eq_iff_iff,decide_eq_true_eq,b1u];simp
theorem a3v {V W:List Int} {p:Int→Bool} {g:Nat} (h:g<V.length) (h2:g<W.length):((V.take (min V.length W.length)).drop g).any p=(p V[g]||((V.take (min V.length W.length)).drop (g+1)).any p):=by
 rw[List.drop_eq_getElem_cons (by simp;omega)]
 simp
theorem a5T {V W:List Int} {p:Int→Bool} {g:Nat} (h:¬(g<V.length∧g<W.length)):((V.take (min V.length W.length)).drop g).any p=false:=by
 rw[List.drop_eq_nil_of_le (by simp;omega)];rfl
def D4 (x:List Int×List Int) (t v:Int):List Int×List Int:=if inR t 10 17&&unb x t then (x.1++[t],x.2++[v]) else x
def H0 (b:List Int×List Int) (l:List (Int×Int)):List Int×List Int:=l.foldl (λx p=>D4 x p.1 p.2) b
def okV (b:List Int×List Int):List (Int×Int)→Bool
 |[]=>true
 |p::l=>decide (y9 (D4 b p.1 p.2) p.1=p.2)&&okV (D4 b p.1 p.2) l
def t6 (b:List Int×List Int) (a f:IL):Bool:=decide (a.1=f.1)&&(decide (a.2.length=f.2.length)&&(decide (b.1.length=b.2.length)&&okV b (a.2.zip f.2)))
def u9 (b:List Int×List Int) (a f:IL):List Int×List Int:=H0 b (a.2.zip f.2)
theorem B6 {b:List Int×List Int} {t v:List Int} {g:Nat} (h:g<t.length) (h2:g<v.length):H0 b ((t.zip v).take (g+1))=D4 (H0 b ((t.zip v).take g)) t[g] v[g]:=by
 unfold H0
 rw[List.take_succ_eq_append_getElem (by simp;omega),List.foldl_append]
 simp
theorem z6 {b:List Int×List Int} {t v:List Int} {g:Nat} (h:g<t.length) (h2:g<v.length):okV b ((t.zip v).drop g)=(decide (y9 (D4 b t[g] v[g]) t[g]=v[g])&&okV (D4 b t[g] v[g]) ((t.zip v).drop (g+1))):=by
 rw[List.drop_eq_getElem_cons (by simp;omega)]
 simp[okV]
theorem B9 {b:List Int×List Int} {t v:List Int} {g:Nat} (h:t.length≤g):okV b ((t.zip v).drop g)=true:=by
 rw[List.drop_eq_nil_of_le (by simp;omega)];rfl
theorem D2 {b:List Int×List Int} {t v:List Int} {g:Nat} (h:t.length≤g):H0 b ((t.zip v).take g)=H0 b (t.zip v):=by
 rw[List.take_of_length_le (by simp;omega)]
theorem b3Y {x:List Int×List Int} {t v:Int}:(D4 x t v).1.length≤x.1.length+1∧(D4 x t v).2.length≤x.2.length+1:=by
 unfold D4;split<;>simp
theorem a4H {x:List Int×List Int} {t v:Int} (h:x.1.length=x.2.length):(D4 x t v).1.length=(D4 x t v).2.length:=by
 unfold D4;split<;>simp[h]
theorem a7C:∀{l:List (Int×Int)} {x:List Int×List Int},(H0 x l).1.length≤x.1.length+l.length∧(H0 x l).2.length≤x.2.length+l.length
 |[],x=>by simp[H0]
 |p::l,x=>by
  have h1:=a7C (l:=l) (x:=D4 x p.1 p.2)
  have h2:=b3Y (x:=x) (t:=p.1) (v:=p.2)
  simp only[H0,List.foldl_cons,List.length_cons] at h1 ⊢;omega
theorem a6E:∀{l:List (Int×Int)} {x:List Int×List Int},x.1.length=x.2.length→(H0 x l).1.length=(H0 x l).2.length
 |[],x,h=>h
 |p::l,x,h=>by
  have:=a6E (l:=l) (a4H (t:=p.1) (v:=p.2) h)
  simpa only[H0,List.foldl_cons] using this
theorem b9e {b:List Int×List Int} {t v:List Int} {g:Nat}:(H0 b ((t.zip v).take g)).1.length≤b.1.length+t.length∧(H0 b ((t.zip v).take g)).2.length≤b.2.length+t.length:=by
 have h:=a7C (l:=(t.zip v).take g) (x:=b)
 have h2:((t.zip v).take g).length≤t.length:=by simp;omega
 omega
theorem b5X {x:List Int×List Int} {t v:Int} (h:x.1.length=x.2.length) (h1:inR t 10 17=true) (h2:unb x t=true):y9 (x.1++[t],x.2++[v]) t=v:=by
 have e:=a4O (b:=(x.1++[t],x.2++[v])) (t:=t) (g:=x.1.length) h1 (by simp) (by simp[h]) (by simp) (by
  intro y hy
  simp only[unb,h,Nat.min_self,Bool.not_eq_true',List.any_eq_false] at h2
  rw[List.take_append_of_le_length (Nat.le_refl _),List.take_length] at hy
  have:=h2 y (by rw[←h,List.take_length];exact hy)
  simpa using this)
 rw[←e]
 simp[h]
theorem b0M {x:List Int×List Int} {t v:Int} (h:(inR t 10 17&&unb x t)=false):D4 x t v=x:=by unfold D4;rw[h];simp
theorem a8L {x:List Int×List Int} {t v:Int} (h:(inR t 10 17&&unb x t)=true):D4 x t v=(x.1++[t],x.2++[v]):=by unfold D4;rw[h];simp
theorem P0 {x:List Int×List Int} {t v:Int} (h:x.1.length=x.2.length):decide (y9 (D4 x t v) t=v)=(inR t 10 17&&unb x t||decide (y9 x t=v)):=by
 cases hc:inR t 10 17&&unb x t with
 |false=>rw[b0M hc];simp
 |true=>
  rw[a8L hc]
  rw[Bool.and_eq_true] at hc
  rw[b5X h hc.1 hc.2];simp
def W6 (b:List Int×List Int) (a:IL) (d6:List IL):List (List Int×List Int):=(d6.filter (t6 b a)).map (u9 b a)
def I9 (l:List (List Int×List Int)) (a:IL) (d6:List IL):List (List Int×List Int):=l.flatMap λb=>W6 b a d6
theorem a0x {b:List Int×List Int} {a:IL}:W6 b a []=[]:=rfl
theorem Y4 {b:List Int×List Int} {a f:IL} {l:List IL}:W6 b a (l++[f])=if t6 b a f then W6 b a l++[u9 b a f] else W6 b a l:=by
 unfold W6
 cases h:t6 b a f<;>simp[List.filter_append,h]
theorem a0w {a:IL} {d6:List IL}:I9 [] a d6=[]:=rfl
theorem Y2 {l:List (List Int×List Int)} {b:List Int×List Int} {a:IL} {d6:List IL}:I9 (l++[b]) a d6=I9 l a d6++W6 b a d6:=by
 simp[I9]
theorem a4W {b:List Int×List Int} {a:IL} {d6:List IL}:(W6 b a d6).length≤d6.length:=by
 unfold W6;rw[List.length_map];exact List.length_filter_le _ _
theorem b5h {a:IL} {d6:List IL}:∀{l:List (List Int×List Int)},(I9 l a d6).length≤l.length*d6.length
 |[]=>by simp[I9]
 |b::l=>by
  have h1:=b5h (a:=a) (d6:=d6) (l:=l)
  have h2:=a4W (b:=b) (a:=a) (d6:=d6)
  simp only[I9,List.flatMap_cons,List.length_append,List.length_cons,Nat.succ_mul] at h1 ⊢;omega
theorem b4e {n k:Nat} {a:IL} {d6:List IL} {l:List (List Int×List Int)} (ha:a.2.length≤k) (h:∀b∈l,b.1.length≤n∧b.2.length≤n):∀b∈I9 l a d6,b.1.length≤n+k∧b.2.length≤n+k:=by
 intro b hb
 simp only[I9,W6,List.mem_flatMap,List.mem_map] at hb
 obtain ⟨x,hx,f,_,rfl⟩:=hb
 have h1:=h x hx
 have h2:=a7C (l:=a.2.zip f.2) (x:=x)
 have h3:(a.2.zip f.2).length≤a.2.length:=by simp;omega
 unfold u9;omega
def B1 (d7:List IL) (d6:List IL):List (List Int×List Int):=d7.foldl (λl a=>I9 l a d6) [([],[])]
theorem a1Q {d6:List IL}:B1 [] d6=[([],[])]:=rfl
theorem a1o {d7 d6:List IL} {a:IL}:B1 (d7++[a]) d6=I9 (B1 d7 d6) a d6:=by
 simp[B1]
theorem b2E {d6:List IL} (hf:d6.length≤24):∀{n:Nat} {d7:List IL},d7.length=n→(∀a∈d7,a.2.length≤3)→(B1 d7 d6).length≤24^n∧∀b∈B1 d7 d6,b.1.length≤3*n∧b.2.length≤3*n
 |0,d7,hn,_=>by
  obtain rfl:=List.length_eq_zero_iff.1 hn
  simp[a1Q]
 |n+1,d7,hn,h=>by
  have h0:d7≠[]:=by intro e;subst e;simp at hn
  rw[←List.dropLast_concat_getLast h0] at hn h ⊢
  rw[List.length_append] at hn
  have ih:=b2E hf (n:=n) (d7:=d7.dropLast) (by simpa using hn) (λa ha=>h a (by simp[ha]))
  rw[a1o]
  have h1:=b5h (a:=d7.getLast h0) (d6:=d6) (l:=B1 d7.dropLast d6)
  have h2:=Nat.mul_le_mul ih.1 hf
  have h3:=b4e (d6:=d6) (h (d7.getLast h0) (by simp)) ih.2
  exact ⟨by rw[Nat.pow_succ];omega,λb hb=>by have:=h3 b hb;omega⟩
theorem b4I {d6 d7:List IL} (hf:d6.length≤24) (hn:d7.length≤4) (h:∀a∈d7,a.2.length≤3):(B1 d7 d6).length≤331776∧∀b∈B1 d7 d6,b.1.length≤12∧b.2.length≤12:=by
 have h1:=b2E hf Z h
 have h2:24^d7.length≤24^4:=Nat.pow_le_pow_right (by decide) hn
 exact ⟨by omega,λb hb=>by have:=h1.2 b hb;omega⟩
def T5 (l:List (List Int)) (t:List Int):Bool:=l.any λx=>decide (x=t)
def ltT (a b:List Int):Bool:=decide (I7 a b<0)
def K6 (l:List (List Int)) (t:List Int):List (List Int):=W2 (T5 l t) (ltT t) t l
theorem b0a {l:List (List Int)} {t:List Int} (h:T5 l t=true):K6 l t=l:=by simp[K6,W2,h]
theorem b0g {l:List (List Int)} {f:List Int} (h:T5 l f=false):K6 l f=l.take (if J0 (λz=>decide (0<I7 z f)) l<0 then l.length else (J0 (λz=>decide (0<I7 z f)) l).toNat)++f::l.drop (if J0 (λz=>decide (0<I7 z f)) l<0 then l.length else (J0 (λz=>decide (0<I7 z f)) l).toNat):=by
 rw[K6,h]
 refine b4m λy _=>?_
 have:=a6N (l:=f) (m:=y)
 rw[ltT,decide_eq_decide];omega
theorem b4x {l:List (List Int)} {t:List Int}:(K6 l t).length≤l.length+1:=a3M
def U0 (h:List Int) (l:List (List Int×List Int)):List (List Int):=l.foldl (λout b=>K6 out (h.map (y9 b))) []
theorem a3g {h:List Int}:U0 h []=[]:=rfl
theorem a2s {h:List Int} {l:List (List Int×List Int)} {b:List Int×List Int}:U0 h (l++[b])=K6 (U0 h l) (h.map (y9 b)):=by simp[U0]
theorem b0l {h:List Int}:∀{l:List (List Int×List Int)} {out:List (List Int)},(l.foldl (λout b=>K6 out (h.map (y9 b))) out).length≤out.length+l.length∧((∀t∈out,t.length≤h.length)→∀t∈l.foldl (λout b=>K6 out (h.map (y9 b))) out,t.length≤h.length)
 |[],out=>by simp
 |b::l,out=>by
  have h1:=b0l (h:=h) (l:=l) (out:=K6 out (h.map (y9 b)))
  have h2:=b4x (l:=out) (t:=h.map (y9 b))
  refine ⟨by simp only[List.foldl_cons,List.length_cons];omega,λho=>h1.2 λt ht=>?_⟩
  rcases a3Q ht with ht|rfl
  ·exact ho t ht
  ·simp
theorem a8P {h:List Int} {l:List (List Int×List Int)}:(U0 h l).length≤l.length:=by have:=(b0l (h:=h) (l:=l) (out:=[])).1;simpa[U0] using this
theorem b1a {h:List Int} {l:List (List Int×List Int)}:∀t∈U0 h l,t.length≤h.length:=(b0l (h:=h) (l:=l) (out:=[])).2 (by simp)
theorem D1 {s:List Int} {q:List Int×List IL} (h:w7 s q=true):q.2.length≤4∧q.1.length≤3∧∀a∈q.2,a.2.length≤3:=by
 simp only[w7,T7,inR,Bool.and_eq_true,decide_eq_true_eq,Bool.not_eq_true',List.any_eq_false,Bool.not_eq_true] at h
 refine ⟨by omega,by omega,λa ha=>?_⟩
 have h1:=h.2.2.1 a ha
 have h1:P1 s a=true:=by simpa using h1
 simp only[P1,Bool.and_eq_true,decide_eq_true_eq] at h1
 have:=a0R h1.1
 simp only[at0] at h1;omega
def U8 (s:List Int) (q:List Int×List IL) (d6:List IL):List (List Int):=if w7 s q&&B8 s d6 then U0 q.1 (B1 q.2 d6) else []
theorem b7i {n:Nat} {l:List (List Int)} (h:∀t∈l,t.length≤3) (hn:l.length≤n):E7 a4A l≤n*3:=by
 have h5:=a5e (c:=a4A) (n:=3) (l:=l) λa ha=>by
  have:=h a ha
  simp only[a4A,b7Y];omega
 omega
end Go.Proofs.YthapcdhdfaibkaaGreatDoor

namespace Go.Proofs.YthapcdhdfaibkaaGreatDoor
set_option linter.all false
def nxt (u:List Int):Nat→Nat→Nat
 |0,v=>v
 |n+1,v=>if H6 u (v:Int) then nxt u n (v+1) else v
def a1n (u:List Int) (v:Nat):Nat:=nxt u 11 v
theorem c1y {u:List Int} (hu:∀x∈u,0≤x∧x≤9) {v:Nat} (h:H6 u (v:Int)=true):v≤9:=by
 have:=(hu _ (a0y.1 h)).2;omega
theorem c7n {u:List Int} (hu:∀x∈u,0≤x∧x≤9):∀{n v:Nat},10≤v+n→nxt u (n+1) v=nxt u n v
 |0,v,h=>by
  simp only[nxt]
  split
  ·rename_i h1;have:=c1y hu h1;omega
  ·rfl
 |n+1,v,h=>by
  have ih:=c7n hu (n:=n) (v:=v+1) (by omega)
  show (if H6 u (v:Int) then nxt u (n+1) (v+1) else v)=(if H6 u (v:Int) then nxt u n (v+1) else v)
  rw[ih]
theorem c7j {u:List Int} (hu:∀x∈u,0≤x∧x≤9) {v:Nat} (h:H6 u (v:Int)=true):a1n u (v+1)=a1n u v:=by
 have h1:a1n u v=nxt u 10 (v+1):=by unfold a1n;rw[nxt,if_pos h]
 rw[h1]
 exact c7n hu (by omega)
theorem c7g {u:List Int} {v:Nat} (h:H6 u (v:Int)=false):a1n u v=v:=by
 unfold a1n;rw[nxt,if_neg (by simp[h])]
theorem c7k {u u':List Int} (h:∀x,H6 u x=H6 u' x):∀{n v:Nat},nxt u n v=nxt u' n v
 |0,v=>rfl
 |n+1,v=>by rw[nxt,nxt,h,c7k h]
theorem c7a {u u':List Int} (h:∀x,H6 u x=H6 u' x):a1n u=a1n u':=funext λ_=>c7k h
def fzN (u:List Int):Nat→Nat
 |0=>0
 |g+1=>a1n u (fzN u g)+1
theorem c7d {u u':List Int} (h:∀x,H6 u x=H6 u' x):∀{n:Nat},fzN u n=fzN u' n
 |0=>rfl
 |n+1=>by rw[fzN,fzN,c7a h,c7d h]
def b3G (u:List Int) (n:Nat):Bool:=(List.range n).all λi=>decide (a1n u (fzN u i)≤9)
def a8m (u:List Int) (n:Nat):List Int:=(List.range n).map λi=>(a1n u (fzN u i):Int)
theorem c5e {u:List Int}:a8m u 0=[]:=rfl
theorem c6T {u:List Int} {n:Nat}:a8m u (n+1)=a8m u n++[(a1n u (fzN u n):Int)]:=by
 unfold a8m;rw[List.range_succ,List.map_append];rfl
theorem c0o {u:List Int} {n:Nat}:(a8m u n).length=n:=by simp[a8m]
theorem c7m {u:List Int} {i n:Nat} (h:i<n) (h2:¬a1n u (fzN u i)≤9):b3G u n=false:=by
 rw[←Bool.not_eq_true,b3G,List.all_eq_true]
 intro e
 have:=e i (List.mem_range.2 h)
 rw[decide_eq_true_eq] at this
 exact h2 this
theorem b8m {u:List Int} {n:Nat} (h:∀i,i<n→a1n u (fzN u i)≤9):b3G u n=true:=by
 rw[b3G,List.all_eq_true]
 intro i hi
 rw[decide_eq_true_eq]
 exact h i (List.mem_range.1 hi)
theorem c7w {u:List Int} {g:Nat} (h:∀i,i<g→a1n u (fzN u i)≤9):fzN u g≤10:=by
 cases g with
 |zero=>simp[fzN]
 |succ g=>have:=h g (by omega);simp only[fzN];omega
theorem c7s {u:List Int} {g:Nat} (h:∀i,i<g→a1n u (fzN u i)≤9) (h1:a1n u (fzN u g)≤9):∀i,i<g+1→a1n u (fzN u i)≤9:=by
 intro i hi
 rcases Nat.lt_succ_iff_lt_or_eq.1 hi with h2|rfl
 ·exact h i h2
 ·exact h1
def V3 (d7:List IL):List Int:=k7 (λt=>inR t 10 17) d7
def c1j (d7:List IL):List Int:=k7 (λt=>inR t 0 9) d7
def a7D (d7:List IL) (b:List Int×List Int):List IL:=d7.foldl (λout a=>F3 out (R2 a b)) []
theorem c6V {b:List Int×List Int}:a7D [] b=[]:=rfl
theorem c6U {d7:List IL} {a:IL} {b:List Int×List Int}:a7D (d7++[a]) b=F3 (a7D d7 b) (R2 a b):=by simp[a7D]
theorem b4u:∀{d7 out:List IL} {b:List Int×List Int},(d7.foldl (λout a=>F3 out (R2 a b)) out).length≤out.length+d7.length
 |[],out,b=>by simp
 |a::d7,out,b=>by
  have h1:=b4u (d7:=d7) (out:=F3 out (R2 a b)) (b:=b)
  have h2:=a3M (h:=O5 out (R2 a b)) (p:=ltF (R2 a b)) (f:=R2 a b) (l:=out)
  simp only[List.foldl_cons,List.length_cons]
  unfold F3 at h1 ⊢;omega
theorem c2h {d7:List IL} {b:List Int×List Int}:(a7D d7 b).length≤d7.length:=by
 have:=b4u (d7:=d7) (out:=[]) (b:=b);simpa[a7D] using this
theorem c7t {n:Nat}:∀{d7 out:List IL} {b:List Int×List Int},(∀a∈d7,a.2.length≤n)→(∀f∈out,f.2.length≤n)→∀f∈d7.foldl (λout a=>F3 out (R2 a b)) out,f.2.length≤n
 |[],out,b,_,h=>h
 |a::d7,out,b,ha,h=>by
  refine c7t (d7:=d7) (out:=F3 out (R2 a b)) (λx hx=>ha x (by simp[hx])) λf hf=>?_
  rcases a3Q hf with hf|rfl
  ·exact h f hf
  ·simp only[R2,List.length_map];exact ha a (by simp)
theorem c7D {n:Nat} {d7:List IL} {b:List Int×List Int} (h:∀a∈d7,a.2.length≤n):∀f∈a7D d7 b,f.2.length≤n:=c7t h (by simp)
theorem c7A {n g:Nat} {d7:List IL} {b:List Int×List Int} (h:∀a∈d7,a.2.length≤n):∀f∈a7D (d7.take g) b,f.2.length≤n:=c7D λa ha=>h a (List.mem_of_mem_take ha)
def fzB (u:List Int) (d7:List IL):Bool:=b3G u (V3 d7).length
def fzV (u:List Int) (d7:List IL):List Int:=cond (fzB u d7) (V3 d7) []
def fzX (u:List Int) (d7:List IL):List Int:=cond (fzB u d7) (a8m u (V3 d7).length) []
def fzF (u:List Int) (d7:List IL):List IL:=cond (fzB u d7) (a7D d7 (V3 d7,a8m u (V3 d7).length)) []
theorem a8W {d7:List IL}:∀x∈c1j d7,0≤x∧x≤9:=by
 intro x hx
 unfold c1j k7 at hx
 rw[a4Y,List.mem_filter] at hx
 have:=hx.2
 simpa[inR] using this
theorem c1x {d7:List IL}:∀x∈V3 d7,10≤x∧x≤17:=by
 intro x hx
 unfold V3 k7 at hx
 rw[a4Y,List.mem_filter] at hx
 have:=hx.2
 simpa[inR] using this
theorem c7e {u u':List Int} (h:∀x,H6 u x=H6 u' x) {n:Nat}:b3G u n=b3G u' n∧a8m u n=a8m u' n:=by
 constructor
 ·unfold b3G;congr 1;funext i;rw[c7a h,c7d h]
 ·unfold a8m;congr 1;funext i;rw[c7a h,c7d h]
theorem c7y {u u':List Int} (h:∀x,x∈u↔x∈u'):∀x,H6 u x=H6 u' x:=by
 intro x
 rw[Bool.eq_iff_iff,a0y,a0y,h]
end Go.Proofs.YthapcdhdfaibkaaGreatDoor
