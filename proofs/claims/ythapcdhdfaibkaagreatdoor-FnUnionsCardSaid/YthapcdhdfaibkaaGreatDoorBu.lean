import Derived.Test.YthapcdhdfaibkaaGreatDoorBb
namespace Go.Proofs.YthapcdhdfaibkaaGreatDoor
open Go.RowKit
set_option linter.all false
theorem ty_Fma:TyOk Tryz.prog 228 false 1 [.nilFunc] 8:=O1 (z:=.nilFunc) (by kernel_rfl) (by kernel_rfl) Z Z
section
variable {P:Program} {n:Nat} {w0:World} {L0:List Nat} {fr:Fr} {H:List HP} {fn:Func} {κ:Type} {φ:κ→Prop} {ret:κ→Value} {post:κ→List HP} {wb:World} {Lb:List Nat}
theorem b7Q (hb:a0G w0 L0 wb Lb) {e:Exit} {s t u:Nat} {v v' v'':Value} (hres:fn.results= #[.tmp s,.tmp t,.tmp u]) (hv0:fr.lookup s=some v) (hv:fr.lookup t=some v') (hv':fr.lookup u=some v'')
  (k:κ) (hk:φ k) (hr: .tuple #[v,v',v'']=ret k) {J:List HP} (hH:H.Perm (post k++J)) (he:e= .ret∨e= .normal):Ent n w0 L0 fr H (bodyPost P fn (Fin φ ret post wb Lb) e):=
 a4i hb he k hk hr hH λa w h1 h2=>by
  have h0:=h1.ev (x:=.tmp s) hv0
  have h3:=h1.ev (x:=.tmp t) hv
  have h5:=h1.ev (x:=.tmp u) hv'
  simp only[Act.eval] at h0 h3 h5
  rw[Array.getD_eq_getD_getElem?] at h0 h3 h5
  simp[results,hres,h0,h3,h5]
end
abbrev tB:TypeId:= 4
abbrev eBs:Enc (List Bool):=Enc.sl tB Enc.bool
section
variable {w0:World} {L0:List Nat} {H:List HP} {e:TypeId} {a:Option Addr} {m c b o:Nat} {xs:List Bool}
theorem Ro.elemB (h:Ro w0 L0 (Enc.sl e Enc.bool) [.slice a m c] xs) (i:Nat) (hi:i<xs.length):∃b off,a=some ⟨b,off,none⟩∧∀H,Has w0 L0 H b (off+i*1) [.bool xs[i]]:=by
 obtain ⟨b,off,ci,h1,h2,h3,h4⟩:=h.elem i hi
 obtain rfl:=h2.bool
 exact ⟨b,off,h1,h4⟩
theorem a9w {w:World}:∀{xs:List Bool} {cs:List Value} {L:List Nat} {o:Bool},y8 Enc.bool w cs xs L o→cs=xs.map λx=>.bool x
 |[],_,_,_,h=>h.1
 |x::xs,_,_,_,⟨c1,c2,L1,L2,h1,h2,h3,h4⟩=>by rw[h1,h3.1,a9w h4];rfl
theorem c0M (ha:a=some ⟨b,0,none⟩) (hm:ow (Enc.sl e Enc.bool) [.slice a m c] xs∈H) {i:Nat} (hi:i<xs.length):Has w0 L0 H b (0+i*1) [.bool xs[i]]:=λw h=>by
 obtain ⟨L,hL⟩:=h.mem hm
 obtain ⟨ccs,L1,L2,_,g1,g2,g3,h0,g4⟩:=a0V hL
 have hc:=a9w g3
 rcases g4 with ⟨_,h,_⟩|⟨g,cur,h2,h3,h4,h5,h6,h7,_⟩
 ·omega
 ·rw[ha] at h2;cases h2
  intro j v hj
  match j,hj with
  |0,hj=>
   simp at hj;subst hj
   have:(ccs:List Value)[i]? =some (.bool xs[i]):=by rw[hc];simp[hi]
   rw[←h7,List.getElem?_take] at this
   split at this
   ·simpa[World.cell?,h3] using this
   ·cases this
  |j+1,hj=>simp at hj
end
theorem b9o {α:Type} {E:Enc α} {w:World} {L:List Nat} {e:TypeId} {a:Option Addr}:Ro w L (Enc.sl e E) [.slice a 0 0] []:=
 ⟨[],⟨a,0,0,[],[],[],Z,Z,Nat.zero_le _,Z,⟨Z,Z⟩,⟨⟨Nat.le_refl _,Nat.zero_le _⟩,.inl ⟨Z,Z⟩⟩⟩,by simp⟩
def Enc.rsl:Enc (Option Addr×Nat×Nat) where
 k:=1
 pos:=by decide
 rep _ cs x L _:=cs=[.slice x.1 x.2.1 x.2.2]∧L=[]
 len h:=by rw[h.1];rfl
 one h:=by rw[h.1];simp[Value.oneCell']
 stable h _:=h
 inh h:=by rw[h.2];simp
 ro h:=⟨[],by simp,h.1,Z⟩
theorem Plain.rsl:Plain Enc.rsl:=λw cs x L h=>⟨h.1,Z⟩
theorem Own.rsl {x:Option Addr×Nat×Nat}:Own [] Enc.rsl [.slice x.1 x.2.1 x.2.2] x:=λw L hL=>⟨Z,hL⟩
theorem Ro.rsl {w0:World} {L0:List Nat} {cs:List Value} {x:Option Addr×Nat×Nat} (h:Ro w0 L0 Enc.rsl cs x):cs=[.slice x.1 x.2.1 x.2.2]:=let ⟨_,h1,_⟩:=h;h1.1
theorem b0v {w0:World} {L0:List Nat} {x:Option Addr×Nat×Nat}:Ro w0 L0 Enc.rsl [.slice x.1 x.2.1 x.2.2] x:=⟨[],⟨Z,Z⟩,by simp⟩
def Bor {α β:Type} (w:World) (L:List Nat) (E:Enc α) (f:β→List Value):List β→List α→Prop
 |[],[]=>True
 |y::ys,x::xs=>Ro w L E (f y) x∧Bor w L E f ys xs
 |_,_=>False
def b1W {β:Type} (F:Enc β) (f:β→List Value):Prop:=∀w cs y L o,F.rep w cs y L o→cs=f y∧L=[]
section
variable {α β:Type} {E:Enc α} {F:Enc β} {f:β→List Value} {w w0:World} {L L0 Lp:List Nat} {ys ys':List β} {xs xs':List α} {pre rest:List HP} {a:Option Addr} {m c:Nat} {e:TypeId} {cs ccs:List Value}
theorem Bor.len:∀{ys:List β} {xs:List α},Bor w L E f ys xs→ys.length=xs.length
 |[],[],_=>rfl
 |_::_,_::_,h=>congrArg (· +1) (Bor.len h.2)
theorem Bor.nil:Bor w L E f [] []:=trivial
theorem Bor.app:∀{ys:List β} {xs:List α},Bor w L E f ys xs→Bor w L E f ys' xs'→Bor w L E f (ys++ys') (xs++xs')
 |[],[],_,h=>h
 |_::_,_::_,h,h'=>⟨h.1,Bor.app h.2 h'⟩
theorem Bor.one {y:β} {x:α} (h:Ro w L E (f y) x):Bor w L E f [y] [x]:=⟨h,trivial⟩
theorem Bor.get:∀{ys:List β} {xs:List α},Bor w L E f ys xs→∀i (h1:i<ys.length) (h2:i<xs.length),Ro w L E (f ys[i]) xs[i]
 |_::_,_::_,h,0,_,_=>h.1
 |_::_,_::_,h,i+1,h1,h2=>Bor.get h.2 i (Nat.lt_of_succ_lt_succ h1) (Nat.lt_of_succ_lt_succ h2)
theorem Bor.map {g:β→β} {g':α→α} (hg:∀y x,Ro w L E (f y) x→Ro w L E (f (g y)) (g' x)):∀{ys:List β} {xs:List α},Bor w L E f ys xs→Bor w L E f (ys.map g) (xs.map g')
 |[],[],_=>trivial
 |_::_,_::_,h=>⟨hg _ _ h.1,Bor.map hg h.2⟩
theorem Bor.filter {p:β→Bool} {p':α→Bool} (hp:∀y x,Ro w L E (f y) x→p y=p' x):∀{ys:List β} {xs:List α},Bor w L E f ys xs→Bor w L E f (ys.filter p) (xs.filter p')
 |[],[],_=>trivial
 |y::_,x::_,h=>by
  have h1:=hp _ _ h.1
  have h2:=Bor.filter hp h.2
  cases h3:p' x
  ·rw[List.filter_cons_of_neg (by rw[h1,h3];decide),List.filter_cons_of_neg (by rw[h3];decide)];exact h2
  ·rw[List.filter_cons_of_pos (by rw[h1,h3]),List.filter_cons_of_pos h3];exact ⟨h.1,h2⟩
theorem Bor.take:∀(n:Nat) {ys:List β} {xs:List α},Bor w L E f ys xs→Bor w L E f (ys.take n) (xs.take n)
 |0,_,_,_=>by simpa using Bor.nil
 |_+1,[],[],_=>trivial
 |n+1,_::_,_::_,h=>⟨h.1,Bor.take n h.2⟩
theorem Bor.drop:∀(n:Nat) {ys:List β} {xs:List α},Bor w L E f ys xs→Bor w L E f (ys.drop n) (xs.drop n)
 |0,_,_,h=>h
 |_+1,[],[],_=>trivial
 |n+1,_::_,_::_,h=>Bor.drop n h.2
theorem b6Y:∀{is:List Nat} (d:β) (d':α),Bor w L E f ys xs→(∀i∈is,i<ys.length)→Bor w L E f (is.map λi=>ys.getD i d) (is.map λi=>xs.getD i d')
 |[],_,_,_,_=>trivial
 |i::is,d,d',h,hi=>by
  have h1:=hi i (List.mem_cons_self ..)
  have h2:i<xs.length:=by rw[←h.len];exact h1
  refine ⟨?_,b6Y d d' h λj hj=>hi j (List.mem_cons_of_mem _ hj)⟩
  have:=h.get i h1 h2
  simpa[List.getD,h1,h2] using this
theorem Bor.els:∀{ys:List β} {xs:List α},Bor w L E f ys xs→∃M,y8 E w (ys.flatMap f) xs M false∧∀b∈M,b∉L
 |[],[],_=>⟨[],⟨Z,Z⟩,by simp⟩
 |_::_,_::_,⟨⟨L1,h1,h2⟩,h3⟩=>by
  obtain ⟨M,m1,m2⟩:=Bor.els h3
  exact ⟨L1++M,⟨_,_,L1,M,List.flatMap_cons ..,Z,h1,m1⟩,λb hb=>by rcases List.mem_append.1 hb with hb|hb;(exact h2 b hb);(exact m2 b hb)⟩
theorem b3p:∀{ys:List β} {xs:List α} {M:List Nat},(∀y,(f y).length=E.k)→ys.length=xs.length→y8 E w (ys.flatMap f) xs M false→(∀b∈M,b∉L)→Bor w L E f ys xs
 |[],[],_,_,_,_,_=>trivial
 |y::ys,x::xs,_,hf,hl,⟨c1,c2,L1,L2,h1,rfl,h3,h4⟩,hM=>by
  rw[List.flatMap_cons] at h1
  obtain ⟨e1,e2⟩:=List.append_inj h1 ((hf y).trans (E.len h3).symm)
  subst e1;subst e2
  exact ⟨⟨L1,h3,λb hb=>hM b (by simp[hb])⟩,b3p hf (Nat.succ.inj hl) h4 λb hb=>hM b (by simp[hb])⟩
theorem At.bor (hA:At w0 L0 pre rest w Lp):∀{ys:List β} {xs:List α},Bor w0 L0 E f ys xs→Bor w Lp E f ys xs
 |[],[],_=>trivial
 |_::_,_::_,h=>⟨hA.ro h.1,At.bor hA h.2⟩
theorem b1W.cells (hF:b1W F f):∀{ys:List β} {cs:List Value} {M:List Nat} {o:Bool},y8 F w cs ys M o→cs=ys.flatMap f∧M=[]
 |[],_,_,_,h=>⟨h.1,h.2⟩
 |_::_,_,_,_,⟨c1,c2,L1,L2,h1,h2,h3,h4⟩=>by
  obtain ⟨rfl,rfl⟩:=hF _ _ _ _ _ h3
  obtain ⟨rfl,rfl⟩:=hF.cells h4
  exact ⟨h1,h2⟩
theorem At.owB (hA:At w0 L0 pre rest w Lp) (hF:b1W F f) (hk:F.k=E.k) (hm:Go.Proofs.YthapcdhdfaibkaaGreatDoor.ow (Enc.sl e F) [.slice a m c] ys∈rest) (hb:Bor w0 L0 E f ys xs):Ro w Lp (Enc.sl e E) [.slice a m c] xs:=by
 have hb':=hA.bor hb
 obtain ⟨⟨Lr,h1,h2,h3,h4⟩⟩:=hA
 obtain ⟨L',r1,r2⟩:=h2.mem hm
 obtain ⟨ccs,L1,L2,rfl,g1,g2,g3,g4⟩:=a0V r1
 obtain ⟨rfl,rfl⟩:=hF.cells g3
 obtain ⟨M,m1,m2⟩:=hb'.els
 have hLn:∀b∈L1,b∉Lp:=λb hb hp=>(List.nodup_append.1 h3).2.2 b hp b (r2 b (by simpa using hb)) Z
 have hl:m=xs.length:=g1.trans hb.len
 rcases g4 with ⟨h6,⟨rfl,rfl,rfl⟩|⟨g,cur,rfl,h7,h8,h9,h10,h11,rfl⟩⟩
 ·have:ys=[]:=List.eq_nil_of_length_eq_zero g1.symm
  subst this
  exact ⟨M,⟨a,0,0,[],[],M,Z,hl,g2,Z,m1,⟨Nat.le_refl _,Nat.zero_le _⟩,.inl ⟨Z,Z⟩⟩,m2⟩
 ·refine ⟨[g]++M,⟨_,m,c,_,[g],M,Z,hl,g2,Z,m1,⟨h8,h9⟩,.inr ⟨g,0,Z,λj v hj=>?_,(Array.getElem?_eq_some_iff.1 h7).1,Z⟩⟩,λb hb=>?_⟩
  ·rw[←h11,List.getElem?_take] at hj
   split at hj
   ·simpa[World.cell?,h7] using hj
   ·cases hj
  ·rcases List.mem_append.1 hb with hb|hb
   ·exact hLn b hb
   ·exact m2 b hb
theorem b3m (hE:∀cs x,Ro w L E cs x→∃y,F.rep w cs y [] false∧cs=f y):∀{xs:List α} {cs:List Value} {M:List Nat},y8 E w cs xs M false→(∀b∈M,b∉L)→∃ys,y8 F w cs ys [] false∧Bor w L E f ys xs
 |[],_,_,h,_=>⟨[],⟨h.1,Z⟩,trivial⟩
 |x::xs,_,_,⟨c1,c2,L1,L2,h1,rfl,h3,h4⟩,hM=>by
  obtain ⟨y,y1,rfl⟩:=hE c1 x ⟨L1,h3,λb hb=>hM b (by simp[hb])⟩
  obtain ⟨ys,z1,z2⟩:=b3m hE h4 λb hb=>hM b (by simp[hb])
  exact ⟨y::ys,⟨_,_,[],[],h1,Z,y1,z1⟩,⟨L1,h3,λb hb=>hM b (by simp[hb])⟩,z2⟩
theorem b9x (hk:F.k=E.k) (hE:∀cs x,Ro w L E cs x→∃y,F.rep w cs y [] false∧cs=f y) (h:Ro w L (Enc.sl e E) cs xs):∃ys,Ro w L (Enc.sl e F) cs ys∧Bor w L E f ys xs:=by
 obtain ⟨M,⟨a,m,c,ccs,L1,L2,h1,h2,h3,rfl,h5,h6⟩,hd⟩:=h
 obtain ⟨ys,z1,z2⟩:=b3m (E:=E) (F:=F) hE h5 λb hb=>hd b (by simp[hb])
 exact ⟨ys,⟨L1++[],⟨a,m,c,ccs,L1,[],h1,h2.trans z2.len.symm,h3,Z,z1,h6⟩,λb hb=>hd b (by simp at hb;simp[hb])⟩,z2⟩
end
section
variable {α β:Type} {E:Enc α} {F:Enc β} {f:β→List Value} {n:Nat} {w0:World} {L0:List Nat} {fr:Fr} {A H R:List HP} {G:Act→World→Prop} {a:Option Addr} {m c:Nat} {e:TypeId} {xs:List α}
theorem b1o (hE:∀w cs x M,E.rep w cs x M true→∃y,(∀w',F.rep w' cs y [] true)∧cs=f y):∀{xs:List α} {w:World} {cs:List Value} {M:List Nat},y8 E w cs xs M true→∃ys,(∀w',y8 F w' cs ys [] true)∧cs=ys.flatMap f∧ys.length=xs.length
 |[],_,_,_,h=>⟨[],λ_=>⟨h.1,Z⟩,h.1,Z⟩
 |x::xs,_,_,_,⟨c1,c2,L1,L2,h1,h2,h3,h4⟩=>by
  obtain ⟨y,y1,rfl⟩:=hE _ c1 x L1 h3
  obtain ⟨ys,z1,rfl,z3⟩:=b1o hE h4
  exact ⟨y::ys,λw'=>⟨_,_,[],[],h1,Z,y1 w',z1 w'⟩,by rw[h1,List.flatMap_cons],congrArg (· +1) z3⟩
theorem c0S (hk:F.k=E.k) (hE:∀w cs x M,E.rep w cs x M true→∃y,(∀w',F.rep w' cs y [] true)∧cs=f y) (h:∀ys,ys.length=xs.length→Ent n w0 L0 fr (ow (Enc.sl e F) [.slice a m c] ys::els E (ys.flatMap f) xs::R) G):Ent n w0 L0 fr (ow (Enc.sl e E) [.slice a m c] xs::R) G:=λac w h1 h2=>by
 obtain ⟨L,⟨Lo,LR,rfl,ho,hR⟩,hn,hst⟩:=h2
 obtain ⟨ccs,L1,L2,rfl,g1,g2,g3,g4⟩:=a0V ho
 obtain ⟨ys,z1,rfl,z3⟩:=b1o hE g3
 exact h ys z3 ac w h1 ⟨(L1++L2)++LR,⟨L1,L2++LR,by simp,⟨a,m,c,_,L1,[],Z,g1.trans z3.symm,g2,by simp,z1 w,by rw[hk];exact g4⟩,L2,LR,Z,g3,hR⟩,hn,hst⟩
theorem c0P {ys:List β} (hF:b1W F f) (hk:F.k=E.k) (h:Ent n w0 L0 fr (ow (Enc.sl e E) [.slice a m c] xs::R) G):Ent n w0 L0 fr (ow (Enc.sl e F) [.slice a m c] ys::els E (ys.flatMap f) xs::R) G:=λac w h1 h2=>by
 obtain ⟨L,⟨Lo,Lq,rfl,ho,L2,LR,rfl,he,hR⟩,hn,hst⟩:=h2
 obtain ⟨ccs,L1,Lx,rfl,g1,g2,g3,g4⟩:=a0V ho
 obtain ⟨rfl,rfl⟩:=hF.cells g3
 have hl:ys.length=xs.length:=by
  have k1:=g3.len;have k2:=y8.len he
  rw[hk] at k1
  exact Nat.eq_of_mul_eq_mul_right E.pos (k1.symm.trans k2)
 have e1:(L1++[])++(L2++LR)=(L1++L2)++LR:=by simp
 rw[e1] at hn hst
 exact h ac w h1 ⟨(L1++L2)++LR,⟨L1++L2,LR,Z,⟨a,m,c,_,L1,L2,Z,g1.trans hl,g2,Z,he,by rw[←hk];exact g4⟩,hR⟩,hn,hst⟩
theorem b5T (hH:H=A++R) (h:∀w1 L1,a0G w1 L1 w0 L0→At w0 L0 R A w1 L1→(∀X w,Hp w1 L1 X w→Hp w0 L0 (A++X) w)→Ent n w1 L1 fr R G):Ent n w0 L0 fr H G:=λa w h1 h2=>by
 subst hH
 refine a0n (w0:=w0) (L0:=L0) (fr:=fr) (A:=A) (R:=R) (G:=G) (H:=A++R) Z ?_ a w h1 h2
 intro w1 L1 hB hA
 refine h w1 L1 hB hA ?_
 obtain ⟨⟨LA,k1,k2,k3,k4⟩⟩:=hA
 rintro X w' ⟨L',q1,q2,q3⟩
 have hAw:∀b∈LA,w'.heap[b]? =w1.heap[b]? :=λb hb=>q3.keep b (k2.inh b hb) λhp=>(List.nodup_append.1 k3).2.2 b hp b hb Z
 refine ⟨LA++L',Sep.append.2 ⟨LA,L',Z,k2.stable hAw,q1⟩,List.nodup_append.2 ⟨(List.nodup_append.1 k3).2.1,q2,λu hu v hv e=>?_⟩,?_⟩
 ·subst e
  rcases q3.sub u hv with h3|h3
  ·exact (List.nodup_append.1 k3).2.2 u h3 u hu Z
  ·have:=k2.inh u hu;omega
 ·refine ⟨q3.os.trans k4.os,q3.tape.trans k4.tape,q3.output.trans k4.output,Nat.le_trans k4.size q3.size,λb hb h0=>?_,λb hb=>?_⟩
  ·refine (q3.keep b (Nat.lt_of_lt_of_le hb k4.size) λhp=>?_).trans (k4.keep b hb h0)
   rcases k4.sub b (by simp[hp]) with h3|h3
   ·exact h0 h3
   ·omega
  ·rcases List.mem_append.1 hb with hb|hb
   ·exact k4.sub b (by simp[hb])
   ·rcases q3.sub b hb with h3|h3
    ·exact k4.sub b (by simp[h3])
    ·exact .inr (Nat.le_trans k4.size h3)
theorem b7O {w1:World} {L1:List Nat} (hU:∀X w,Hp w1 L1 X w→Hp w0 L0 (A++X) w) (h:Ent n w0 L0 fr (A++H) G):Ent n w1 L1 fr H G:=λa w h1 h2=>h a w h1 (hU _ _ h2)
theorem At.elsB {pre rest:List HP} {w:World} {Lp:List Nat} {ys:List β} (hA:At w0 L0 pre rest w Lp) (hf:∀y,(f y).length=E.k) (hl:ys.length=xs.length) (hm:els E (ys.flatMap f) xs∈rest):Bor w Lp E f ys xs:=by
 obtain ⟨⟨Lr,h1,h2,h3,h4⟩⟩:=hA
 obtain ⟨L',r1,r2⟩:=h2.mem hm
 obtain ⟨M,m1,m2⟩:=y8.ro r1
 exact b3p hf hl m2 λb hb hp=>(List.nodup_append.1 h3).2.2 b hp b (r2 b (m1 b hb)) Z
end

abbrev a6M:TypeId:=tMethod
abbrev U9:Enc (Int×(Option Addr×Nat×Nat)×Int×Int×Int):=Enc.pair Enc.int (Enc.pair Enc.rsl (Enc.pair Enc.int (Enc.pair Enc.int Enc.int)))
abbrev I0:Enc (List (Int×(Option Addr×Nat×Nat)×Int×Int×Int)):=Enc.sl a6M U9
def a0O (y:Int×(Option Addr×Nat×Nat)×Int×Int×Int):List Value:=[.int .i64 y.1,.slice y.2.1.1 y.2.1.2.1 y.2.1.2.2,.int .i64 y.2.2.1,.int .i64 y.2.2.2.1,.int .i64 y.2.2.2.2]
theorem b4d:Plain U9:=(Plain.pair Plain.int (Plain.pair Plain.rsl (Plain.pair Plain.int (Plain.pair Plain.int Plain.int))))
theorem b5N:b1W U9 a0O:=by
 rintro w cs y L o ⟨_,_,_,_,rfl,rfl,h0,⟨_,_,_,_,rfl,rfl,h1,⟨_,_,_,_,rfl,rfl,h2,⟨_,_,_,_,rfl,rfl,h3,h4⟩⟩⟩⟩
 obtain ⟨rfl,_,rfl⟩:=h0
 obtain ⟨rfl,rfl⟩:=h1
 obtain ⟨rfl,_,rfl⟩:=h2
 obtain ⟨rfl,_,rfl⟩:=h3
 obtain ⟨rfl,_,rfl⟩:=h4
 exact ⟨Z,Z⟩
theorem b7m {w:World} {L:List Nat}:∀cs x,Ro w L V6 cs x→∃y,(U9).rep w cs y [] false∧cs=a0O y:=by
 intro cs x h
 obtain ⟨a0,c0,rfl,i0,r1,i2,i3,i4⟩:=P9 h
 exact ⟨(x.1,(a0,x.2.1.length,c0),x.2.2.1,x.2.2.2.1,x.2.2.2.2),⟨_,_,[],[],Z,Z,⟨Z,i0,Z⟩,⟨_,_,[],[],Z,Z,⟨Z,Z⟩,⟨_,_,[],[],Z,Z,⟨Z,i2,Z⟩,⟨_,_,[],[],Z,Z,⟨Z,i3,Z⟩,⟨Z,i4,Z⟩⟩⟩⟩⟩,Z⟩
theorem a7X {w:World} {L:List Nat} {y:Int×(Option Addr×Nat×Nat)×Int×Int×Int} {x:Int×List Int×Int×Int×Int} (h:Ro w L V6 (a0O y) x):y.1=x.1∧Ro w L eIs [.slice y.2.1.1 y.2.1.2.1 y.2.1.2.2] x.2.1∧y.2.2.1=x.2.2.1∧y.2.2.2.1=x.2.2.2.1∧y.2.2.2.2=x.2.2.2.2:=by
 obtain ⟨a0,c0,e,i0,r1,i2,i3,i4⟩:=P9 h
 simp only[a0O,List.cons.injEq,Value.int.injEq,Value.slice.injEq,true_and,and_true] at e
 obtain ⟨e0,⟨e1a,e1b,e1c⟩,e2,e3,e4⟩:=e
 exact ⟨e0,(by rw[e1a,e1b,e1c];exact r1),e2,e3,e4⟩
theorem a9y {w0:World} {L0:List Nat} {cs:List Value} {x:Int×(Option Addr×Nat×Nat)×Int×Int×Int} (h:Ro w0 L0 U9 cs x):cs=[.int .i64 x.1,.slice x.2.1.1 x.2.1.2.1 x.2.1.2.2,.int .i64 x.2.2.1,.int .i64 x.2.2.2.1,.int .i64 x.2.2.2.2]∧I64 x.1∧I64 x.2.2.1∧I64 x.2.2.2.1∧I64 x.2.2.2.2:=by
 obtain ⟨_,_,rfl,h0,g0⟩:=Ro.pair h
 obtain ⟨rfl,j0⟩:=h0.int
 obtain ⟨_,_,rfl,h1,g1⟩:=Ro.pair g0
 obtain rfl:=h1.rsl
 obtain ⟨_,_,rfl,h2,g2⟩:=Ro.pair g1
 obtain ⟨rfl,j2⟩:=h2.int
 obtain ⟨_,_,rfl,h3,g3⟩:=Ro.pair g2
 obtain ⟨rfl,j3⟩:=h3.int
 obtain ⟨rfl,j4⟩:=g3.int
 exact ⟨Z,j0,j2,j3,j4⟩
theorem c3R {w0:World} {L0:List Nat} {x:Int×(Option Addr×Nat×Nat)×Int×Int×Int} (h0:I64 x.1) (h2:I64 x.2.2.1) (h3:I64 x.2.2.2.1) (h4:I64 x.2.2.2.2):Ro w0 L0 U9 [.int .i64 x.1,.slice x.2.1.1 x.2.1.2.1 x.2.1.2.2,.int .i64 x.2.2.1,.int .i64 x.2.2.2.1,.int .i64 x.2.2.2.2] x:=(U4 (W7 h0) (U4 b0v (U4 (W7 h2) (U4 (W7 h3) (W7 h4)))))
theorem a2e {x:Int×(Option Addr×Nat×Nat)×Int×Int×Int} (h0:I64 x.1) (h2:I64 x.2.2.1) (h3:I64 x.2.2.2.1) (h4:I64 x.2.2.2.2):Own ([]++([]++([]++([]++[])))) U9 [.int .i64 x.1,.slice x.2.1.1 x.2.1.2.1 x.2.1.2.2,.int .i64 x.2.2.1,.int .i64 x.2.2.2.1,.int .i64 x.2.2.2.2] x:=(Own.pair (Own.int h0) (Own.pair Own.rsl (Own.pair (Own.int h2) (Own.pair (Own.int h3) (Own.int h4)))))
theorem b5B {n:Nat} {w0:World} {L0:List Nat} {fr:Fr} {R:List HP} {G:Act→World→Prop} {cs:List Value} {x:Int×(Option Addr×Nat×Nat)×Int×Int×Int} (h:cs=[.int .i64 x.1,.slice x.2.1.1 x.2.1.2.1 x.2.1.2.2,.int .i64 x.2.2.1,.int .i64 x.2.2.2.1,.int .i64 x.2.2.2.2]→I64 x.1→I64 x.2.2.1→I64 x.2.2.2.1→I64 x.2.2.2.2→Ent n w0 L0 fr R G):Ent n w0 L0 fr (ow U9 cs x::R) G:=λa w h1 h2=>by
 obtain ⟨L,⟨Lx,LR,rfl,hx,hR⟩,hn,hst⟩:=h2
 obtain ⟨_,_,_,_,rfl,rfl,h0,⟨_,_,_,_,rfl,rfl,h1,⟨_,_,_,_,rfl,rfl,h2,⟨_,_,_,_,rfl,rfl,h3,h4⟩⟩⟩⟩:=hx
 obtain ⟨rfl,i0,rfl⟩:=h0
 obtain ⟨rfl,rfl⟩:=h1
 obtain ⟨rfl,i2,rfl⟩:=h2
 obtain ⟨rfl,i3,rfl⟩:=h3
 obtain ⟨rfl,i4,rfl⟩:=h4
 refine h Z i0 i2 i3 i4 a w h1 ⟨LR,hR,?_,?_⟩
 ·simpa using hn
 ·simpa using hst
theorem Ro.bMethodB {w:World} {L:List Nat} {cs:List Value} {xs:List (Int×List Int×Int×Int×Int)} (h:Ro w L F0 cs xs):∃ys,Ro w L I0 cs ys∧Bor w L V6 a0O ys xs:=b9x (F:=U9) Z b7m h
theorem At.bMethodB {w0 w:World} {L0 Lp:List Nat} {pre rest:List HP} {a:Option Addr} {m c:Nat} {ys:List (Int×(Option Addr×Nat×Nat)×Int×Int×Int)} {xs:List (Int×List Int×Int×Int×Int)} (hA:At w0 L0 pre rest w Lp) (hm:Go.Proofs.YthapcdhdfaibkaaGreatDoor.ow I0 [.slice a m c] ys∈rest) (hb:Bor w0 L0 V6 a0O ys xs):Ro w Lp F0 [.slice a m c] xs:=hA.owB b5N Z hm hb
abbrev a8Q:TypeId:=tQuery
abbrev a0r:Enc ((Option Addr×Nat×Nat)×Option Addr×Nat×Nat):=Enc.pair Enc.rsl Enc.rsl
abbrev a0d:Enc (List ((Option Addr×Nat×Nat)×Option Addr×Nat×Nat)):=Enc.sl a8Q a0r
def a3f (y:(Option Addr×Nat×Nat)×Option Addr×Nat×Nat):List Value:=[.slice y.1.1 y.1.2.1 y.1.2.2,.slice y.2.1 y.2.2.1 y.2.2.2]
theorem b5M:Plain a0r:=(Plain.pair Plain.rsl Plain.rsl)
theorem b0R:b1W a0r a3f:=by
 rintro w cs y L o ⟨_,_,_,_,rfl,rfl,h0,h1⟩
 obtain ⟨rfl,rfl⟩:=h0
 obtain ⟨rfl,rfl⟩:=h1
 exact ⟨Z,Z⟩
theorem b8i {w:World} {L:List Nat}:∀cs x,Ro w L O6 cs x→∃y,(a0r).rep w cs y [] false∧cs=a3f y:=by
 intro cs x h
 obtain ⟨a0,c0,a1,c1,rfl,r0,r1⟩:=P7 h
 exact ⟨((a0,x.1.length,c0),(a1,x.2.length,c1)),⟨_,_,[],[],Z,Z,⟨Z,Z⟩,⟨Z,Z⟩⟩,Z⟩
theorem b8q:∀w cs x M,(O6).rep w cs x M true→∃y,(∀w',(a0r).rep w' cs y [] true)∧cs=a3f y:=by
 rintro w cs x M ⟨_,_,_,_,rfl,rfl,h0,h1⟩
 obtain ⟨a0,m0,c0,_,_,_,rfl,_⟩:=h0
 obtain ⟨a1,m1,c1,_,_,_,rfl,_⟩:=h1
 exact ⟨((a0,m0,c0),(a1,m1,c1)),λw'=>⟨_,_,[],[],Z,Z,⟨Z,Z⟩,⟨Z,Z⟩⟩,Z⟩
theorem b5J {w:World} {L:List Nat} {y:(Option Addr×Nat×Nat)×Option Addr×Nat×Nat} {x:List Int×List IL} (h:Ro w L O6 (a3f y) x):Ro w L eIs [.slice y.1.1 y.1.2.1 y.1.2.2] x.1∧Ro w L v8 [.slice y.2.1 y.2.2.1 y.2.2.2] x.2:=by
 obtain ⟨a0,c0,a1,c1,e,r0,r1⟩:=P7 h
 simp only[a3f,List.cons.injEq,Value.int.injEq,Value.slice.injEq,true_and,and_true] at e
 obtain ⟨⟨e0a,e0b,e0c⟩,⟨e1a,e1b,e1c⟩⟩:=e
 exact ⟨(by rw[e0a,e0b,e0c];exact r0),(by rw[e1a,e1b,e1c];exact r1)⟩
theorem c4i {w0:World} {L0:List Nat} {x:(Option Addr×Nat×Nat)×Option Addr×Nat×Nat}  :Ro w0 L0 a0r [.slice x.1.1 x.1.2.1 x.1.2.2,.slice x.2.1 x.2.2.1 x.2.2.2] x:=(U4 b0v b0v)
theorem a8x {x:(Option Addr×Nat×Nat)×Option Addr×Nat×Nat}  :Own ([]++[]) a0r [.slice x.1.1 x.1.2.1 x.1.2.2,.slice x.2.1 x.2.2.1 x.2.2.2] x:=(Own.pair Own.rsl Own.rsl)
theorem b5S {n:Nat} {w0:World} {L0:List Nat} {fr:Fr} {R:List HP} {G:Act→World→Prop} {cs:List Value} {x:(Option Addr×Nat×Nat)×Option Addr×Nat×Nat} (h:cs=[.slice x.1.1 x.1.2.1 x.1.2.2,.slice x.2.1 x.2.2.1 x.2.2.2]→Ent n w0 L0 fr R G):Ent n w0 L0 fr (ow a0r cs x::R) G:=λa w h1 h2=>by
 obtain ⟨L,⟨Lx,LR,rfl,hx,hR⟩,hn,hst⟩:=h2
 obtain ⟨_,_,_,_,rfl,rfl,h0,h1⟩:=hx
 obtain ⟨rfl,rfl⟩:=h0
 obtain ⟨rfl,rfl⟩:=h1
 refine h Z  a w h1 ⟨LR,hR,?_,?_⟩
 ·simpa using hn
 ·simpa using hst
theorem Ro.bQueryB {w:World} {L:List Nat} {cs:List Value} {xs:List (List Int×List IL)} (h:Ro w L y7 cs xs):∃ys,Ro w L a0d cs ys∧Bor w L O6 a3f ys xs:=b9x (F:=a0r) Z b8i h
theorem At.bQueryB {w0 w:World} {L0 Lp:List Nat} {pre rest:List HP} {a:Option Addr} {m c:Nat} {ys:List ((Option Addr×Nat×Nat)×Option Addr×Nat×Nat)} {xs:List (List Int×List IL)} (hA:At w0 L0 pre rest w Lp) (hm:Go.Proofs.YthapcdhdfaibkaaGreatDoor.ow a0d [.slice a m c] ys∈rest) (hb:Bor w0 L0 O6 a3f ys xs):Ro w Lp y7 [.slice a m c] xs:=hA.owB b0R Z hm hb
abbrev b8W:TypeId:=tBinding
abbrev b8E:Enc ((Option Addr×Nat×Nat)×Option Addr×Nat×Nat):=Enc.pair Enc.rsl Enc.rsl
abbrev c4v:Enc (List ((Option Addr×Nat×Nat)×Option Addr×Nat×Nat)):=Enc.sl b8W b8E
def c4X (y:(Option Addr×Nat×Nat)×Option Addr×Nat×Nat):List Value:=[.slice y.1.1 y.1.2.1 y.1.2.2,.slice y.2.1 y.2.2.1 y.2.2.2]
abbrev c3n:TypeId:=tFact
abbrev c3w:Enc (Int×Option Addr×Nat×Nat):=Enc.pair Enc.int Enc.rsl
abbrev c6b:Enc (List (Int×Option Addr×Nat×Nat)):=Enc.sl c3n c3w
def c6k (y:Int×Option Addr×Nat×Nat):List Value:=[.int .i64 y.1,.slice y.2.1 y.2.2.1 y.2.2.2]
end Go.Proofs.YthapcdhdfaibkaaGreatDoor
