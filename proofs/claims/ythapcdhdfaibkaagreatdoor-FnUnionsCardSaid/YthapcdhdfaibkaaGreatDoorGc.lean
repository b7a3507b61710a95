import Derived.Test.YthapcdhdfaibkaaGreatDoorBu
import Derived.Test.YthapcdhdfaibkaaGreatDoorGa
section
namespace Go.Proofs.YthapcdhdfaibkaaGreatDoor
set_option linter.all false
def V9 (m:Int×(Option Addr×Nat×Nat)×Int×Int×Int):Int×(Option Addr×Nat×Nat)×Int×Int×Int:=cond (decide (m.2.2.1≠0)) (-1,m.2) m
def exB (l:List (Int×(Option Addr×Nat×Nat)×Int×Int×Int)):List (Int×(Option Addr×Nat×Nat)×Int×Int×Int):=l.map V9
section
variable {l:List (Int×(Option Addr×Nat×Nat)×Int×Int×Int)} {xs:List MT5} {g:Nat} {w:World} {L:List Nat}
theorem c2p:((l.take g).map V9++l.drop g).length=l.length:=by rw[List.length_append,List.length_map, ←List.length_append,List.take_append_drop]
theorem c3Q (h:g<l.length):((l.take g).map V9++l.drop g)[g]? =some l[g]:=by
 rw[List.getElem?_append_right (by simp;omega)]
 simp[Nat.min_eq_left (Nat.le_of_lt h),h]
theorem b9g (h:g<l.length) {x:Int×(Option Addr×Nat×Nat)×Int×Int×Int} (hx:x=V9 l[g]):((l.take g).map V9++l.drop g).set g x=(l.take (g+1)).map V9++l.drop (g+1):=by
 have h1:((l.take g).map V9).length=g:=by simp;omega
 rw[List.set_append,if_neg (by omega),h1,Nat.sub_self,List.drop_eq_getElem_cons h,List.set_cons_zero,List.take_succ_eq_append_getElem h,List.map_append,List.append_assoc,hx];rfl
theorem c2n (h:g<l.length) (hx:l[g].2.2.1≠0):((l.take g).map V9++l.drop g).set g (-1,l[g].2.1,l[g].2.2.1,l[g].2.2.2.1,l[g].2.2.2.2)=(l.take (g+1)).map V9++l.drop (g+1):=b9g h (by unfold V9;rw[decide_eq_true hx];rfl)
theorem c1R (h:g<l.length) (hx:¬l[g].2.2.1≠0):((l.take g).map V9++l.drop g).set g l[g]=(l.take (g+1)).map V9++l.drop (g+1):=b9g h (by unfold V9;rw[decide_eq_false hx];rfl)
theorem b6q (h:g<l.length) {x:Int×(Option Addr×Nat×Nat)×Int×Int×Int} (hx:x=V9 l[g]):(l.take g).map V9++[x]=(l.take (g+1)).map V9:=by
 rw[List.take_succ_eq_append_getElem h,List.map_append,hx];rfl
theorem b4t (h:g<l.length) (hx:l[g].2.2.1≠0):(l.take g).map V9++[(-1,l[g].2.1,l[g].2.2.1,l[g].2.2.2.1,l[g].2.2.2.2)]=(l.take (g+1)).map V9:=b6q h (by unfold V9;rw[decide_eq_true hx];rfl)
theorem b4Q (h:g<l.length) (hx:¬l[g].2.2.1≠0):(l.take g).map V9++[l[g]]=(l.take (g+1)).map V9:=b6q h (by unfold V9;rw[decide_eq_false hx];rfl)
theorem c2S (h:¬g<l.length):(l.take g).map V9=exB l:=by rw[List.take_of_length_le (by omega)];rfl
theorem c2y (h:¬g<l.length):(l.take g).map V9++l.drop g=exB l:=by
 rw[List.take_of_length_le (by omega),List.drop_eq_nil_of_le (by omega),List.append_nil];rfl
theorem b7E (h:Bor w L V6 a0O l xs):Bor w L V6 a0O (exB l) (exF xs):=by
 refine h.map λy x hx=>?_
 have hp:=a7X hx
 obtain ⟨h1,h2,h3,h4,h5⟩:=hp
 unfold V9 exM
 rw[h3]
 cases decide (x.2.2.1≠0)
 ·exact hx
 ·simp only[cond_true]
  obtain ⟨a0,c0,e,i0,r1,i2,i3,i4⟩:=P9 hx
  rw[show a0O (-1,y.2)=[.int .i64 (-1:Int),.slice y.2.1.1 y.2.1.2.1 y.2.1.2.2,.int .i64 x.2.2.1,.int .i64 x.2.2.2.1,.int .i64 x.2.2.2.2] from by rw[←h3, ←h4, ←h5];rfl]
  exact a9x (x:=(-1,x.2)) (by unfold I64;omega) h2 i2 i3 i4
end
end Go.Proofs.YthapcdhdfaibkaaGreatDoor
end
section
namespace Go.Proofs.YthapcdhdfaibkaaGreatDoor
set_option linter.all false
theorem c5W {P:Program} {n:Nat} {fr:Fr} {x:Operand} {s ft:TypeId} {f o k:Nat} {z:List Value} {by':Nat} {cs:List Value} {v:Value} (hf:V0 P s f=some (o,ft)) (ht:TyOk P ft false k z by') (hx:ev fr x=some (.agg cs.toArray)) (hv:cs[o]? =some v):Yp P n fr (.field s x f) v:=λac h w' d t p af g=>by
 unfold V0 at hf
 split at hf
 ·rename_i fs hs
  obtain ⟨fd,h1,h2⟩:=Option.map_eq_some_iff.1 hf
  simp only[Prod.mk.injEq] at h2
  obtain ⟨rfl,rfl⟩:=h2
  simp[execOp,Instr.field,h.ev hx,run_underlying hs,h1,part,ht.run_isAgg,asAgg,hv]
 ·cases hf
def B3 (l:List MT5):List MT5:=l.filter λm=>decide (m.2.2.1=0)
def rk (l:List MT5) (i:Int):Int:=if i<0 then i else ((B3 (l.take i.toNat)).length:Int)
def rkS (l:List MT5) (x:Stp):Stp:=(x.1,rk l x.2)
section
variable {s:List Int} {l L M:List MT5} {d7 al:List AT2} {ds:List Bool} {a:AT2} {b b':List Int} {i n g k:Nat} {S R:List Stp} {d6:List Fct} {m:MT5} {q:List Int×List AT2}
theorem a6D (h:0≤I5 l a b):∃i,∃hi:i<l.length,I5 l a b=(i:Int)∧(∀x∈l.take i,M4 x a b=false)∧M4 l[i] a b=true:=by
 unfold I5 J0 at h ⊢
 by_cases hc:l.any (λm=>M4 m a b)=true
 ·rw[if_pos hc]
  obtain ⟨x,hx,hp⟩:=List.any_eq_true.1 hc
  have hi:=List.findIdx_lt_length_of_exists (p:=λm=>M4 m a b) ⟨x,hx,hp⟩
  refine ⟨_,hi,Z,λy hy=>?_,List.findIdx_getElem (w:=hi)⟩
  obtain ⟨j,hj,rfl⟩:=List.mem_take_iff_getElem.1 hy
  simpa using List.not_of_lt_findIdx (show j<l.findIdx (λm=>M4 m a b) by omega)
 ·rw[if_neg hc] at h;omega
theorem b1K (h:0≤a.1):M4 (exM m) a b=(decide (m.2.2.1=0)&&M4 m a b):=by
 unfold exM
 by_cases hl:m.2.2.1=0
 ·simp[hl]
 ·have h2:¬(-1:Int)=a.1:=by omega
  simp[hl,M4,h2]
theorem b7g (h:i<l.length) (h0:l[i].2.2.1=0):B3 l=B3 (l.take i)++l[i]::B3 (l.drop (i+1)):=by
 have e:l=l.take i++l[i]::l.drop (i+1):=by rw[←List.drop_eq_getElem_cons h,List.take_append_drop]
 unfold B3
 conv=>lhs;rw[e]
 rw[List.filter_append,List.filter_cons_of_pos (by simpa using h0)]
theorem c3h:rk l (i:Int)=((B3 (l.take i)).length:Int):=by rw[rk,if_neg (by omega),Int.toNat_natCast]
theorem b2H {i:Int}:decide (0≤rk l i)=decide (0≤i):=by
 unfold rk;split<;>(apply decide_eq_decide.2;omega)
theorem b5b (h:¬0≤I5 l a b):I5 l a b= -1:=by unfold I5 at h ⊢;have:=a3i (p:=λm=>M4 m a b) (s:=l);omega
theorem a5I (ha:0≤a.1):I5 (B3 l) a b=rk l (I5 (exF l) a b)∧(0≤I5 (exF l) a b→(I5 (exF l) a b).toNat<l.length∧(atM l (I5 (exF l) a b)).2.2.1=0∧atM (B3 l) (rk l (I5 (exF l) a b))=atM l (I5 (exF l) a b)∧M4 (atM l (I5 (exF l) a b)) a b=true):=by
 by_cases h0:0≤I5 (exF l) a b
 ·obtain ⟨i,hi,e,hn,hy⟩:=a6D h0
  have hi':i<l.length:=by simpa[exF] using hi
  have ey:M4 (exM l[i]) a b=true:=by simpa[exF] using hy
  rw[b1K ha,Bool.and_eq_true,decide_eq_true_eq] at ey
  have hs:=b7g hi' ey.1
  have hk:(B3 (l.take i)).length<(B3 l).length:=by rw[hs,List.length_append,List.length_cons];omega
  have hg:(B3 l)[(B3 (l.take i)).length]'hk=l[i]:=by
   have:(B3 l)[(B3 (l.take i)).length]? =some l[i]:=by rw[hs];simp
   exact (List.getElem?_eq_some_iff.1 this).2
  have e2:I5 (B3 l) a b=((B3 (l.take i)).length:Int):=by
   refine (P3 (p:=λm=>M4 m a b) hk (λx hx=>?_) (by rw[hg];exact ey.2)).symm
   rw[hs,List.take_left] at hx
   obtain ⟨hx1,hx2⟩:=List.mem_filter.1 hx
   have h9:=hn (exM x) (by unfold exF;rw[←List.map_take];exact List.mem_map_of_mem hx1)
   rw[b1K ha,hx2,Bool.true_and] at h9
   exact h9
  rw[e,e2,c3h]
  have ea:atM l (i:Int)=l[i]:=by rw[atM,Int.toNat_natCast];exact L5 hi'
  refine ⟨Z,λ_=>⟨by rw[Int.toNat_natCast];exact hi',by rw[ea];exact ey.1,?_,by rw[ea];exact ey.2⟩⟩
  rw[ea,atM,Int.toNat_natCast,L5 hk,hg]
 ·have h1:=b5b h0
  refine ⟨?_,λh=>absurd h h0⟩
  rw[h1,show rk l (-1)= -1 from Z]
  refine b5b λh2=>h0 ?_
  obtain ⟨i,hi,e,hn,hy⟩:=a6D h2
  have hm:=List.mem_filter.1 (List.getElem_mem hi)
  have h3:(exF l).any (λm=>M4 m a b)=true:=List.any_eq_true.2 ⟨exM (B3 l)[i],List.mem_map_of_mem hm.1,by rw[b1K ha,hm.2,Bool.true_and];exact hy⟩
  have h4:=W1 (p:=λm=>M4 m a b) (s:=exF l)
  rw[h3] at h4;exact of_decide_eq_true h4
theorem b3R:∀{al:List AT2} {ds:List Bool} {i:Nat},(∀a∈al,0≤a.1)→F7 (B3 l) b al ds i=((F7 (exF l) b al ds i).1,rk l (F7 (exF l) b al ds i).2.1,(F7 (exF l) b al ds i).2.2)
 |[],_,_,_=>rfl
 |_::_,[],_,_=>rfl
 |a::al,d::ds,i,h=>by
  have h1:=(a5I (l:=l) (b:=b) (h a (List.mem_cons_self ..))).1
  by_cases hc:(!d&&decide (0≤I5 (exF l) a b))=true
  ·rw[a6n hc,a6n (by rw[h1,b2H];exact hc),h1]
  ·rw[a4X hc,a4X (by rw[h1,b2H];exact hc)]
   exact b3R λx hx=>h x (List.mem_cons_of_mem _ hx)
theorem b1G (h:∀a∈d7,0≤a.1):grI (B3 l) d7 n=((grI (exF l) d7 n).1.map (rkS l),(grI (exF l) d7 n).2):=by
 induction n with
 |zero=>rfl
 |succ n ih=>
  have e:gNx (B3 l) d7 (grI (B3 l) d7 n)=((gNx (exF l) d7 (grI (exF l) d7 n)).1,rk l (gNx (exF l) d7 (grI (exF l) d7 n)).2.1,(gNx (exF l) d7 (grI (exF l) d7 n)).2.2):=by
   rw[ih];exact b3R h
  cases hx:(gNx (exF l) d7 (grI (exF l) d7 n)).2.2
  ·rw[a0t hx,a0t (by rw[e];exact hx),ih]
  ·rw[X2 hx,X2 (by rw[e];exact hx),e,ih]
   simp[rkS]
theorem b9P:(grI l d7 n).2.2=stB d7 (grI l d7 n).1:=by
 induction n with
 |zero=>rfl
 |succ n ih=>
  cases hx:(gNx l d7 (grI l d7 n)).2.2
  ·rw[a0t hx];exact ih
  ·rw[X2 hx]
   show _++_=stB d7 (_++[_])
   unfold stB
   rw[List.foldl_append]
   show _=stB d7 (grI l d7 n).1++_
   rw[←ih];rfl
theorem b6F:∀{g:Nat},g≤S.length→S6 l d7 (S++R) g=S6 l d7 S g
 |0,_=>rfl
 |g+1,h=>by rw[S6,S6,b6F (by omega),List.take_append_of_le_length (by omega),L5 (by rw[List.length_append];omega),L5 (by omega),List.getElem_append_left]
theorem b7Z (hM:∀a∈d7,∀b,0≤I5 L a b→(I5 L a b).toNat<M.length∧M4 (atM M (I5 L a b)) a b=true):S6 M d7 (grI L d7 n).1 (grI L d7 n).1.length=true:=by
 induction n with
 |zero=>rfl
 |succ n ih=>
  cases hx:(gNx L d7 (grI L d7 n)).2.2
  ·rw[a0t hx];exact ih
  ·rw[X2 hx]
   obtain ⟨k,h1,h2,h3,a,h4,h5,h6⟩:=a3D (show (F7 L (grI L d7 n).2.2 d7 (grI L d7 n).2.1 0).2.2=true from hx)
   have e1:(gNx L d7 (grI L d7 n)).1=(k:Int):=by unfold gNx;rw[h1];simp
   have e3:(gNx L d7 (grI L d7 n)).2.1=I5 L a (grI L d7 n).2.2:=h5
   have ea:atA d7 (k:Int)=a:=by unfold atA;rw[Int.toNat_natCast,List.getD,h4];rfl
   obtain ⟨hm1,hm2⟩:=hM a (List.mem_of_getElem? h4) _ h6
   rw[e1,e3]
   show S6 M d7 _ ((grI L d7 n).1++[_]).length=true
   rw[List.length_append,List.length_singleton,S6,b6F (Nat.le_refl _),ih,Bool.true_and,List.take_left,L5 (by simp),List.getElem_append_right (Nat.le_refl _)]
   have d1:=(a8V (l:=L) (d7:=d7) (n:=n)).1 k
   simp only[List.getD,h3,Option.getD_some] at d1
   simp only[Nat.sub_self,List.getElem_singleton,X8,Bool.and_eq_true]
   refine ⟨?_,?_,?_,?_⟩
   ·unfold inR;exact decide_eq_true (by omega)
   ·unfold stU;rw[←d1];rfl
   ·unfold inR;exact decide_eq_true (by omega)
   ·rw[ea, ←b9P];exact hm2
theorem b5p:∀{al:List AT2} {ds:List Bool} {i:Nat},(F7 l b al ds i).2.2=false→∀(k:Nat) (a:AT2),al[k]? =some a→ds[k]? =some false→¬0≤I5 l a b
 |[],_,_,_,k,a,h1,_=>by simp at h1
 |_::_,[],_,_,k,a,_,h2=>by simp at h2
 |x::al,d::ds,i,h,k,a,h1,h2=>by
  by_cases hc:(!d&&decide (0≤I5 l x b))=true
  ·rw[a6n hc] at h;cases h
  ·rw[a4X hc] at h
   cases k with
   |zero=>
    simp only[List.getElem?_cons_zero,Option.some.injEq] at h1 h2
    subst h1;subst h2
    simpa using hc
   |succ k=>exact b5p h k a (by simpa using h1) (by simpa using h2)
theorem b9Q (h:∀v∈b,v∈b') (hc:M4 m a b=true):M4 m a b'=true:=by
 simp only[M4,Bool.and_eq_true,Bool.not_eq_true',List.any_eq_false] at hc ⊢
 refine ⟨hc.1,λi hi hb=>hc.2 i hi ?_⟩
 simp only[a1a,Bool.or_eq_true,Bool.and_eq_true,Bool.not_eq_true'] at hb ⊢
 rcases hb with hb|⟨h1,h2⟩
 ·exact .inl hb
 ·refine .inr ⟨h1,?_⟩
  cases e:H6 b (at0 a.2 i) with
  |false=>rfl
  |true=>rw[a0y.2 (h _ (a0y.1 e))] at h2;cases h2
theorem b2G (h:∀v∈b,v∈b') (hc:0≤I5 l a b):0≤I5 l a b':=by
 obtain ⟨i,hi,e,hn,hy⟩:=a6D hc
 have h3:l.any (λm=>M4 m a b')=true:=List.any_eq_true.2 ⟨l[i],List.getElem_mem hi,b9Q h hy⟩
 have h4:=W1 (p:=λm=>M4 m a b') (s:=l)
 rw[h3] at h4;exact of_decide_eq_true h4
theorem c0z:(gNx l d7 (grF l d7)).2.2=false:=by
 cases hx:(gNx l d7 (grF l d7)).2.2 with
 |false=>rfl
 |true=>
  have h1:∀n,n≤d7.length→(gNx l d7 (grI l d7 n)).2.2=true:=λn hn=>by
   cases hy:(gNx l d7 (grI l d7 n)).2.2 with
   |true=>rfl
   |false=>
    have:=b1H hy (d7.length-n)
    rw[show n+(d7.length-n)=d7.length from by omega] at this
    unfold grF at hx;rw[this,hy] at hx;cases hx
  have h2:∀n,n≤d7.length→grP l d7 n:=λn=>by
   induction n with
   |zero=>exact λ_=>b6h
   |succ n ih=>exact λhn=>b6P (ih (by omega)) (h1 n (by omega))
  have h3:=c0X (h2 _ (Nat.le_refl _)) hx
  omega
theorem b3x (h:(grI l d7 n).2.1[k]? =some true) (ha:d7[k]? =some a):∀v∈a.2,v∈(grI l d7 n).2.2:=by
 induction n with
 |zero=>simp only[grI,List.getElem?_replicate] at h;split at h<;>simp at h
 |succ n ih=>
  cases hx:(gNx l d7 (grI l d7 n)).2.2
  ·rw[a0t hx] at h ⊢;exact ih h
  ·rw[X2 hx] at h ⊢
   intro v hv
   by_cases e:(gNx l d7 (grI l d7 n)).1.toNat=k
   ·refine List.mem_append_right _ ?_
    rw[e,List.getD,ha];exact hv
   ·rw[List.getElem?_set_ne e] at h
    exact List.mem_append_left _ (ih h v hv)
theorem a7U (h:(grI l d7 n).2.1[k]? =some true):∀j,(grI l d7 (n+j)).2.1[k]? =some true
 |0=>h
 |j+1=>by
  have h1:=a7U h j
  rw[←Nat.add_assoc]
  cases hx:(gNx l d7 (grI l d7 (n+j))).2.2
  ·rw[a0t hx];exact h1
  ·rw[X2 hx]
   show (List.set _ _ _)[k]? =_
   rw[List.getElem?_set]
   have:=(List.getElem?_eq_some_iff.1 h1).1
   split
   ·rename_i e;subst e;rw[if_pos this]
   ·exact h1
theorem b8p (h:(grI l d7 n).2.1[k]? =some true) (ha:d7[k]? =some a):∃j,j<n∧0≤I5 l a (grI l d7 j).2.2:=by
 induction n with
 |zero=>simp only[grI,List.getElem?_replicate] at h;split at h<;>simp at h
 |succ n ih=>
  cases hx:(gNx l d7 (grI l d7 n)).2.2
  ·rw[a0t hx] at h;obtain ⟨j,hj,h2⟩:=ih h;exact ⟨j,by omega,h2⟩
  ·rw[X2 hx] at h
   obtain ⟨k',h1,h2,h3,a',h4,h5,h6⟩:=a3D (show (F7 l (grI l d7 n).2.2 d7 (grI l d7 n).2.1 0).2.2=true from hx)
   have e1:(gNx l d7 (grI l d7 n)).1.toNat=k':=by unfold gNx;rw[h1];simp
   by_cases e:k'=k
   ·subst e;rw[ha] at h4;cases h4;exact ⟨n,by omega,h6⟩
   ·rw[e1,List.getElem?_set_ne e] at h
    obtain ⟨j,hj,h2⟩:=ih h;exact ⟨j,by omega,h2⟩
theorem b4p (hx:(gNx l d7 (grI l d7 n)).2.2=true):∃k a,d7[k]? =some a∧(gNx l d7 (grI l d7 n)).1.toNat=k∧0≤I5 l a (grI l d7 n).2.2∧(grI l d7 (n+1)).2.1[k]? =some true:=by
 obtain ⟨k,h1,h2,h3,a,h4,h5,h6⟩:=a3D (show (F7 l (grI l d7 n).2.2 d7 (grI l d7 n).2.1 0).2.2=true from hx)
 have e1:(gNx l d7 (grI l d7 n)).1.toNat=k:=by unfold gNx;rw[h1];simp
 refine ⟨k,a,h4,e1,h6,?_⟩
 rw[X2 hx]
 show (List.set _ _ _)[k]? =_
 rw[e1,List.getElem?_set_self ((List.getElem?_eq_some_iff.1 h3).1)]
theorem a7Z:∀{al:List AT2} {ds:List Bool},a∈N0 al ds↔ ∃k:Nat,al[k]? =some a∧ds[k]? =some true
 |[],ds=>by simp[N0]
 |x::al,[]=>by simp[N0]
 |x::al,d::ds=>by
  have ih:=a7Z (al:=al) (ds:=ds)
  unfold N0 at ih ⊢
  rw[List.zip_cons_cons,List.filter_cons]
  constructor
  ·intro h
   cases d with
   |true=>
    simp only[if_true,List.map_cons,List.mem_cons] at h
    rcases h with h|h
    ·exact ⟨0,by simp[h],Z⟩
    ·obtain ⟨k,h1,h2⟩:=ih.1 h;exact ⟨k+1,by simpa using h1,by simpa using h2⟩
   |false=>obtain ⟨k,h1,h2⟩:=ih.1 (by simpa using h);exact ⟨k+1,by simpa using h1,by simpa using h2⟩
  ·rintro ⟨k,h1,h2⟩
   cases k with
   |zero=>simp only[List.getElem?_cons_zero,Option.some.injEq] at h1 h2;subst h1;subst h2;simp
   |succ k=>
    have:=ih.2 ⟨k,by simpa using h1,by simpa using h2⟩
    cases d
    ·simpa using this
    ·simp only[if_true,List.map_cons,List.mem_cons];exact .inr this
theorem c0y:(grF L (N0 d7 (grF L d7).2.1)).1.length=(N0 d7 (grF L d7).2.1).length:=by
 generalize hP:N0 d7 (grF L d7).2.1=P
 have hno:=b5p (show (F7 L (grF L P).2.2 P (grF L P).2.1 0).2.2=false from c0z)
 have hdone:∀a∈P,0≤I5 L a (grF L P).2.2→∀v∈a.2,v∈(grF L P).2.2:=λa ha hm=>by
  obtain ⟨j,hj,e⟩:=List.getElem_of_mem ha
  have hl:j<(grF L P).2.1.length:=by unfold grF;rw[a2u];exact hj
  have ej:P[j]? =some a:=by rw[List.getElem?_eq_getElem hj,e]
  cases hd:(grF L P).2.1[j] with
  |true=>exact b3x (n:=P.length) (by rw[←hd];exact List.getElem?_eq_getElem hl) ej
  |false=>exact absurd hm (hno j a ej (by rw[←hd];exact List.getElem?_eq_getElem hl))
 have hsub:∀n,n≤d7.length→∀v∈(grI L d7 n).2.2,v∈(grF L P).2.2:=λn=>by
  induction n with
  |zero=>intro _ v hv;simp[grI] at hv
  |succ n ih=>
   intro hn v hv
   cases hx:(gNx L d7 (grI L d7 n)).2.2
   ·rw[a0t hx] at hv;exact ih (by omega) v hv
   ·obtain ⟨k,a,h1,h2,h3,h4⟩:=b4p hx
    rw[X2 hx] at hv
    rcases List.mem_append.1 hv with hv|hv
    ·exact ih (by omega) v hv
    ·rw[h2,List.getD,h1] at hv
     have h5:=a7U h4 (d7.length-(n+1))
     rw[show n+1+(d7.length-(n+1))=d7.length from by omega] at h5
     refine hdone a (by rw[←hP];exact a7Z.2 ⟨k,h1,h5⟩) (b2G (ih (by omega)) h3) v hv
 have hall:∀j (hj:j<(grF L P).2.1.length),(grF L P).2.1[j]=true:=λj hj=>by
  have hj':j<P.length:=by unfold grF at hj;rw[a2u] at hj;exact hj
  cases hd:(grF L P).2.1[j] with
  |true=>rfl
  |false=>
   have hm:P[j]∈N0 d7 (grF L d7).2.1:=by rw[hP];exact List.getElem_mem hj'
   obtain ⟨k,h1,h2⟩:=a7Z.1 hm
   obtain ⟨n,hn,h3⟩:=b8p (n:=d7.length) h2 h1
   exact absurd (b2G (hsub n (by omega)) h3) (hno j _ (List.getElem?_eq_getElem hj') (by rw[←hd];exact List.getElem?_eq_getElem hj))
 have hc:=b0c (l:=L) (d7:=P) (n:=P.length)
 have h0:(grI L P P.length).2.1.count false=0:=by
  refine List.count_eq_zero.2 λhm=>?_
  obtain ⟨j,hj,e⟩:=List.getElem_of_mem hm
  have:=hall j hj
  unfold grF at this;rw[this] at e;cases e
 unfold grF;omega
def a0g (l:List (Int×(Option Addr×Nat×Nat)×Int×Int×Int)):List (Int×(Option Addr×Nat×Nat)×Int×Int×Int):=l.filter λm=>decide (m.2.2.1=0)
theorem c3z {w:World} {L:List Nat} {lb:List (Int×(Option Addr×Nat×Nat)×Int×Int×Int)} (h:Bor w L V6 a0O lb l):Bor w L V6 a0O (a0g lb) (B3 l):=h.filter λy x hx=>by rw[(a7X hx).2.2.1]
theorem b3a {lb:List (Int×(Option Addr×Nat×Nat)×Int×Int×Int)} (h:g<lb.length) (h0:lb[g].2.2.1=0):a0g (lb.take g)++[lb[g]]=a0g (lb.take (g+1)):=by
 rw[List.take_succ_eq_append_getElem h,a0g,a0g,List.filter_append,List.filter_cons_of_pos (by simpa using h0),List.filter_nil]
theorem b2Z {lb:List (Int×(Option Addr×Nat×Nat)×Int×Int×Int)} (h:g<lb.length) (h0:¬lb[g].2.2.1=0):a0g (lb.take g)=a0g (lb.take (g+1)):=by
 rw[List.take_succ_eq_append_getElem h,a0g,a0g,List.filter_append,List.filter_cons_of_neg (by simpa using h0),List.filter_nil,List.append_nil]
theorem c1v {lb:List (Int×(Option Addr×Nat×Nat)×Int×Int×Int)} (h:¬g<lb.length):a0g (lb.take g)=a0g lb:=by rw[List.take_of_length_le (by omega)]
theorem c2w {lb:List (Int×(Option Addr×Nat×Nat)×Int×Int×Int)}:(a0g lb).length≤lb.length:=List.length_filter_le ..
theorem b9z:(B3 l).length≤l.length:=List.length_filter_le ..
theorem b0O (h:C5 s l=true):C5 s (B3 l)=true:=by
 simp only[C5,Bool.and_eq_true,decide_eq_true_eq,Bool.not_eq_true',List.any_eq_false] at h ⊢
 have h1:(B3 l).length≤l.length:=List.length_filter_le ..
 exact ⟨h.1,by omega,λm hm=>h.2.2 m (List.mem_filter.1 hm).1⟩
theorem a4j (h:w7 s q=true):∀a∈q.2,0≤a.1:=λa ha=>by
 simp only[w7,Bool.and_eq_true] at h
 cases e:P1 s a with
 |true=>
  simp only[P1,N8,Bool.and_eq_true] at e
  exact (V8 e.1.2).1
 |false=>
  have h2:(q.2.any λa=> !P1 s a)=true:=List.any_eq_true.2 ⟨a,ha,by simp[e]⟩
  rw[h2] at h;simp at h
theorem b8l {S:List Stp} (hm:C5 s M=true) (hq:w7 s q=true) (hl:S.length=q.2.length) (ho:S6 M q.2 S S.length=true):K9 s M q S=true:=by
 rw[K9,hm,hq,ho,decide_eq_true (by omega)];rfl
theorem c2Y (hm:C5 s l=true) (hq:w7 s q=true) (hl:(grF (exF l) q.2).1.length=q.2.length):K9 s l q (grF (exF l) q.2).1=true:=
 b8l hm hq hl (b7Z λa ha b h=>let h2:=(a5I (l:=l) (b:=b) (a4j hq a ha)).2 h;⟨h2.1,h2.2.2.2⟩)
theorem c0v (hm:C5 s l=true) (hq:w7 s q=true) (hl:(grF (exF l) q.2).1.length=q.2.length):K9 s (B3 l) q (grF (B3 l) q.2).1=true:=by
 refine b8l (b0O hm) hq ?_ (b7Z λa ha b h=>?_)
 ·unfold grF at hl ⊢;rw[b1G (a4j hq)];simpa using hl
 ·obtain ⟨i,hi,e,hn,hy⟩:=a6D h
  rw[e]
  exact ⟨by rw[Int.toNat_natCast];exact hi,by rw[atM,Int.toNat_natCast,L5 hi];exact hy⟩
theorem b6M:∀x∈(grI L d7 n).1,∃a b,a∈d7∧x.2=I5 L a b∧0≤I5 L a b:=by
 induction n with
 |zero=>intro x hx;simp[grI] at hx
 |succ n ih=>
  intro x hx
  cases hn:(gNx L d7 (grI L d7 n)).2.2
  ·rw[a0t hn] at hx;exact ih x hx
  ·rw[X2 hn] at hx
   rcases List.mem_append.1 hx with hx|hx
   ·exact ih x hx
   ·obtain ⟨k,h1,h2,h3,a,h4,h5,h6⟩:=a3D (show (F7 L (grI L d7 n).2.2 d7 (grI L d7 n).2.1 0).2.2=true from hn)
    simp only[List.mem_singleton] at hx;subst hx
    exact ⟨a,_,List.mem_of_getElem? h4,h5,h6⟩
theorem b4v {T:Acs→List Fct} {x:Stp}:∀{B:List Bnd} {σ:RS},(B.foldl (rb1 T l d7 x) σ).1=σ.1++B.flatMap λb=>I9 [b] (atA d7 x.1) (T (C6 l d7 x b))
 |[],σ=>by simp
 |b::B,σ=>by rw[List.foldl_cons,b4v];simp[rb1,List.append_assoc]
theorem b5e:∀{S:List Stp} {σ σ':RS},(∀x∈S,atM (B3 l) (rk l x.2)=atM l x.2∧(atM l x.2).2.2.1=0)→σ.1=σ'.1→(S.foldl (rs1 (λa=>n9 l d6 a) l d7) σ).1=((S.map (rkS l)).foldl (rs1 (λa=>s5 (B3 l) d6 a 0) (B3 l) d7) σ').1
 |[],_,_,_,h=>h
 |x::S,σ,σ',hS,h=>by
  rw[List.map_cons,List.foldl_cons,List.foldl_cons]
  refine b5e (λy hy=>hS y (List.mem_cons_of_mem _ hy)) ?_
  obtain ⟨h1,h2⟩:=hS x (List.mem_cons_self ..)
  unfold rs1
  rw[b4v,b4v,h]
  refine congrArg (λz=>[]++List.flatMap z σ'.1) (funext λb=>?_)
  have e1:C6 (B3 l) d7 (rkS l x) b=(rk l x.2,a0F (atM l x.2) (atA d7 x.1) b):=by unfold C6;rw[show (rkS l x).2=rk l x.2 from Z,h1];rfl
  have e2:a1V (B3 l) (rk l x.2,a0F (atM l x.2) (atA d7 x.1) b)=0:=by unfold a1V;rw[h1];exact h2
  have e3:(n9 l d6 (C6 l d7 x b))=s5 (B3 l) d6 (C6 (B3 l) d7 (rkS l x) b) 0:=by
   rw[e1, ←a4K (.inl e2)]
   unfold n9 C6
   rw[h1]
  show I9 [b] _ (n9 l d6 (C6 l d7 x b))=_
  rw[e3];rfl
def X6 (l:List MT5) (p:List Int×List AT2) (d6:List Fct):List (List Int):=U0 p.1 (m6 (λa=>n9 l d6 a) l p.2 (grF (exF l) p.2).1).1
theorem b9D (hr:∀a∈q.2,0≤a.1):U0 q.1 (m6 (λa=>s5 (B3 l) d6 a 0) (B3 l) q.2 (grF (B3 l) q.2).1).1=X6 l q d6:=by
 have e:(grF (B3 l) q.2).1=(grF (exF l) q.2).1.map (rkS l):=by unfold grF;rw[b1G hr]
 rw[X6,e]
 congr 1
 refine (b5e (λx hx=>?_) Z).symm
 obtain ⟨a,b,ha,e1,h1⟩:=b6M (n:=q.2.length) x hx
 have h2:=(a5I (l:=l) (b:=b) (hr a ha)).2 h1
 rw[e1];exact ⟨h2.2.2.1,h2.2.1⟩
def S5 (s:List Int) (l:List MT5) (q:List Int×List AT2):List Stp:=cond ((C5 s l&&w7 s q)&&decide (q.2.length≤(grF l q.2).1.length)) (grF l q.2).1 []
def a5P (s:List Int) (l:List MT5) (q:List Int×List AT2):Bool:=(C5 s l&&w7 s q)&&decide (q.2.length≤(grF l q.2).1.length)
theorem a3k (h:(C5 s l&&w7 s q)=false):[]=S5 s l q∧false=a5P s l q:=by rw[S5,a5P,h];exact ⟨Z,Z⟩
theorem a3j (h:(grF l q.2).1.length<q.2.length):[]=S5 s l q∧false=a5P s l q:=by rw[S5,a5P,decide_eq_false (by omega),Bool.and_false];exact ⟨Z,Z⟩
theorem a2J (h:(C5 s l&&w7 s q)=true) (h2:¬(grF l q.2).1.length<q.2.length):(grF l q.2).1=S5 s l q∧true=a5P s l q:=by rw[S5,a5P,h,decide_eq_true (by omega)];exact ⟨Z,Z⟩
theorem c1Q (hm:C5 s l=true) (hq:w7 s q=true) (hl:(grF (exF l) q.2).1.length=q.2.length) (hf:B8 s d6=true):(O0 s (B3 l) q (S5 s (B3 l) q) d6 0).1=X6 l q d6:=by
 have h1:=c0v hm hq hl
 have h2:(grF (B3 l) q.2).1.length=q.2.length:=by unfold grF at hl ⊢;rw[b1G (a4j hq)];simpa using hl
 have e:S5 s (B3 l) q=(grF (B3 l) q.2).1:=(a2J (by rw[b0O hm,hq];rfl) (by omega)).1.symm
 rw[e, ←a8S h1 hf]
 exact b9D (a4j hq)
end
end Go.Proofs.YthapcdhdfaibkaaGreatDoor
end
