import Derived.Test.YthapcdhdfaibkaaGreatDoorBd
import Derived.Lib.Join
import Derived.Lib.ItoaNum
namespace Go.Proofs.YthapcdhdfaibkaaGreatDoor
set_option linter.all false
abbrev Str:=List UInt8
def dig (n:Int):Str:=[UInt8.ofNat (48+n.toNat)]
def itS (p:Int×Str):Int×Str:=if p.1=0 then p else (p.1.tdiv 10,UInt8.ofNat (48+(p.1.tmod 10).natAbs)::p.2)
def itN (n:Int):Nat→Int×Str
 |0=>(n,[])
 |g+1=>itS (itN n g)
def O7 (n:Int):Str:=if n=0 then [48] else if n<0 then 45::(itN n 20).2 else (itN n 20).2
section
variable {n:Int} {g:Nat}
theorem b1E:∀{g:Nat},(itN n g).1.natAbs*10^g≤n.natAbs
 |0=>by simp[itN]
 |g+1=>by
  have h:=b1E (g:=g)
  simp only[itN,itS]
  split
  ·rename_i h0;rw[h0];simp
  ·have h1:((itN n g).1.tdiv 10).natAbs=(itN n g).1.natAbs/10:=Int.natAbs_tdiv ..
   simp only[h1]
   have h2:(itN n g).1.natAbs/10*10≤(itN n g).1.natAbs:=Nat.div_mul_le_self _ _
   have h3:=Nat.mul_le_mul_right (10^g) h2
   rw[Nat.mul_assoc, ←Nat.pow_succ'] at h3
   exact Nat.le_trans h3 h
theorem b8v (hn:I64 n) (h:(itN n g).1≠0):g<20:=by
 rcases Nat.lt_or_ge g 20 with h1|h1
 ·exact h1
 ·have h2:=b1E (n:=n) (g:=g)
  have h3:(10:Nat)^20≤10^g:=Nat.pow_le_pow_right (by decide) h1
  have h4:1*10^g≤(itN n g).1.natAbs*10^g:=Nat.mul_le_mul_right _ (by omega)
  have h5:(10:Nat)^20=100000000000000000000:=by decide
  unfold I64 at hn;omega
theorem b3S (h:(itN n g).1=0):∀k,itN n (g+k)=itN n g
 |0=>rfl
 |k+1=>by
  rw[←Nat.add_assoc]
  show itS (itN n (g+k))=_
  rw[b3S h k,itS,if_pos h]
theorem b6f (hg:g≤20) (h:(itN n g).1=0):(itN n g).2=(itN n 20).2:=by
 have:=b3S h (20-g)
 rw[show g+(20-g)=20 by omega] at this
 rw[this]
theorem c2f (hn:I64 n):I64 (itN n g).1:=by
 have h2:=b1E (n:=n) (g:=g)
 have h3:1≤10^g:=Nat.pow_pos (by decide)
 have h4:=Nat.mul_le_mul_left (itN n g).1.natAbs h3
 rcases Nat.eq_zero_or_pos g with h5|h5
 ·subst h5;exact hn
 ·have h6:10^1≤10^g:=Nat.pow_le_pow_right (by decide) h5
  have h7:=Nat.mul_le_mul_left (itN n g).1.natAbs h6
  unfold I64 at hn ⊢;omega
theorem b1x:∀{g:Nat},(itN n g).2.length≤g
 |0=>by simp[itN]
 |g+1=>by
  have h:=b1x (g:=g)
  simp only[itN,itS]
  split
  ·omega
  ·simpa using h
theorem a5L (h:(itN n g).1≠0):(itN n g).1.tdiv 10=(itN n (g+1)).1:=by simp only[itN,itS,if_neg h]
theorem a1P (h:(itN n g).1≠0) {d:Int} (hd:d=(itN n g).1.tmod 10∨d= -(itN n g).1.tmod 10) (h0:0≤d):[UInt8.ofNat (48+d).toNat]++(itN n g).2=(itN n (g+1)).2:=by
 simp only[itN,itS,if_neg h,List.singleton_append]
 have:(48+d).toNat=48+((itN n g).1.tmod 10).natAbs:=by omega
 rw[this]
theorem a2y:(O7 n).length≤21:=by
 have:=b1x (n:=n) (g:=20)
 unfold O7
 split
 ·simp
 ·split
  ·simp;omega
  ·omega
theorem b7x:O7 0=[48]:=rfl
theorem b8D (h0:n≠0) (h:n<0):[45]++(itN n 20).2=O7 n:=by rw[O7,if_neg h0,if_pos h];rfl
theorem b8w (h0:n≠0) (h:¬n<0):(itN n 20).2=O7 n:=by rw[O7,if_neg h0,if_neg h]
end
theorem b8P {i:Int} (h:0≤i∧i≤9):(List.drop i.toNat ([48,49,50,51,52,53,54,55,56,57,97,98,99,100,101,102,103,104,105,106,107,108,109,110,111,112,113,114,115,116,117,118,119,120,121,122]:Str)).take ((i+1).toNat-i.toNat)=O7 i:=by
 have:i=0∨i=1∨i=2∨i=3∨i=4∨i=5∨i=6∨i=7∨i=8∨i=9:=by omega
 rcases this with rfl|rfl|rfl|rfl|rfl|rfl|rfl|rfl|rfl|rfl<;>decide+kernel
theorem c0C {x:Int}: -9≤x.tmod 10∧x.tmod 10≤9:=by
 have h1:=Int.tmod_lt_of_pos x (show (0:Int)<10 by decide)
 have h2:=Int.lt_tmod_of_pos x (show (0:Int)<10 by decide)
 omega
-- joining
section
variable {α:Type} {xs:List Str} {x sep:Str} {K g:Nat} {l:List α} {f:α→Str}
theorem b2r:∀{xs:List Str},Lib.join (xs++[x]) sep=if xs.length=0 then x else Lib.join xs sep++sep++x
 |[]=>by simp[Lib.join_one]
 |y::r=>by simp[Lib.join_cons,Lib.joinTail]
theorem b3e:Lib.join ((l.take 0).map f) sep=[]:=by simp[Lib.join_nil]
theorem a3H (h:g<l.length) (h0:¬0<g):Lib.join ((l.take g).map f) sep++f l[g]=Lib.join ((l.take (g+1)).map f) sep:=by
 have:g=0:=by omega
 subst this
 rw[List.take_succ_eq_append_getElem h,List.map_append,List.map_singleton,b2r];simp[Lib.join_nil]
theorem a3G (h:g<l.length) (h0:0<g):(Lib.join ((l.take g).map f) sep++sep)++f l[g]=Lib.join ((l.take (g+1)).map f) sep:=by
 rw[List.take_succ_eq_append_getElem h,List.map_append,List.map_singleton,b2r,if_neg (by rw[List.length_map,List.length_take];omega)]
theorem a4D {P:Str} (h:g<l.length) (h0:0<g):((P++Lib.join ((l.take g).map f) sep)++sep)++f l[g]=P++Lib.join ((l.take (g+1)).map f) sep:=by
 rw[←a3G h h0];simp
theorem a4c {P:Str} (h:g<l.length) (h0:¬0<g):(P++Lib.join ((l.take g).map f) sep)++f l[g]=P++Lib.join ((l.take (g+1)).map f) sep:=by
 rw[←a3H h h0];simp
theorem c0F:∀{xs:List Str},(∀x∈xs,x.length≤K)→(Lib.join xs sep).length≤xs.length*(K+sep.length)
 |[],_=>by simp[Lib.join_nil]
 |x::r,h=>by
  have h1:∀{r:List Str},(∀x∈r,x.length≤K)→(Lib.joinTail sep r).length≤r.length*(K+sep.length):=by
   intro r
   induction r with
   |nil=>simp[Lib.joinTail]
   |cons y r ih=>
    intro hr
    have h2:=ih λz hz=>hr z (by simp[hz])
    have h3:=hr y (by simp)
    simp only[Lib.joinTail,List.map_cons,List.flatten_cons,List.length_append,List.length_cons,Nat.succ_mul] at h2 ⊢
    omega
  have h4:=h1 (r:=r) λz hz=>h z (by simp[hz])
  have h5:=h x (by simp)
  rw[Lib.join_cons,List.length_append,List.length_cons,Nat.succ_mul];omega
theorem T3 {n:Nat} (hf:∀x,(f x).length≤K) (hn:l.length≤n):(Lib.join (l.map f) sep).length≤n*(K+sep.length):=by
 have h1:=c0F (K:=K) (sep:=sep) (xs:=l.map f) (λx hx=>by obtain ⟨y,_,rfl⟩:=List.mem_map.1 hx;exact hf y)
 rw[List.length_map] at h1
 exact Nat.le_trans h1 (Nat.mul_le_mul_right _ hn)
theorem a2c {n B:Nat} (hf:∀x,(f x).length≤K) (hn:l.length≤n) (hB:n*(K+sep.length)≤B):(Lib.join ((l.take g).map f) sep).length≤B:=
 Nat.le_trans (T3 hf (show (l.take g).length≤n by rw[List.length_take];omega)) hB
end
-- terms, atoms, queries
def M5 (t:Int):Str:=if inR t 10 17 then [120]++O7 (t-10) else O7 t
def E9 (a:IL):Str:=if inR a.1 0 2&&(inR (a.2.length:Int) 1 3&& !a.2.any λt=> !K7 t) then [114]++O7 a.1++[40]++Lib.join (a.2.map M5) [44]++[41] else []
def a8d (s:Str):Bool:=decide (s=[])
def nT {α:Type} (f:α→Str) (l:List α):Bool:=(l.map f).any a8d
def a2U (h:List Int):Str:=if 0<h.length then Lib.join (h.map M5) [44] else [121,101,115]
def H5 (q:List Int×List IL):Str:=
 if inR (q.2.length:Int) 1 4&&(!nT E9 q.2&&T7 q) then a2U q.1++[32,105,102,32]++Lib.join (q.2.map E9) [32,97,110,100,32] else []
def a4e (u:List (List Int×List IL)):Str:=if nT H5 u then [] else Lib.join (u.map H5) [32,111,114,32]
def unl:Str:=[32,117,110,108,101,115,115,32]
def c4K (s:Str) (l:List IL):Str:=l.foldl (λs a=>s++unl++E9 a) s
def c6x (g:(List Int×List IL)×List IL):Str:=if a8d (H5 g.1)||nT E9 g.2 then [] else c4K (H5 g.1) g.2
def c6v (r:Int×IL):Str:=
 if inR r.1 0 2&&(inR r.2.1 0 2&&(inR (r.2.2.length:Int) 1 3&&Y9 r.2.2 3)) then [114]++O7 r.1++[32,103,105,118,101,115,32,114]++O7 r.2.1++[32]++Lib.join (r.2.2.map O7) [44] else []
theorem a0H {t:Int}:(M5 t).length≤22:=by
 unfold M5
 split
 ·have:=a2y (n:=t-10);simp;omega
 ·have:=a2y (n:=t);omega
theorem a2r {a:IL}:(E9 a).length≤100:=by
 unfold E9
 split
 ·rename_i h
  simp only[Bool.and_eq_true,inR,decide_eq_true_eq] at h
  have h1:=a2y (n:=a.1)
  have h2:=T3 (f:=M5) (K:=22) (l:=a.2) (n:=3) (sep:=[44]) (λt=>a0H) (by omega)
  simp only[List.length_append,List.length_cons,List.length_nil] at h2 ⊢;omega
 ·simp
theorem a7W {h:List Int} (hl:h.length≤3):(a2U h).length≤69:=by
 unfold a2U
 split
 ·have h2:=T3 (f:=M5) (K:=22) (l:=h) (n:=3) (sep:=[44]) (λt=>a0H) hl
  simpa using h2
 ·simp
theorem a7V {q:List Int×List IL}:(H5 q).length≤500:=by
 unfold H5
 split
 ·rename_i h
  simp only[Bool.and_eq_true,inR,T7,decide_eq_true_eq] at h
  have h1:=a7W (h:=q.1) (by omega)
  have h2:=T3 (f:=E9) (K:=100) (l:=q.2) (n:=4) (sep:=[32,97,110,100,32]) (λt=>a2r) (by omega)
  simp only[List.length_append,List.length_cons,List.length_nil] at h2 ⊢;omega
 ·simp
section
variable {α:Type} {f:α→Str} {l:List α} {i:Nat}
theorem a4L (h:i<l.length) (h1:¬f l[i]=[]):nT f (l.drop i)=nT f (l.drop (i+1)):=by
 rw[List.drop_eq_getElem_cons h,nT,List.map_cons,List.any_cons,a8d,decide_eq_false h1,Bool.false_or];rfl
theorem b7h (h:i<l.length) (h1:f l[i]=[]):nT f (l.drop i)=true:=by
 rw[List.drop_eq_getElem_cons h,nT,List.map_cons,List.any_cons,a8d,decide_eq_true h1,Bool.true_or]
theorem b4P (h:¬i<l.length):nT f (l.drop i)=false:=by
 rw[List.drop_eq_nil_of_le (by omega)];rfl
theorem b0L:((l.map f).any λz=>decide (([]:Str)=z))=nT f l:=by
 rw[nT];congr 1;funext z;simp[a8d,eq_comm]
end
section
variable {l:List Int} {i:Nat}
theorem c1X (h:i<l.length) (h1:K7 l[i]=true):((l.drop i).any λt=> !K7 t)=((l.drop (i+1)).any λt=> !K7 t):=by
 rw[List.drop_eq_getElem_cons h,List.any_cons,h1];rfl
theorem c4M (h:i<l.length) (h1:K7 l[i]=false):((l.drop i).any λt=> !K7 t)=true:=by
 rw[List.drop_eq_getElem_cons h,List.any_cons,h1];rfl
theorem c3x (h:¬i<l.length):((l.drop i).any λt=> !K7 t)=false:=by
 rw[List.drop_eq_nil_of_le (by omega)];rfl
theorem c3N (h:(!l.any λt=> !K7 t)=true):∀t∈l,K7 t=true:=by
 intro t ht
 simp only[Bool.not_eq_true',List.any_eq_false] at h
 simpa using h t ht
theorem b7e {t:Int} (h:K7 t=true) (h1:inR t 10 17=false):0≤t∧t≤9:=by
 rw[K7,h1,Bool.or_false,inR,decide_eq_true_eq] at h;exact h
end
section
variable {h:List Int} {a:List IL} {i:Nat}
abbrev a3t (a:List IL):Int→Bool:=λt=> !H6 (k7 (λt=>inR t 10 17) a) t
theorem b7n (hb:(3:Int)<h.length):T7 (h,a)=false:=by rw[T7,decide_eq_false (by show ¬(h.length:Int)≤3;omega)];rfl
theorem b0F (hb:h.any (a3t a)=true):T7 (h,a)=false:=by rw[T7];show (_&& !h.any (a3t a))=false;rw[hb];simp
theorem b0U (h3:¬(3:Int)<h.length) (hb:h.any (a3t a)=false):T7 (h,a)=true:=by rw[T7,decide_eq_true (by show (h.length:Int)≤3;omega)];show (true&& !h.any (a3t a))=true;rw[hb];rfl
theorem b2W (hi:i<h.length) (h1:H6 (k7 (λt=>inR t 10 17) a) h[i]=true):(h.drop i).any (a3t a)=(h.drop (i+1)).any (a3t a):=by
 rw[List.drop_eq_getElem_cons hi,List.any_cons];simp only[a3t,h1];rfl
theorem b5V (hi:i<h.length) (h1:H6 (k7 (λt=>inR t 10 17) a) h[i]=false):(h.drop i).any (a3t a)=true:=by
 rw[List.drop_eq_getElem_cons hi,List.any_cons];simp only[a3t,h1];rfl
theorem b5j (hi:¬i<h.length):(h.drop i).any (a3t a)=false:=by
 rw[List.drop_eq_nil_of_le (by omega)];rfl
theorem c0n (ho:T7 (h,a)=true):h.length≤3∧∀t∈h,K7 t=true:=by
 rw[T7,Bool.and_eq_true,decide_eq_true_eq] at ho
 refine ⟨by have:=ho.1;simp only at this;omega,λt ht=>?_⟩
 have h2:=ho.2
 simp only[Bool.not_eq_true',List.any_eq_false] at h2
 have h3:H6 (k7 (λt=>inR t 10 17) a) t=true:=by simpa using h2 t ht
 rw[a0y,k7,a4Y,List.mem_filter] at h3
 rw[K7,h3.2,Bool.or_true]
end
section
variable {q:List Int×List IL}
theorem b2X (h:inR (q.2.length:Int) 1 4=false):H5 q=[]:=by simp[H5,h]
theorem a5M (h:T7 q=false):H5 q=[]:=by simp[H5,h]
theorem a7Y (h:nT E9 q.2=true):H5 q=[]:=by simp[H5,h]
theorem a5D (h1:inR (q.2.length:Int) 1 4=true) (h2:T7 q=true) (h3:nT E9 q.2=false):H5 q=a2U q.1++[32,105,102,32]++Lib.join (q.2.map E9) [32,97,110,100,32]:=by simp[H5,h1,h2,h3]
theorem a7R {h:List Int} (h0:0<h.length):Lib.join (h.map M5) [44]=a2U h:=by rw[a2U,if_pos h0]
theorem a9C {h:List Int} (h0:¬0<h.length):[121,101,115]=a2U h:=by rw[a2U,if_neg h0]
end
section
variable {u:List (List Int×List IL)} {g:(List Int×List IL)×List IL} {s:Str} {l:List IL} {r:Nat}
theorem b4j (h:nT H5 u=true):a4e u=[]:=by rw[a4e,if_pos h]
theorem b2z (h:nT H5 u=false):a4e u=Lib.join (u.map H5) [32,111,114,32]:=by rw[a4e,h];rfl
end
-- every number
-- lines and proofs
def c4z (f:IL):Str:=if inR f.1 0 2&&(inR (f.2.length:Int) 1 3&&S3 f.2) then [114]++O7 f.1++[40]++Lib.join (f.2.map O7) [44]++[41] else []
def c4s (a:IL):Str:=if inR a.1 0 4&&(!decide ((3:Int)<a.2.length)&&S3 a.2) then [109]++O7 a.1++[40]++Lib.join (a.2.map O7) [44]++[41] else []
def c4t (x:Int×IL×IL):Str:=c4z x.2.2++[32,98,121,32]++(if x.1= -1 then c4s x.2.1 else [114,117,108,101,32]++O7 x.1)
def c6A (l:List (Int×IL×IL)):Str:=if l.length=0 then [110,111,110,101] else Lib.join (l.map c4t) [59,32]
section
variable {l:List (Int×IL×IL)} {g:Nat}
end
end Go.Proofs.YthapcdhdfaibkaaGreatDoor
