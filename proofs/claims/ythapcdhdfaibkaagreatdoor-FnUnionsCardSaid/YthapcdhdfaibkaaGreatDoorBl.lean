import Derived.Test.YthapcdhdfaibkaaGreatDoorBu
import Derived.Test.YthapcdhdfaibkaaGreatDoorGv
section
namespace Go.Proofs.YthapcdhdfaibkaaGreatDoor
open Go.RowKit
set_option linter.all false
abbrev QT:=List Int×List IL
abbrev QB:=(Option Addr×Nat×Nat)×Option Addr×Nat×Nat
def eQ0:QT:=([],[])
def eB0:QB:=((none,0,0),none,0,0)
def a3R {α:Type} (d:α) (xs:List α) (is:List Nat):List α:=is.map λi=>xs.getD i d
def R6 {α:Type} (d:α) (xs:List α) (is:List Nat) (n:Nat):List α:=a3R d xs is++xs.drop n
def a1t {α:Type} (d:α) (xs:List α) (is:List Nat) (n:Nat):List α:=a3R d xs is++xs.drop (n+1)
section
variable {α:Type} {d:α} {xs:List α} {is:List Nat} {n:Nat}
theorem a6z:(a3R d xs is).length=is.length:=by simp[a3R]
theorem b1O (h:n<xs.length):(R6 d xs is n)[is.length]? =some xs[n]:=by
  unfold R6
  rw[List.getElem?_append_right (by rw[a6z];omega),a6z,Nat.sub_self,List.drop_eq_getElem_cons h];rfl
theorem b2d:(R6 d xs is n).length=is.length+(xs.length-n):=by simp[R6,a6z]
theorem b6p:(R6 d xs is n).take is.length++(R6 d xs is n).drop (is.length+1)=a1t d xs is n:=by
  unfold R6 a1t
  have h1:(a3R d xs is).length=is.length:=a6z
  rw[←h1,List.take_left',List.drop_append,List.drop_eq_nil_of_le (by omega),List.nil_append,show (a3R d xs is).length+1-(a3R d xs is).length=1 from by omega,List.drop_drop]
  rfl
theorem b9B:(R6 d xs is n).take is.length++(R6 d xs is n).drop (((is.length:Int))+1).toNat=a1t d xs is n:=by rw[show (((is.length:Int))+1).toNat=is.length+1 from by omega,b6p]
theorem b9A:(R6 d xs is n).eraseIdx is.length=a1t d xs is n:=by rw[List.eraseIdx_eq_take_drop_succ,b6p]
theorem b8Z (h:n<xs.length):R6 d xs is n=R6 d xs (is++[n]) (n+1):=by
  unfold R6 a3R
  rw[List.map_append,List.append_assoc,List.drop_eq_getElem_cons h]
  simp[List.getD,h]
theorem b4T {k g:Nat} (h:g<xs.length):(xs.take (g+1)).eraseIdx k=(xs.take g).eraseIdx k++(if g=k then [] else [xs[g]]):=by
  rw[List.take_succ_eq_append_getElem h]
  have hl:(xs.take g).length=g:=by simp;omega
  rcases Nat.lt_trichotomy g k with hk|hk|hk
  · rw[List.eraseIdx_of_length_le (by simp;omega),List.eraseIdx_of_length_le (by omega),if_neg (by omega)]
  · subst hk
    rw[if_pos Z,List.append_nil,List.eraseIdx_append_of_length_le (by omega),List.eraseIdx_of_length_le (l:=xs.take g) (by omega),hl,Nat.sub_self]
    simp
  · rw[if_neg (by omega),List.eraseIdx_append_of_lt_length (by omega)]
theorem b7T {k g:Nat} {i:Int} (h:g<xs.length) (hk:¬(g:Int)=i) (hi:k=i.toNat) (hi0:0≤i):(xs.take g).eraseIdx k++[xs[g]]=(xs.take (g+1)).eraseIdx k:=by
  rw[b4T h,if_neg (by omega)]
theorem b0E {k g:Nat} {i:Int} (h:g<xs.length) (hk:(g:Int)=i) (hi:k=i.toNat):(xs.take g).eraseIdx k=(xs.take (g+1)).eraseIdx k:=by
  rw[b4T h,if_pos (by omega),List.append_nil]
end
def K5 (s:List Int) (u:List QT):Nat→List Nat
  |0=>[]
  |n+1=>cond (a0s s (a1t eQ0 u (K5 s u n) n) (u.getD n eQ0)) (K5 s u n) (K5 s u n++[n])
def m7 (s:List Int) (u:List QT):List QT:=cond (F9 s u) (R6 eQ0 u (K5 s u u.length) u.length) u
section
variable {s:List Int} {u:List QT} {n g:Nat}
theorem a2g:∀{n:Nat},∀i∈K5 s u n,i<n
  |0,i,h=>by cases h
  |n+1,i,h=>by
    rw[K5] at h
    cases hc:a0s s (a1t eQ0 u (K5 s u n) n) (u.getD n eQ0)
    · rw[hc] at h
      rcases List.mem_append.1 h with h|h
      · exact Nat.lt_succ_of_lt (a2g i h)
      · simp at h;omega
    · rw[hc] at h;exact Nat.lt_succ_of_lt (a2g i h)
theorem b0k:(K5 s u n).length≤n:=by
  induction n with
  |zero=>exact Nat.le_refl _
  |succ n ih=>
    rw[K5]
    cases a0s s (a1t eQ0 u (K5 s u n) n) (u.getD n eQ0)
    · simp;omega
    · simp only[cond_true];omega
theorem a9B (h:n<u.length) (hc:a0s s (a1t eQ0 u (K5 s u n) n) u[n]=true):K5 s u (n+1)=K5 s u n:=by
  rw[K5,show u.getD n eQ0=u[n] from by simp[List.getD,h],hc];rfl
theorem b1T (h:n<u.length) (hc:a0s s (a1t eQ0 u (K5 s u n) n) u[n]=false):K5 s u (n+1)=K5 s u n++[n]:=by
  rw[K5,show u.getD n eQ0=u[n] from by simp[List.getD,h],hc];rfl
theorem a7B {α:Type} {d:α} {xs:List α} (h:n<u.length) (hc:a0s s (a1t eQ0 u (K5 s u n) n) u[n]=true):a1t d xs (K5 s u n) n=R6 d xs (K5 s u (n+1)) (n+1):=by rw[a9B h hc];rfl
theorem a2R {α:Type} {d:α} {xs:List α} (h:n<u.length) (hx:n<xs.length) (hc:a0s s (a1t eQ0 u (K5 s u n) n) u[n]=false):R6 d xs (K5 s u n) n=R6 d xs (K5 s u (n+1)) (n+1):=by rw[b1T h hc,b8Z hx]
theorem a5C (h:n<u.length) (hc:a0s s (a1t eQ0 u (K5 s u n) n) u[n]=true):((K5 s u n).length:Int)=((K5 s u (n+1)).length:Int):=by rw[a9B h hc]
theorem a5A (h:n<u.length) (hc:a0s s (a1t eQ0 u (K5 s u n) n) u[n]=false):((K5 s u n).length:Int)+1=((K5 s u (n+1)).length:Int):=by rw[b1T h hc];simp
theorem b8J (hu:F9 s u=true) (h:¬n<u.length) (hn:n≤u.length):R6 eQ0 u (K5 s u n) n=m7 s u:=by
  rw[m7,hu,show n=u.length from by omega];rfl
theorem b4V (hu:F9 s u=false):u=m7 s u:=by rw[m7,hu];rfl
theorem a8K {α:Type} {d:α} {xs:List α} {is:List Nat} (hi:∀i∈is,i<xs.length) {x:α} (hx:x∈R6 d xs is n):x∈xs:=by
  unfold R6 a3R at hx
  rcases List.mem_append.1 hx with hx|hx
  · obtain ⟨i,h1,rfl⟩:=List.mem_map.1 hx
    have h2:=hi i h1
    simp only[List.getD,List.getElem?_eq_getElem h2,Option.getD_some]
    exact List.getElem_mem h2
  · exact List.mem_of_mem_drop hx
theorem b6l {α:Type} {d:α} {xs:List α} {is:List Nat} (hi:∀i∈is,i<xs.length) {x:α} (hx:x∈a1t d xs is n):x∈xs:=a8K (n:=n+1) hi hx
theorem a0e {q:QT} (h:q∈m7 s u):q∈u:=by
  rw[m7] at h
  cases hu:F9 s u
  · rw[hu] at h;exact h
  · rw[hu] at h;exact a8K (λi hi=>a2g i hi) h
theorem a6q:(m7 s u).length≤u.length:=by
  rw[m7]
  cases F9 s u
  · exact Nat.le_refl _
  · simp only[cond_true,b2d]
    have:=b0k (s:=s) (u:=u) (n:=u.length)
    omega
end
section
variable {α β:Type} {E:Enc α} {f:β→List Value} {w:World} {L:List Nat} {ys:List β} {xs:List α} {d:β} {d':α} {is:List Nat} {n:Nat}
theorem Bor.del (h:Bor w L E f ys xs) (hi:∀i∈is,i<ys.length):Bor w L E f (a1t d ys is n) (a1t d' xs is n):=Bor.app (b6Y d d' h hi) (Bor.drop (n+1) h)
theorem b7P (hf:∀y,(f y).length=E.k) {zs' zs:List (β×α)} (h:zs'.Sublist zs):∀{L:List Nat},y8 E w ((zs.map λz=>z.1).flatMap f) (zs.map λz=>z.2) L true→∃L',L'.Sublist L∧y8 E w ((zs'.map λz=>z.1).flatMap f) (zs'.map λz=>z.2) L' true:=by
  induction h with
  |slnil=>intro L hL;exact ⟨L,List.Sublist.refl _,hL⟩
  |cons a _ ih=>
    rintro L ⟨c1,c2,L1,L2,h1,rfl,h3,h4⟩
    simp only[List.map_cons,List.flatMap_cons] at h1
    obtain ⟨e1,e2⟩:=List.append_inj h1 ((hf a.1).trans (E.len h3).symm)
    subst e2
    obtain ⟨L',k1,k2⟩:=ih h4
    exact ⟨L',k1.trans (List.sublist_append_right _ _),k2⟩
  |cons_cons a _ ih=>
    rintro L ⟨c1,c2,L1,L2,h1,rfl,h3,h4⟩
    simp only[List.map_cons,List.flatMap_cons] at h1
    obtain ⟨e1,e2⟩:=List.append_inj h1 ((hf a.1).trans (E.len h3).symm)
    subst e1;subst e2
    obtain ⟨L',k1,k2⟩:=ih h4
    exact ⟨L1++L',(List.Sublist.refl L1).append k1,_,_,L1,L',by simp only[List.map_cons,List.flatMap_cons],Z,h3,k2⟩
theorem b4c {γ:Type} {s:List Int} {u:List QT} {zs:List γ} {d:γ}:∀{n:Nat},n≤zs.length→(a3R d zs (K5 s u n)).Sublist (zs.take n)
  |0,_=>by simp[K5,a3R]
  |n+1,h=>by
    have ih:=b4c (d:=d) (zs:=zs) (s:=s) (u:=u) (n:=n) (by omega)
    rw[List.take_succ_eq_append_getElem (by omega),K5]
    cases a0s s (a1t eQ0 u (K5 s u n) n) (u.getD n eQ0)
    · simp only[cond_false]
      unfold a3R at *
      rw[List.map_append]
      refine ih.append ?_
      simp[List.getD,show n<zs.length from by omega]
    · exact ih.trans (List.sublist_append_left _ _)
theorem c0e {γ:Type} {s:List Int} {u:List QT} {zs:List γ} {d:γ} (hn:n≤zs.length):(R6 d zs (K5 s u n) n).Sublist zs:=by
  have h:=(b4c (d:=d) (zs:=zs) (s:=s) (u:=u) hn).append (List.Sublist.refl (zs.drop n))
  rwa [List.take_append_drop] at h
theorem b6K {γ:Type} {g:α→γ} {d:α} (hi:∀i∈is,i<xs.length):(R6 d xs is n).map g=R6 (g d) (xs.map g) is n:=by
  unfold R6 a3R
  rw[List.map_append,List.map_map,List.map_drop]
  congr 1
  refine List.map_congr_left λi h=>?_
  have:=hi i h
  simp[List.getD,this]
variable {k:Nat} {w0:World} {L0:List Nat} {fr:Fr} {H R:List HP} {G:Act→World→Prop}
theorem b7J {s:List Int} {u:List QT} (hf:∀y,(f y).length=E.k) (hl:ys.length=xs.length) (hn:n≤xs.length) (h:Ent k w0 L0 fr (els E ((R6 d ys (K5 s u n) n).flatMap f) (R6 d' xs (K5 s u n) n)::R) G):Ent k w0 L0 fr (els E (ys.flatMap f) xs::R) G:=λa w h1 h2=>by
  refine h a w h1 (Hp.turnL (A:=[els E (ys.flatMap f) xs]) (A':=[_]) (R:=R) h2 ?_)
  rintro L ⟨L1,L2,rfl,h3,h4⟩ hN
  rw[Sep] at h4;subst h4
  have e1:(ys.zip xs).map (λz=>z.1)=ys:=by rw[show (λz:β×α=>z.1)=Prod.fst from Z,List.map_fst_zip (by omega)]
  have e2:(ys.zip xs).map (λz=>z.2)=xs:=by rw[show (λz:β×α=>z.2)=Prod.snd from Z,List.map_snd_zip (by omega)]
  have h3':y8 E w (((ys.zip xs).map λz=>z.1).flatMap f) ((ys.zip xs).map λz=>z.2) L1 true:=by rw[e1,e2];exact h3
  have hz:(ys.zip xs).length=xs.length:=by rw[List.length_zip];omega
  obtain ⟨L',k1,k2⟩:=b7P hf (c0e (d:=(d,d')) (s:=s) (u:=u) (n:=n) (by omega)) h3'
  rw[b6K (λi hi=>by have:=a2g i hi;omega),b6K (λi hi=>by have:=a2g i hi;omega),e1,e2] at k2
  have hs:∀b∈L',b∈L1++[]:=λb hb=>by simp[k1.mem hb]
  refine ⟨L'++[],⟨L',[],Z,k2,Z⟩,?_,⟨Z,Z,Z,Nat.le_refl _,λ_ _ _=>rfl,λb hb=>.inl (hs b (by simpa using hb))⟩⟩
  simp only[List.append_nil] at hN ⊢
  exact hN.sublist k1
end
theorem a3l {γ:Type} {d:γ} {xs:List γ} {is:List Nat} {n:Nat} (h:n<xs.length):(R6 d xs is n).set is.length xs[n]=R6 d xs is n:=by
  have h1:=b1O (d:=d) (is:=is) h
  obtain ⟨h2,h3⟩:=List.getElem?_eq_some_iff.1 h1
  rw[←h3,List.set_getElem_self]
end Go.Proofs.YthapcdhdfaibkaaGreatDoor
end
section
namespace Go.Proofs.YthapcdhdfaibkaaGreatDoor
open Go.RowKit
set_option linter.all false
section
variable {P:Program} {n:Nat} {w0:World} {L0:List Nat} {fr:Fr} {H:List HP}
theorem c4T {x y u v:Operand} {T e:TypeId} {agg:Bool} {k:Nat} {z:List Value} {by':Nat} {a:Option Addr} {m c l h b:Nat} (hT:P.underlying T=some (.slice e)) (ht:TyOk P e agg k z by') (hx:ev fr x=some (.slice a m c)) (hy:ev fr y=some (.int .i64 (l:Int))) (hu:ev fr u=some (.int .i64 (h:Int))) (hv:ev fr v=some (.int .i64 (b:Int))) (h1:l≤h) (h2:h≤b) (h3:b≤c):
    Yp P n fr (.slice T x (some y) (some u) (some v)) (.slice (if b=l then a else a.map (·.add (l*k))) (h-l) (b-l)):=λac hf w' d t p af g=>by
  simp[execOp,hf.ev hx,hf.ev hy,hf.ev hu,hf.ev hv,Instr.sliceAt,Instr.slice,Instr.sliceBounds,a1m h1,a1m h2,a1m h3,run_underlying hT,ht.run_sizeOf]
theorem c2J {x y u:Operand} {T e:TypeId} {agg:Bool} {k:Nat} {z:List Value} {by':Nat} {a:Option Addr} {m c l h:Nat} (hT:P.underlying T=some (.slice e)) (ht:TyOk P e agg k z by') (hx:ev fr x=some (.slice a m c)) (hy:ev fr y=some (.int .i64 (l:Int))) (hu:ev fr u=some (.int .i64 (h:Int))) (h1:l≤h) (h2:h≤c):
    Yp P n fr (.slice T x (some y) (some u) none) (.slice (if c=l then a else a.map (·.add (l*k))) (h-l) (c-l)):=λac hf w' d t p af g=>by
  simp[execOp,hf.ev hx,hf.ev hy,hf.ev hu,Instr.sliceAt,Instr.slice,Instr.sliceBounds,a1m h1,a1m h2,run_underlying hT,ht.run_sizeOf]
theorem c3V {x y u:Operand} {T e:TypeId} {agg:Bool} {k:Nat} {z:List Value} {by':Nat} {b m c l h:Nat} (hT:P.underlying T=some (.slice e)) (ht:TyOk P e agg k z by') (hx:ev fr x=some (.slice (some ⟨b,0,none⟩) m c)) (hy:ev fr y=some (.int .i64 (l:Int))) (hu:ev fr u=some (.int .i64 (h:Int))) (h1:l≤h) (h2:h≤c) (hc:l<c):
    Yp P n fr (.slice T x (some y) (some u) none) (.slice (some ⟨b,l*k,none⟩) (h-l) (c-l)):=by
  have h:=c2J (P:=P) (n:=n) (fr:=fr) hT ht hx hy hu h1 h2
  rw[if_neg (by omega)] at h
  have e1:Option.map (λq:Addr=>q.add (l*k)) (some ⟨b,0,none⟩)=some ⟨b,l*k,none⟩:=by
    simp only[Option.map_some,Addr.add]
    split
    · rename_i h0;rw[h0]
    · simp
  rw[e1] at h;exact h
theorem b9V {e:TypeId} {k M C gb j:Nat} {cs:List Value} (hm:row e k (some ⟨gb,0,none⟩) M C cs∈H) (hc:cs.length=M*k) (hj:j≤M) (hMC:M≤C):
    (M-j=0∧cs.drop (j*k)=[])∨ ∃b o,(if C=j then some (⟨gb,0,none⟩:Addr) else (some (⟨gb,0,none⟩:Addr)).map (·.add (j*k)))=some ⟨b,o,none⟩∧Has w0 L0 H b o (cs.drop (j*k)):=by
  by_cases h:C=j
  · refine .inl ⟨by omega,List.drop_eq_nil_of_le ?_⟩
    rw[hc,show j=M by omega];exact Nat.le_refl _
  · refine .inr ⟨gb,j*k,?_,a4a hm j (rest:=[]) (List.append_nil _).symm⟩
    rw[if_neg h]
    simp only[Option.map_some,Addr.add]
    split
    · rename_i h0;rw[h0]
    · simp
theorem b8b {cs R:List Value} {x y n k:Nat} (hc:cs.length=n*k) (hx:x≤y) (hy:y≤n):(cs.take (x*k)++cs.drop (y*k)++R).take ((x+(n-y))*k)=cs.take (x*k)++cs.drop (y*k):=by
  have h1:x*k≤n*k:=Nat.mul_le_mul_right _ (by omega)
  have h2:(cs.take (x*k)++cs.drop (y*k)).length=(x+(n-y))*k:=by
    rw[List.length_append,List.length_take,List.length_drop,hc,Nat.add_mul,Nat.sub_mul,Nat.min_eq_left h1]
  rw[←h2,List.take_left]
end
end Go.Proofs.YthapcdhdfaibkaaGreatDoor
end
section
namespace Go.Proofs.YthapcdhdfaibkaaGreatDoor
open Go.RowKit
set_option linter.all false
set_option maxHeartbeats 2000000
attribute [local irreducible] Nop Yd Yp Ent Has Tr FnP FnP2 Src K8 Q7 R5 S1 E8
variable {s:List ((SL)×SL)} {m_s c_s:Nat} {a_s:Option Addr}
theorem b1d {i:Int} {j:Int} (hij:0≤i∧i≤j∧j≤s.length):Tr Tryz.prog 133 [.slice a_s m_s c_s,.int .i64 i,.int .i64 j] (λw L=>True) [ow a0d [.slice a_s m_s c_s] s] (κ:=SL) (λk=>True) (λk=>.slice k.1 k.2.1 k.2.2) (λk=>[ow a0d [.slice k.1 k.2.1 k.2.2] (s.take i.toNat++s.drop j.toNat)]):=by
 refine Ti3 Tryz.func133 33 Z λw L hR=>(f0 m0 λes ls=>?_)
 subst es
 obtain ⟨x,rfl⟩:∃x:Nat,i=(x:Int):=⟨i.toNat,by omega⟩
 obtain ⟨y,rfl⟩:∃y:Nat,j=(y:Int):=⟨j.toNat,by omega⟩
 refine a4b λcs hcs=>?_
 replace hcs:cs.length=s.length*2:=hcs
 show Ent _ _ _ _ (row a8Q 2 a_s s.length c_s cs::_) _
 refine a2D (mS m0) λh1s=>(a3X m0 λhms=>(Ew Z1 (Ei Z (Ev Z6 (Em Z (Em Z (Em Z (Em Z (Yln us_Querys Z (Ey Z ((c4T (l:=x) (h:=y) (b:=s.length) us_Querys ty_Query Z Z Z Z om om om).yd) (Eu (Eq_ (Ew Z3 (Em Z (Em Z (Yeq Z (l3 (λq16=>?_) (λq16=>?_))))))))))))))))))
 ·refine Eu (r9 Z (Ew Z2 (Em Z (Ei Z (Eu (E.ret (a5h (d8 (d8 (a1M (E:=a0r) Z mx (g9 (congrArg (ow a0d [_]) (show _=s.take x++s.drop y from by rw[show x=y by omega,List.take_append_drop])) (Fg Z Z (_,_,_) Z Z))))))))))))
 ·refine a3Z m0 om λsb hsb _=>?_
  subst hsb
  refine Eu (Cf (Ew Z3 (Em Z (Yln us_Querys Z (Ei Z (Eu (Eq_ (D.region (λj=> !(Nat.beq j 6)) mixed (Dm 0 Z (Dm 1 Z (Dyp 2 Z (a2T (h:=x) us_Querys ty_Query Z Z om) (Dm 3 Z (Dm 4 Z (Dyp 5 Z (a5i (l:=y) us_Querys ty_Query Z Z om) (w6 6 Z Z kr (λh=>by cases h) (c2I (i:=x) (m2:=s.length-y) (news:=cs.drop (y*2)) us_Querys ty_Query Z Z Z om (b9V m0 hcs om hms.1) (by rw[List.length_drop,hcs,Nat.sub_mul]) (λu hu=>h1s u (List.mem_of_mem_drop hu)) om dc Z) (λ_ _=>(Dyp 7 Z (E5 Z) (o4 kr (Et (Ew Z6 (Em Z (Em Z (Yln us_Querys Z (Em Z (Ey Z ((c3V (l:=(x+(s.length-y))) (h:=s.length) (b:=sb) us_Querys ty_Query Z Z Z om om om).yd) (Est Z (c1q (p:=(x+(s.length-y))) (q:=(s.length-((x+(s.length-y))))) us_Querys ty_Query (by simp[Value.oneCell']) Z Z om om om Z) (λ_ _=>(Ev Z2 (Em Z (Ei Z (Eu (E.ret (d8 (c0T (i:=x) (j:=y) om om (d8 (g9 (congrArg (row a8Q 2 (some ⟨sb,0,none⟩) (x+(s.length-y)) c_s) (b8b hcs om om)) (a1M (E:=a0r) (by simp only[List.length_append,List.length_take,List.length_drop];omega) mx (Fg Z Z (_,_,_) Z Z))))))))))))))))))))))))))))))))))))))
theorem b1i (hz:s.length≤1048576):TL Tryz.prog 134 [.slice a_s m_s c_s] (λw L=>Ro w L a0d [.slice a_s m_s c_s] s) a0d s:=by
 refine Ti1 Tryz.func134 8 Z λw L hR=>?_
 have hs:=hR
 obtain ⟨rfl,ls⟩:=hs.slen
 refine Ew Z1 (Ei Z (Eu (Eq_ (Ew Z2 (Em Z (Ey Z ((b5H us_Querys Z Z).yd) (Ent.b (λq4=>?_) (λq4=>?_))))))))
 ·refine Eu (r9 Z (Ew Z1 (Ei Z (Eu (E.ret (a5h (m8 (A:=[]) (Own.nil (E:=a0r) (e:=a8Q) (a:=none)) Z (g9 (congrArg (ow a0d [_]) (show _=s by (cases a_s with|none=>exact hs.none_nil.symm|some x=>cases q4))) (Fg rfl rfl (none,0,0) rfl rfl)))))))))
 ·refine Eu (Cf (Ew Z4 (Est Z (Nb [] [] us_Querys ty_Query Z Z) (λb5 _=>(Ent.drop (Em Z (Est Z (M9 (E:=a0r) b5M us_Querys ty_Query Z Z Z hs bn bn dc) (λp7 _=>(Ei Z (Eu (E.ret (Fg Z Z (_,_,_) Z Z))))))))))))
end Go.Proofs.YthapcdhdfaibkaaGreatDoor
end
section
namespace Go.Proofs.YthapcdhdfaibkaaGreatDoor
open Go.RowKit
set_option linter.all false
section
variable {P:Program} {Q:Exit→Act→World→Prop} {n:Nat} {w0:World} {L0:List Nat} {fr:Fr} {H R:List HP} {d:Nat} {ty:TypeId} {pos:String} {af:Array Edge} {g:Option (Nat×Bool)}
theorem c3T {T e:TypeId} {agg:Bool} {k:Nat} {z:List Value} {by':Nat} {x y:Operand} {gb M C i off:Nat} {cs vs cs':List Value} {v:Value} (ht:TyOk P T agg k z by') (hx:ev fr x=some (.pointer (some ⟨gb,off,none⟩))) (hoff:off=i*k) (hy:ev fr y=some v) (hv:v.cells=vs.toArray) (hl:vs.length=k) (h1:∀u∈vs,u.oneCell'=true) (hi:i<M) (hcs:cs.take (i*k)++vs++cs.drop (i*k+k)=cs'):
    Nop P Q n w0 L0 fr (row e k (some ⟨gb,0,none⟩) M C cs::R) ⟨none,.store T x y,ty,pos,af,g⟩ false (κ:=Unit) (λ_=>fr) (λ_=>row e k (some ⟨gb,0,none⟩) M C cs'::R) (λ_=>True):=λK hK a w ha hw=>by
  subst hcs;subst hoff
  obtain ⟨L,⟨L1,L2,rfl,hrow,hR⟩,hn,hst⟩:=hw
  obtain ⟨hlc,⟨_,h0,_⟩|⟨g',cur,hg',hg,hmc,hcm,hsz,htake,rfl⟩⟩:=hrow
  · omega
  cases hg'
  have hik:i*k+k≤M*k:=by rw[←Nat.succ_mul];exact Nat.mul_le_mul_right _ hi
  have hMc:M*k≤cur.size:=by rw[hsz];exact Nat.mul_le_mul_right _ hmc
  have hrun:=a2x (P:=P) ht hv hl h1 hg (off:=i*k) (by rw[hl];omega)
  have hrow':(row e k (some ⟨gb,0,none⟩) M C (cs.take (i*k)++vs++cs.drop (i*k+k))).holds (w.setRow gb (cur.toList.take (i*k)++vs++cur.toList.drop (i*k+vs.length)).toArray) [gb]:=by
    refine ⟨?_,.inr ⟨gb,_,Z,setRow_heap w gb cur _ e _ hg,hmc,hcm,?_,?_,Z⟩⟩
    · simp only[List.length_append,List.length_take,List.length_drop,hl,hlc];omega
    · simp only[List.size_toArray,List.length_append,List.length_take,List.length_drop,Array.length_toList,hl];omega
    · rw[show (cur.toList.take (i*k)++vs++cur.toList.drop (i*k+vs.length)).toArray.toList=cur.toList.take (i*k)++vs++cur.toList.drop (i*k+vs.length) from Z,hl, ←htake]
      rw[List.take_append,List.take_append]
      simp only[List.length_append,List.length_take,Array.length_toList,hl]
      rw[List.take_of_length_le (l:=List.take (i*k) cur.toList) (by simp;omega),List.take_of_length_le (l:=vs) (by omega)]
      congr 1
      · rw[List.take_take,Nat.min_eq_left (by omega)]
      · rw[List.drop_take];congr 1;rw[Nat.min_eq_left (by omega)]
  obtain ⟨k1,k2,k3⟩:=hst.call hn hR.inh (Step.setRow (Array.getElem?_eq_some_iff.1 hg).1) (List.nodup_append.1 hn).1
  simp only[Oper.wp,execOp,ha.ev hx,ha.ev hy,Sem.run_bind,hrun,Result.andThen_ok,Sem.run_pure,Oper.upon_skip]
  exact hK () trivial w _ _ ha ⟨[gb]++L2,⟨[gb],L2,Z,hrow',hR.stable k3⟩,k2,k1⟩ (by simp)
end
theorem At.els1 {α:Type} {E:Enc α} {w0 w:World} {L0 Lp:List Nat} {pre rest:List HP} {c1:List Value} {x:α} (hA:At w0 L0 pre rest w Lp) (hm:els E c1 [x]∈rest):Ro w Lp E c1 x:=by
  obtain ⟨⟨Lr,h1,h2,h3,h4⟩⟩:=hA
  obtain ⟨L',⟨d1,d2,M1,M2,rfl,rfl,r1,rfl,rfl⟩,r2⟩:=h2.mem hm
  rw[List.append_nil] at r2 ⊢
  obtain ⟨L'',r3,r4⟩:=E.ro r1
  exact ⟨L'',r4,λb hb hp=>(List.nodup_append.1 h3).2.2 b hp b (r2 b (r3 b hb)) Z⟩
section
variable {n:Nat} {w0:World} {L0:List Nat} {fr:Fr} {R:List HP} {G:Act→World→Prop} {α:Type} {E:Enc α} {xs ys:List α} {cs c1 c2:List Value}
theorem b0w (h:∀c1 c2,cs=c1++c2→c1.length=xs.length*E.k→Ent n w0 L0 fr (els E c1 xs::els E c2 ys::R) G):Ent n w0 L0 fr (els E cs (xs++ys)::R) G:=λac w h1 h2=>by
  obtain ⟨L,⟨L1,LR,rfl,g1,hR⟩,hn,hst⟩:=h2
  obtain ⟨c1,c2,M1,M2,rfl,rfl,e1,e2⟩:=y8.split g1
  have ea:(M1++M2)++LR=M1++(M2++LR):=by simp
  rw[ea] at hn hst
  exact h c1 c2 Z e1.len ac w h1 ⟨M1++(M2++LR),⟨M1,M2++LR,Z,e1,M2,LR,Z,e2,hR⟩,hn,hst⟩
theorem c0I (h:Ent n w0 L0 fr (els E (c1++c2) (xs++ys)::R) G):Ent n w0 L0 fr (els E c1 xs::els E c2 ys::R) G:=λac w h1 h2=>by
  obtain ⟨L,⟨M1,L1,rfl,e1,M2,LR,rfl,e2,hR⟩,hn,hst⟩:=h2
  have ea:M1++(M2++LR)=(M1++M2)++LR:=by simp
  rw[ea] at hn hst
  exact h ac w h1 ⟨(M1++M2)++LR,⟨M1++M2,LR,Z,y8.app e1 e2,hR⟩,hn,hst⟩
end
structure DfI (k M i j:Nat) (cur kc rc:List Value):Prop where
  len:cur.length=M*k
  lt:i<j
  le:j≤M
  kl:kc.length=i*k
  k1:cur.take (i*k)=kc
  r1:cur.drop (j*k)=rc
theorem DfI.skip {k M i j:Nat} {cur kc c1 c2:List Value} (h:DfI k M i j cur kc (c1++c2)) (hj:j<M) (hc:c1.length=k):DfI k M i (j+1) cur kc c2:=by
  refine ⟨h.len,by have:=h.lt;omega,hj,h.kl,h.k1,?_⟩
  have e:cur.drop ((j+1)*k)=(cur.drop (j*k)).drop k:=by rw[List.drop_drop,Nat.succ_mul]
  rw[e,h.r1, ←hc,List.drop_left]
theorem DfI.put {k M i j:Nat} {cur kc c1 c2:List Value} (h:DfI k M i j cur kc (c1++c2)) (hj:j<M) (hc:c1.length=k):DfI k M (i+1) (j+1) (cur.take (i*k)++c1++cur.drop (i*k+k)) (kc++c1) c2:=by
  have hlt:=h.lt
  have h2:i*k+k≤j*k:=by rw[←Nat.succ_mul];exact Nat.mul_le_mul_right _ hlt
  have h3:j*k+k≤M*k:=by rw[←Nat.succ_mul];exact Nat.mul_le_mul_right _ hj
  have hl:=h.len
  have hs:=h.skip hj hc
  have l1:(cur.take (i*k)++c1).length=(i+1)*k:=by rw[List.length_append,List.length_take,hc,Nat.succ_mul];omega
  refine ⟨?_,by omega,hj,?_,?_,?_⟩
  · simp only[List.length_append,List.length_take,List.length_drop,hc];omega
  · rw[List.length_append,h.kl,hc,Nat.succ_mul]
  · rw[←l1,List.take_left,h.k1]
  · rw[←hs.r1,List.drop_append,l1,(show (cur.take (i*k)++c1).drop ((j+1)*k)=[] from List.drop_eq_nil_of_le (by rw[l1];exact Nat.mul_le_mul_right _ (by omega))),List.nil_append,List.drop_drop]
    congr 1
    have h4:(i+1)*k≤(j+1)*k:=Nat.mul_le_mul_right _ (by omega)
    have h5:(i+1)*k=i*k+k:=Nat.succ_mul _ _
    have h6:(j+1)*k=j*k+k:=Nat.succ_mul _ _
    omega
theorem c0R {k M i:Nat} {cs c1 c2 c3:List Value} (hl:cs.length=M*k) (hi:i<M) (e:cs=c1++(c2++c3)) (h1:c1.length=i*k) (h2:c2.length=k):DfI k M i (i+1) cs c1 c3:=by
  subst e
  refine ⟨hl,by omega,hi,h1,by rw[←h1,List.take_left],?_⟩
  rw[←List.append_assoc,Nat.succ_mul, ←h1, ←h2, ←List.length_append,List.drop_left]
theorem a3d {α:Type} {s:List α} {p:α→Bool} {j:Nat} (h:j<s.length):(s.take (j+1)).filter p=if p s[j] then (s.take j).filter p++[s[j]] else (s.take j).filter p:=by
  rw[List.take_succ_eq_append_getElem h,List.filter_append]
  cases hp:p s[j]<;>simp[hp]
theorem b5i {α:Type} {s:List α} {p:α→Bool} {i:Nat} (h:J0 p s=(i:Int)):i<s.length∧(∀hi:i<s.length,p s[i]=true)∧(s.take i).filter (λx=> !p x)=s.take i∧(s.take (i+1)).filter (λx=> !p x)=s.take i:=by
  have h0:¬J0 p s<0:=by omega
  have h1:=a8e h0
  have ha:s.any p=true:=by
    by_cases q:s.any p=true
    · exact q
    · exact absurd (b1u.2 (by simpa using q)) h0
  have hf:(s.findIdx p:Int)=(i:Int):=by rw[←h,J0,if_pos ha]
  have hf':s.findIdx p=i:=by omega
  have hi:i<s.length:=by omega
  have hp:p s[i]=true:=by subst hf';exact List.findIdx_getElem
  have h3:(s.take i).filter (λx=> !p x)=s.take i:=by
    rw[List.filter_eq_self]
    intro x hx
    obtain ⟨q,hq,rfl⟩:=List.mem_take_iff_getElem.1 hx
    have:=List.not_of_lt_findIdx (p:=p) (xs:=s) (i:=q) (by omega)
    simpa using this
  refine ⟨hi,λ_=>hp,h3,?_⟩
  rw[a3d hi,if_neg (by simp[hp]),h3]
theorem b5K {α:Type} {s:List α} {p:α→Bool} (h:J0 p s<0):s.filter (λx=> !p x)=s:=by
  rw[List.filter_eq_self]
  intro x hx
  have:=b1u.1 h
  rw[List.any_eq_false] at this
  simpa using this x hx
end Go.Proofs.YthapcdhdfaibkaaGreatDoor
end
