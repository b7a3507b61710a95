import Derived.Test.YthapcdhdfaibkaaGreatDoorT120
import Derived.Test.YthapcdhdfaibkaaGreatDoorT11
import Derived.Test.YthapcdhdfaibkaaGreatDoorEy
section
namespace Go.Proofs.YthapcdhdfaibkaaGreatDoor
open Go.RowKit
set_option linter.all false
section
variable {α:Type} {E:Enc α} {n:Nat} {w0:World} {L0:List Nat} {fr:Fr} {R:List HP} {G:Act→World→Prop} {e:TypeId} {a:Option Addr} {m c:Nat} {xs:List α} {x:α}
def c2U (k m c:Nat) (tl cx:List Value):Prop:=m≤c∧c≤maxLen∧tl.length+k=c*k∧cx.length+k=m*k∧tl.take cx.length=cx
theorem b3n (hx:0<xs.length) (h:∀b ce tl cx,a=some ⟨b,0,none⟩∧m=xs.length∧c2U E.k m c tl cx→Ent n w0 L0 fr (pt b e (ce++tl)::ow E ce (xs[0]'hx)::els E cx (xs.drop 1)::R) G):Ent n w0 L0 fr (ow (Enc.sl e E) [.slice a m c] xs::R) G:=λac w h1 h2=>by
  obtain ⟨L,⟨Lo,LR,rfl,ho,hR⟩,hn,hst⟩:=h2
  obtain ⟨ccs,L1,L2,rfl,g1,g2,g3,h0,g4⟩:=a0V ho
  match xs,hx,g1,g3,h with
  |x::xs,hx,g1,g3,h=>
    obtain ⟨c1,c2,La,Lb,rfl,rfl,k1,k2⟩:=g3
    have e1:=E.len k1
    have e2:=k2.len
    rcases g4 with ⟨_,h3,_⟩|⟨g,cur,h2,h3,h4,h5,h6,h7,rfl⟩
    · simp at g1;omega
    · have e3:cur.toList=c1++cur.toList.drop E.k:=by
        have h8:=congrArg (List.take E.k) h7
        rw[List.take_take,List.take_append_of_le_length (by omega), ←e1,List.take_length,e1,Nat.min_eq_left (by rw[g1];simp only[List.length_cons,Nat.succ_mul];omega)] at h8
        rw[←h8,List.take_append_drop]
      have hl:cur.toList.length=c*E.k:=by simpa using h6
      refine h g c1 (cur.toList.drop E.k) c2 ⟨h2,g1,h4,h5,?_,?_,?_⟩ ac w h1 ⟨[g]++(La++(Lb++LR)),⟨[g],La++(Lb++LR),Z,⟨Z,?_⟩,La,Lb++LR,Z,k1,Lb,LR,Z,?_,hR⟩,?_,?_⟩
      · have:=congrArg List.length e3
        rw[List.length_append,hl] at this
        omega
      · rw[e2,g1,List.length_cons,Nat.succ_mul]
      · have h8:=h7
        rw[e3, ←e1,List.take_append,e1] at h8
        have h9:=(List.append_inj' h8 (by
          rw[List.length_take]
          have h10:(cur.toList.drop E.k).length=c*E.k-E.k:=by rw[List.length_drop,hl]
          have h11:m*E.k=xs.length*E.k+E.k:=by rw[g1,List.length_cons,Nat.succ_mul]
          have h12:m*E.k≤c*E.k:=Nat.mul_le_mul_right _ h4
          rw[h10,e2];omega)).2
        rw[e2]
        have h11:m*E.k-E.k=xs.length*E.k:=by rw[g1,List.length_cons,Nat.succ_mul];omega
        rwa [h11] at h9
      · rw[←e3];exact h3
      · exact k2
      · simpa[List.append_assoc] using hn
      · simpa[List.append_assoc] using hst
theorem a1T {b:Nat} {ce tl cx:List Value} (hx:0<xs.length) (hk:a=some ⟨b,0,none⟩∧m=xs.length∧c2U E.k m c tl cx) (h:Ent n w0 L0 fr (ow (Enc.sl e E) [.slice a m c] (xs.set 0 x)::R) G):
    Ent n w0 L0 fr (pt b e (ce++tl)::ow E ce x::els E cx (xs.drop 1)::R) G:=λac w h1 h2=>by
  obtain ⟨L,⟨L1,L2,rfl,⟨rfl,p1⟩,La,L3,rfl,k1,Lb,LR,rfl,k2,hR⟩,hn,hst⟩:=h2
  obtain ⟨rfl,rfl,z1,z2,z3,z4,z5⟩:=hk
  match xs,hx,z1,z4,k2,h with
  |y::xs,hx,z1,z4,k2,h=>
    have e1:=E.len k1
    have k2':y8 E w cx xs Lb true:=k2
    have e2:=k2'.len
    refine h ac w h1 ⟨([b]++(La++Lb))++LR,⟨[b]++(La++Lb),LR,Z,?_,hR⟩,by simpa[List.append_assoc] using hn,by simpa[List.append_assoc] using hst⟩
    refine ⟨_,_,c,ce++cx,[b],La++Lb,Z,by simp,by simp only[List.length_cons] at z1 ⊢;omega,Z,⟨ce,cx,La,Lb,Z,Z,k1,k2'⟩,?_⟩
    show (row _ _ _ _ _ _).holds _ _
    refine ⟨by rw[List.length_append,e1];omega,.inr ⟨b,(ce++tl).toArray,Z,p1,z1,z2,by simp;omega,?_,Z⟩⟩
    have h8:(y::xs).length*E.k=ce.length+cx.length:=by omega
    rw[List.toList_toArray,h8,List.take_append,List.take_of_length_le (by omega),Nat.add_sub_cancel_left,z5]
end
end Go.Proofs.YthapcdhdfaibkaaGreatDoor
end
section
namespace Go.Proofs.YthapcdhdfaibkaaGreatDoor
open Go.RowKit
set_option linter.all false
section
variable {P:Program} {n:Nat} {w0:World} {L0:List Nat} {fr:Fr} {H:List HP} {fn:Func} {κ:Type} {φ:κ→Prop} {ret:κ→Value} {post:κ→List HP} {wb:World} {Lb:List Nat}
theorem c5Y (hb:a0G w0 L0 wb Lb) {e:Exit} {s t u b:Nat} {T T':TypeId} {k':Nat} {z:List Value} {by':Nat} {cs:List Value} {v v':Value} (hres:fn.results= #[.tmp s,.cell t T,.tmp u]) (hv0:fr.lookup s=some v) (hv:fr.lookup t=some (.pointer (some ⟨b,0,none⟩))) (hv':fr.lookup u=some v') (hm:pt b T' cs∈H) (ht:TyOk P T true k' z by') (hl:cs.length=k')
    (k:κ) (hk:φ k) (hr: .tuple #[v,.agg cs.toArray,v']=ret k) {J:List HP} (hH:H.Perm (post k++J)) (he:e= .ret∨e= .normal):Ent n w0 L0 fr H (bodyPost P fn (Fin φ ret post wb Lb) e):=
  a4i hb he k hk hr hH λa w h1 h2=>by
    have h0:=h1.ev (x:=.tmp s) hv0
    have h3:=h1.ev (x:=.tmp t) hv
    have h5:=h1.ev (x:=.tmp u) hv'
    simp only[Act.eval] at h0 h3 h5
    have h4:=((Has.pt (w0:=w0) (L0:=L0) hm) w h2).run_load (P:=P) (v:=.agg cs.toArray) ht hl Z (λh=>by cases h)
    simp only[Instr.loadAt,Instr.sureAddr,Sem.run_bind,Sem.run_pure,Result.andThen_ok] at h4
    rw[Array.getD_eq_getD_getElem?] at h0 h3 h5
    simp[results,hres,h0,h3,h5,asAddr,h4]
end
end Go.Proofs.YthapcdhdfaibkaaGreatDoor
end
section
namespace Go.Proofs.YthapcdhdfaibkaaGreatDoor
open Go.RowKit
set_option linter.all false
theorem c0Q {α:Type} {E:Enc α} {w:World} {L:List Nat} {e:TypeId}:Ro w L (Enc.sl e E) [.slice none 0 0] []:=
  ⟨[],⟨none,0,0,[],[],[],Z,Z,Nat.zero_le _,Z,⟨Z,Z⟩,⟨⟨Nat.le_refl _,Nat.zero_le _⟩,.inl ⟨Z,Z⟩⟩⟩,by simp⟩
end Go.Proofs.YthapcdhdfaibkaaGreatDoor
end
section
namespace Go.Proofs.YthapcdhdfaibkaaGreatDoor
open Go.RowKit
set_option linter.all false
set_option maxHeartbeats 2000000
attribute [local irreducible] Nop Yd Yp Ent Has Tr FnP FnP2 Src K8 Q7 R5 S1 E8
variable {s:List Int} {b_c m_s c_s m_b c_b:Nat} {a_s a_b:Option Addr}
theorem a1K {bs:List UInt8} (h1:1≤s.length) (hsz:∀z∈s,1≤z∧z≤3):Tr Tryz.prog 184 [.pointer (some ⟨b_c,0,none⟩),.slice a_s m_s c_s] (λw L=>Ro w L eIs [.slice a_s m_s c_s] s∧Ro w L a0f [.slice a_b m_b c_b] bs) [cur b_c a_b m_b c_b] (κ:=(List Int)×(List IL)×(SL)×SL) (λk=>dQ kT 3 2 k.1 k.2.1) (λk=>.agg #[.slice k.2.2.1.1 k.2.2.1.2.1 k.2.2.1.2.2,.slice k.2.2.2.1 k.2.2.2.2.1 k.2.2.2.2.2]) (λk=>[ow eIs [.slice k.2.2.1.1 k.2.2.1.2.1 k.2.2.1.2.2] k.1,ow v8 [.slice k.2.2.2.1 k.2.2.2.2.1 k.2.2.2.2.2] k.2.1,cur b_c a_b m_b c_b]):=by
 refine Ti2 Tryz.func184 79 Z λw L hR=>?_
 obtain ⟨hs,hbs⟩:=hR
 obtain ⟨rfl,ls⟩:=hs.slen
 obtain ⟨rfl,lb⟩:=hbs.slen
 refine Ew Z1<|Est Z (N.alloc ty_Query dc)<|λb4 _=>Ev Z3<|Ey Z ((J2 (pvs:=[]) (cs:=[_,_]) ty_Query a2B Z Z).yd)<|Est Z (N.alloc ty_Query dc)<|λb5 _=>Est Z (Ns [_,_] ty_Query Z)<|λ_ _=>Eu<|Eq_<|Ew Z4<|Em Z<|i9<|Est Z (N.call (pre:=[_]) B5 Z Z Z dc Z<|λw Lp hA=>hA.ro hbs)<|λx14 o14=>?_
 try dsimp only at o14
 try (conv=>arg 5;dsimp only[ca,na])
 refine Yad Z om om<|Ei Z<|Eu<|E.block<|m8 (A:=[]) (Own.nil (E:=W5) (e:=tAtom) (a:=none)) Z<|E.loop (κ:=Nat×(List<|IL)×SL) (λg=>g.1≤(1+x14).toNat∧g.2.1.length=g.1∧∀a∈g.2.1,dA kT a) (λg=>[(0,.pointer<|some ⟨b_c,0,none⟩),(1,.slice a_s s.length c_s),(4,.pointer<|some ⟨b4,0,none⟩),(5,.pointer<|some ⟨b5,0,none⟩),(6,.int .i64<|1+x14-(↑g.1:Int))]) (λg=>[ow v8 [.slice g.2.2.1 g.2.2.2.1 g.2.2.2.2] g.2.1,cur b_c a_b bs.length c_b,pt b5 28 [.slice none 0 0,.slice g.2.2.1 g.2.2.2.1 g.2.2.2.2],pt b4 28 [.slice none 0 0,.slice none 0 0]]) (λg=>(1+x14).toNat-g.1) (0,[],none,0,0) ⟨Nat.zero_le _,by simp⟩ ⟨Z,Z,Z,Z,frI om,trivial⟩ (.refl _)<|λg pg=>?_
 obtain ⟨g,ats,aA0_1,mA0_1,cA0_1⟩:=g
 try dsimp only at pg
 try dsimp only
 obtain ⟨pk,pa⟩:=pg
 have pa0:=pa
 refine f0 m0 ?_
 rintro rfl laA0_1
 refine Eq_<|Ew Z2<|Em Z<|Ey Z ((Y.gtr Z Z).yd)<|l3 (λq17=>?_)<|λq17=>?_
 ·refine Eu<|Ct<|Eq_<|E.block<|Ew Z7<|Em Z<|Em Z<|Yln us_Is Z<|d8<|Est Z (N.call (pre:=[_]) B5 Z Z Z dc Z<|λw Lp hA=>hA.ro hbs)<|λx23 o23=>?_
  try dsimp only at o23
  try (conv=>arg 5;dsimp only[ca,na])
  have jx:x23.toNat<s.length:=by omega
  have jz:=hsz _ (List.getElem_mem jx)
  refine Ey Z ((J2 (pvs:=[_]) (cs:=[_,_]) ty_Atom a8X Z Z).yd)<|Est Z (N.alloc ty_Atom dc)<|λb7 _=>Est Z (Ns [_,_] ty_Atom Z)<|λ_ _=>Eu<|Eq_<|Ew Z1<|Ei Z<|Eu<|E.block<|m8 (A:=[]) (Own.nil (E:=Enc.int) (e:=tI) (a:=none)) Z<|Lo (κ:=Nat×(List Int)×SL) (λh=>h.1≤s[x23.toNat].toNat∧h.2.1.length=h.1∧∀t∈h.2.1,kT t) (λh=>[(0,.pointer<|some ⟨b_c,0,none⟩),(1,.slice a_s s.length c_s),(4,.pointer<|some ⟨b4,0,none⟩),(5,.pointer<|some ⟨b5,0,none⟩),(6,.int .i64<|1+x14-(g:Int)),(7,.pointer<|some ⟨b7,0,none⟩),(8,.int .i64 (↑h.1:Int))]) (λh=>[ow eIs [.slice h.2.2.1 h.2.2.2.1 h.2.2.2.2] h.2.1,pt b7 111 [.int .i64 x23,.slice h.2.2.1 h.2.2.2.1 h.2.2.2.2],cur b_c a_b bs.length c_b,ow v8 [.slice aA0_1 (ats).length cA0_1] ats,pt b5 28 [.slice none 0 0,.slice aA0_1 (ats).length cA0_1],pt b4 28 [.slice none 0 0,.slice none 0 0]]) (λh=>s[x23.toNat].toNat-h.1) (0,[],none,0,0) ⟨Nat.zero_le _,by simp⟩<|λh ph=>?_
  obtain ⟨h,tms,aA1_0,mA1_0,cA1_0⟩:=h
  try dsimp only at ph
  try dsimp only
  obtain ⟨pk,pa⟩:=ph
  refine f0 m0 ?_
  rintro rfl laA1_0
  refine Eq_<|Ew Z7<|Em Z<|Em Z<|Lz fo_Atom_0 j8 Z (mS m0) Z ?_
  obtain ⟨eb29,eo29,ea29,ei29,eh29⟩:=hs.elemI x23.toNat om
  refine Il us_Is j8 Z ea29 x23.toNat om om Z (eh29 _)<|Ylt Z<|l3 (λq31=>?_)<|λq31=>?_
  ·refine Eu<|Ct<|Eq_<|E.block<|Ew Z4<|Em Z<|i9<|Est Z (N.call (pre:=[_]) B5 Z Z Z dc Z<|λw Lp hA=>hA.ro hbs)<|λx35 o35=>?_
   try dsimp only at o35
   try (conv=>arg 5;dsimp only[ca,na])
   refine Yad Z om om<|Ei Z<|Eu<|Eq_<|Ew Z2<|Em Z<|Est Z (N.call (pre:=[_]) R7 Z Z Z dc Z<|λw Lp hA=>hA.ro hbs)<|λo38 o38=>?_
   try dsimp only at o38
   try (conv=>arg 5;dsimp only[ca,na])
   refine Ent.b (λq38=>?_)<|λq38=>?_
   ·refine Eu<|r9 Z<|Ez Z3<|Em Z<|Est Z (N.call (pre:=[_]) B5 Z Z Z dc Z<|λw Lp hA=>hA.ro hbs)<|λx40 o40=>?_
    try dsimp only at o40
    try (conv=>arg 5;dsimp only[ca,na])
    refine Ei Z<|Eu<|Ez Z7<|Lz fo_Atom_1 ty_Is Z (mS<|mS m0) Z<|Em Z<|Est Z (Nb [_] [_] us_Is j8 Z Z)<|λb44 _=>i9<|Est Z (w3 (E:=Enc.int) (ex:=x40) us_Is j8 Z Z Z (Own.int i6) Z bn bn dc)<|λp45 _=>Ey Z ((D3 fo_Atom_1 ty_Is dc Z).yd)<|i9<|Est Z (Ns [_,_] ty_Is Z)<|λ_ _=>En<|o6<|Et<|Ez Z3<|Em Z<|Yad Z om om<|Ei Z<|Eu<|u6<|u6<|u6<|u6<|s6<|u6 ?_
    exact Ea (h+1,tms++[x40],p45.1,((tms).length+1),p45.2) ⟨oz,(show (tms++[x40]).length=(h+1)∧∀t∈(tms++[x40]),kT t from by exact b4R pa (by unfold kT;omega))⟩
   ·refine Eu<|Cf<|Ez Z7<|Lz fo_Atom_1 ty_Is Z (mS<|mS m0) Z<|Em Z<|Est Z (Nb [_] [_] us_Is j8 Z Z)<|λb44 _=>i9<|Est Z (w3 (E:=Enc.int) (ex:=(10+x35)) us_Is j8 Z Z Z (Own.int i6) Z bn bn dc)<|λp45 _=>Ey Z ((D3 fo_Atom_1 ty_Is dc Z).yd)<|i9<|Est Z (Ns [_,_] ty_Is Z)<|λ_ _=>En<|o6<|Et<|Ez Z3<|Em Z<|Yad Z om om<|Ei Z<|Eu<|u6<|u6<|u6<|u6<|s6<|u6 ?_
    exact Ea (h+1,tms++[(10+x35)],p45.1,((tms).length+1),p45.2) ⟨oz,(show (tms++[(10+x35)]).length=(h+1)∧∀t∈(tms++[(10+x35)]),kT t from by exact b4R pa (by unfold kT;omega))⟩
  ·refine Eu<|r8 Z<|E.exit<|l2<|l2<|u4<|Et<|Ez Z7<|Lz fo_Query_1 ty_Atoms Z (mS<|mS<|mS<|mS m0) Z<|Ey Z (l4 (cs:=[_,_]) ty_Atom Z (Has.pt<|mS m0) Z)<|Est Z (Nb [_] [_,_] us_Atoms ty_Atom Z Z)<|λb50 _=>d8<|d8<|s6<|Est Z (w3 (E:=W5) (ex:=(x23,tms)) us_Atoms ty_Atom Z Z Z (O3 (x:=(x23,tms)) i6 Own.ow) Z bn bn dc)<|λp51 _=>Ey Z ((D3 fo_Query_1 ty_Atoms dc Z).yd)<|n0<|Est Z (Ns [_,_] ty_Atoms Z)<|λ_ _=>En<|o6<|Et<|Ez Z3<|Em Z<|Ey Z ((Y.sub Z Z om om).yd)<|Ei Z<|Eu<|i9<|Ent.drop<|n0<|d8<|n0<|n0 ?_
   exact u7 br (g+1,ats++[(x23,tms)],p51.1,((ats).length+1),p51.2) ⟨Z,Z,Z,Z,frI om,trivial⟩ (.refl _) ⟨oz,(show (ats++[(x23,tms)]).length=(g+1)∧∀a∈(ats++[(x23,tms)]),dA kT a from by exact c1V pa0 om om pa.2)⟩ oz
 ·have pb:=pa0
  have jv:=b8M (is:=λt=>inR t 10 17) (show ats.length≤3 by omega) pa0.2
  refine Eu<|r8 Z<|E.exit<|l2<|l2<|u4<|Et<|Ew Z3<|Ey Z (l4 (cs:=[_,_]) ty_Query Z (Has.pt<|mS<|mS m0) Z)<|El Z (a2a<|c2g om pa0.2) Z (λhA=>⟨c0Q,hA.ow m0⟩)<|λa54 c54 l54=>Ei Z<|Eu<|Eq_<|Ew Z1<|Ei Z<|Eu<|E.block<|m8 (A:=[]) (Own.nil (E:=Enc.int) (e:=tI) (a:=none)) Z<|Lo (κ:=Nat×(List Int)×SL) (λr=>r.1≤(k7 (λt=>inR t 10 17) ats).length∧r.2.1.length≤2) (λr=>[(0,.pointer<|some ⟨b_c,0,none⟩),(4,.pointer<|some ⟨b4,0,none⟩),(5,.pointer<|some ⟨b5,0,none⟩),(10,.slice a54 (k7 (λt=>inR t 10 17) ats).length c54),(11,.int .i64 (↑r.1:Int))]) (λr=>[ow eIs [.slice r.2.2.1 r.2.2.2.1 r.2.2.2.2] r.2.1,ow eIs [.slice a54 (k7 (λt=>inR t 10 17) ats).length c54]<|k7 (λt=>inR t 10 17) ats,ow v8 [.slice aA0_1 (ats).length cA0_1] ats,cur b_c a_b bs.length c_b,pt b5 28 [.slice r.2.2.1 r.2.2.2.1 r.2.2.2.2,.slice aA0_1 (ats).length cA0_1],pt b4 28 [.slice none 0 0,.slice none 0 0]]) (λr=>(k7 (λt=>inR t 10 17) ats).length-r.1) (0,[],none,0,0) ⟨Nat.zero_le _,by simp⟩<|λr pr=>?_
  obtain ⟨r,hd,aA2_0,mA2_0,cA2_0⟩:=r
  try dsimp only at pr
  try dsimp only
  obtain ⟨pk,pa⟩:=pr
  refine f0 m0 ?_
  rintro rfl laA2_0
  refine Eq_<|Ew Z10<|Em Z<|Em Z<|Yln us_Is Z<|Ylt Z<|l3 (λq58=>?_)<|λq58=>?_
  ·refine Em Z<|Lz fo_Query_0 ty_Is Z (mS<|mS<|mS<|mS m0) Z<|Yln us_Is Z<|Ylt Z<|l3 (λq63=>?_)<|λq63=>?_
   ·refine Ypt Z<|Eu<|Ct<|Eq_<|E.block<|Ew Z2<|Em Z<|n0<|Est Z (N.call (pre:=[_]) R7 Z Z Z dc Z<|λw Lp hA=>hA.ro hbs)<|λo68 o68=>?_
    try dsimp only at o68
    try (conv=>arg 5;dsimp only[ca,na])
    refine Ent.b (λq68=>?_)<|λq68=>?_
    ·refine Eu<|r9 Z<|D.region (λj=> !(Nat.beq j 7)&& !(Nat.beq j 9)) mixed<|Df 0 1 fo_Query_0 ty_Is Z (Hz (mS<|mS<|mS<|mS m0) 0 Z)<|Dm 2 Z<|Dm 3 Z<|R1 (mS<|mS m0) om λab73 ae73=>b6V r (mS<|mS m0) om λei73=>Dyp 4 Z (y6 us_Is j8 Z ae73 Z r Z om)<|Dy 5 Z (z7 j8 Z (b5D ae73 (mS<|mS m0) om) Z)<|w6 6 Z Z kr (λ_=>rfl) (Nb [_] [_] us_Is j8 Z Z)<|λb75 _=>i9<|w6 7 Z Z kr (λh=>by cases h) (w3 (E:=Enc.int) (ex:=(k7 (λt=>inR t 10 17) ats)[r]) us_Is j8 Z Z Z (Own.int ei73) Z bn bn dc)<|λp76 _=>Dyp 8 Z (D3 fo_Query_0 ty_Is dc Z)<|s6<|w6 9 Z Z kr (λh=>by cases h) (Ns [_,_] ty_Is rfl)<|λ_ _=>o4 kr<|o6<|Et<|Ez Z3<|Em Z<|Yad Z om om<|Ei Z<|Eu<|u6<|d8<|n0<|u6<|u6<|u6 ?_
     exact Ea (r+1,hd++[(k7 (λt=>inR t 10 17) ats)[r]],p76.1,((hd).length+1),p76.2) ⟨oz,(show (hd++[(k7 (λt=>inR t 10 17) ats)[r]]).length≤2 from by first|omega|(simp only[List.length_append,List.length_singleton];omega))⟩
    ·refine Eu<|r8 Z<|v6<|o6<|Et<|Ez Z3<|Em Z<|Yad Z om om<|Ei Z<|Eu<|u6<|u6<|i9<|u6<|u6<|u6 ?_
     exact Ea (r+1,hd,aA2_0,_,cA2_0) ⟨oz,(show hd.length≤2 from by first|omega|(simp only[List.length_append,List.length_singleton];omega))⟩
   ·refine Ypt Z<|Eu<|r8 Z<|E.exit<|l2<|l2<|u4<|Et<|Ew Z2<|Ey Z (l4 (cs:=[_,_]) ty_Query Z (Has.pt<|mS<|mS<|mS<|mS m0) Z)<|u6<|Est Z (Ns [_,_] ty_Query Z)<|λ_ _=>Eu<|E.ret<|n0<|i9<|s6<|i9<|i9<|N7 br Z Z (mS<|mS<|mS m0) ty_Query Z (hd,ats,(_,_,_),(_,_,_)) (show dQ kT 3 2 hd ats from by exact ⟨⟨by omega,by omega⟩,pb.2,by omega⟩) Z (J:=_) (.refl _)<|.inl Z
  ·refine Em Z<|Es Z<|Es Z<|Es Z<|Es Z<|Ypf Z<|Eu<|r8 Z<|E.exit<|l2<|l2<|u4<|Et<|Ew Z2<|Ey Z (l4 (cs:=[_,_]) ty_Query Z (Has.pt<|mS<|mS<|mS<|mS m0) Z)<|u6<|Est Z (Ns [_,_] ty_Query Z)<|λ_ _=>Eu<|E.ret<|n0<|i9<|s6<|i9<|i9<|N7 br Z Z (mS<|mS<|mS m0) ty_Query Z (hd,ats,(_,_,_),(_,_,_)) (show dQ kT 3 2 hd ats from by exact ⟨⟨by omega,by omega⟩,pb.2,by omega⟩) Z (J:=_) (.refl _)<|.inl Z
theorem b4W {bs:List UInt8}:Tr Tryz.prog 287 [.pointer (some ⟨b_c,0,none⟩),.slice a_s m_s c_s] (λw L=>Ro w L eIs [.slice a_s m_s c_s] s∧Ro w L a0f [.slice a_b m_b c_b] bs) [cur b_c a_b m_b c_b] (κ:=(List Int)×(List IL)×(SL)×SL) (λk=>dQ dT 3 3 k.1 k.2.1) (λk=>.agg #[.slice k.2.2.1.1 k.2.2.1.2.1 k.2.2.1.2.2,.slice k.2.2.2.1 k.2.2.2.2.1 k.2.2.2.2.2]) (λk=>[ow eIs [.slice k.2.2.1.1 k.2.2.1.2.1 k.2.2.1.2.2] k.1,ow v8 [.slice k.2.2.2.1 k.2.2.2.2.1 k.2.2.2.2.2] k.2.1,cur b_c a_b m_b c_b]):=by
 refine Ti2 Tryz.func287 48 Z λw L hR=>?_
 obtain ⟨hs,hbs⟩:=hR
 obtain ⟨rfl,ls⟩:=hs.slen
 obtain ⟨rfl,lb⟩:=hbs.slen
 refine Ew Z1<|Est Z (N.alloc ty_Query dc)<|λb4 _=>Ev Z6<|Est Z (Nb [_] [_] us_Is j8 Z Z)<|λb6 _=>m8 (A:=_::_) (V2 (E:=Enc.int) (e:=tI)<|Own.int i6) Z<|Ey Z ((J2 (pvs:=[_]) (cs:=[_,_]) ty_Atom a8X Z Z).yd)<|Est Z (Nb [_] [_,_] us_Atoms ty_Atom Z Z)<|λb8 _=>d8<|d8<|m8 (A:=_::_) (V2 (E:=W5) (e:=tAtom)<|O3 (x:=(0,[10])) i6 Own.ow) Z<|Ey Z ((J2 (pvs:=[_]) (cs:=[_,_]) ty_Query a2B Z Z).yd)<|Est Z (N.alloc ty_Query dc)<|λb5 _=>Est Z (Ns [_,_] ty_Query Z)<|λ_ _=>Eu<|Eq_<|Ew Z2<|Em Z<|E0 Z M7 Z (λhA=>hA.ro hs)<|Ent.b (λq11=>?_)<|λq11=>?_
 ·refine Eu<|r9 Z<|Ez Z4<|Em Z<|Em Z<|n0<|Est Z (N.call (pre:=[_]) (a1K (a0b q11).1 (a0b q11).2.2) Z Z Z dc Z<|λw Lp hA=>⟨hA.ro hs,hA.ro hbs⟩)<|λk14 o14=>?_
  obtain ⟨hq14,aq14,⟨a14_0,m14_0,c14_0⟩,⟨a14_1,m14_1,c14_1⟩⟩:=k14
  try dsimp only at o14
  try (conv=>arg 4;dsimp only)
  try (conv=>arg 5;dsimp only[ca,na])
  have jb:=And.intro o14.up o14.2.2
  have jl:=jb.1.1
  have jh:=jb.2
  have jt:=(jb.1.2.1 _ (List.getElem_mem (show 0<aq14.length by omega))).1
  refine f0 m0 ?_
  rintro rfl l14_0
  refine f0 (mS m0) ?_
  rintro rfl l14_1
  refine n0<|Est Z (Ns [_,_] ty_Query Z)<|λ_ _=>Eu<|Eq_<|Ew Z2<|Em Z<|n0<|Est Z (N.call (pre:=[_]) B5 Z Z Z dc Z<|λw Lp hA=>hA.ro hbs)<|λx16 o16=>?_
  try dsimp only at o16
  try (conv=>arg 5;dsimp only[ca,na])
  refine Eu<|E.block<|Ew Z2<|Yeq Z<|n0<|b3n om λhb90 hce90 htl90 hcx90 hok90=>d8<|a4n λoa90_1 om90_1 oc90_1 oe90 oi90_0 on90_1=>?_
  subst oe90
  subst on90_1
  refine f0 m0 λ_ ol90_1=>Ei Z<|l3 (λq17=>?_)<|λq17=>?_
  ·refine Eu<|r9 Z<|U3 [hb90,b5,b4] (λj=> !(Nat.beq j 8)) mixed<|C7 0 Z Z dc (D3 fo_Query_0 ty_Is dc Z) kr<|a1y 1 Z Z dc (W4 ty_Is Z ((X7.pt (mS<|mS<|mS<|mS m0) (by simp)).sub (cs':=[_]) 0 Z) Z) kr<|C7 2 Z Z dc (P5 Z) kr<|G7 3 Z Z kr (λ_ _=>SameI.out) (Nb [_,_,_,_] [_,_,_,_] us_Is j8 Z Z)<|λb22 _=>m8 (A:=[_]) (Own.ints (e:=tI) (xs:=[17,18,3,-1]) Z (by simp[maxLen]) (by simp only[List.forall_mem_cons];exact ⟨i6,i6,i6,i6,List.forall_mem_nil _⟩)) Z<|s6<|G7 4 Z Z kr (λ_ _=>SameI.out) (N.call (pre:=[_]) (K4 dc) Z Z Z dc Z<|λw Lp hA=>⟨hA.ow m0,hA.ro hbs⟩)<|λx23 o23=>?_
   try dsimp only at o23
   try (conv=>arg 5;dsimp only[ca,na])
   have jp: -10≤x23∧x23≤20:=by simp at o23;omega
   refine G7 5 Z Z kr (λ_ _=>SameI.out) (Nb [_] [_] us_Is j8 Z Z)<|λb24 _=>H1<|G7 6 Z Z kr (λ_ _=>SameI.out) (w3 (E:=Enc.int) (ex:=x23) us_Is j8 Z Z Z (Own.int i6) Z bn bn dc)<|λp25 _=>C7 7 Z Z dc (D3 fo_Query_0 ty_Is dc Z) kr<|s4<|G7 8 Z Z kr (λh=>by cases h) (Ns [_,_] ty_Is rfl)<|λ_ _=>X4 kr<|o6<|Et<|Ew Z2<|s4<|s4<|s4<|m8 (A:=[_]) (O3 (x:=aq14[0]) oi90_0 Own.ow) Z<|d8<|a1T (xs:=aq14) (ce:=[_,_]) om hok90<|g9 (congrArg (ow v8 [_])<|List.set_getElem_self (show 0<List.length aq14 by omega))<|Ey Z (l4 (cs:=[_,_]) ty_Query Z (Has.pt<|mS m0) Z)<|s4<|Est Z (Ns [_,_] ty_Query Z)<|λ_ _=>Eu<|E.ret<|d8<|n0<|s6<|i9<|i9<|N7 br Z Z (mS<|mS<|mS m0) ty_Query Z (hq14++[x23],aq14,(_,_,_),(_,_,_)) (show dQ dT 3 3 (hq14++[x23]) aq14 from by exact b6Q jb) Z (J:=_) (.refl _)<|.inl Z
  ·refine Eu<|r8 Z<|Ew Z2<|Yeq Z<|Ei Z<|l3 (λq27=>?_)<|λq27=>?_
   ·refine Eu<|r9 Z<|U3 [hb90,b5,b4] (λj=> !(Nat.beq j 9)) mixed<|C7 0 Z Z dc (D3 fo_Query_1 ty_Atoms dc Z) kr<|a1y 1 Z Z dc (W4 ty_Atoms Z ((X7.pt (mS<|mS<|mS<|mS m0) (by simp)).sub (cs':=[_]) 1 Z) Z) kr<|C7 2 Z Z dc (y6 us_Atoms ty_Atom Z hok90.1 Z 0 Z om) kr<|C7 3 Z Z dc (D3 fo_Atom_1 ty_Is dc Z) kr<|a1y 4 Z Z dc (W4 ty_Is Z ((X7.pt (mS m0) (by simp)).sub (cs':=[_]) 1 Z) Z) kr<|C7 5 Z Z dc (P5 Z) kr<|G7 6 Z Z kr (λ_ _=>SameI.out) (Nb [_,_,_,_] [_,_,_,_] us_Is j8 Z Z)<|λb35 _=>m8 (A:=[_]) (Own.ints (e:=tI) (xs:=[-1,9,17,18]) Z (by simp[maxLen]) (by simp only[List.forall_mem_cons];exact ⟨i6,i6,i6,i6,List.forall_mem_nil _⟩)) Z<|s6<|G7 7 Z Z kr (λ_ _=>SameI.out) (N.call (pre:=[_]) (K4 dc) Z Z Z dc Z<|λw Lp hA=>⟨hA.ow m0,hA.ro hbs⟩)<|λx36 o36=>?_
    try dsimp only at o36
    try (conv=>arg 5;dsimp only[ca,na])
    have jp: -10≤x36∧x36≤20:=by simp at o36;omega
    have jd:dT x36:=by simp at o36;unfold dT;omega
    refine R1 (mS<|mS m0) om λab37 ae37=>C7 8 Z Z dc (y6 us_Is j8 Z ae37 Z 0 Z om) kr<|i9<|G7 9 Z Z kr (λ_ _=>SameI.out) (N.set (E:=Enc.int) (j:=0) (ex:=x36) (ce:=[_]) j8 Z Z Z Z (Own.int i6) ae37 (Nat.zero_add _) Z (by first|(simp;omega)|omega|(simp;done)))<|λ_ _=>X4 kr<|o6<|Et<|Ew Z2<|s6<|s6<|i9<|m8 (A:=[_]) (O3 (x:=(aq14[0].1,aq14[0].2.set 0 x36)) oi90_0 Own.ow) Z<|d8<|a1T (xs:=aq14) (ce:=[_,_]) om hok90<|Ey Z (l4 (cs:=[_,_]) ty_Query Z (Has.pt<|mS<|mS<|mS m0) Z)<|s4<|Est Z (Ns [_,_] ty_Query Z)<|λ_ _=>Eu<|E.ret<|d8<|u6<|n0<|i9<|i9<|N7 br Z Z (mS<|mS<|mS m0) ty_Query Z (hq14,aq14.set 0 (aq14[0].1,aq14[0].2.set 0 x36),(_,_,_),(_,_,_)) (show dQ dT 3 3 hq14 (aq14.set 0 (aq14[0].1,aq14[0].2.set 0 x36)) from by exact b6J jb.1 jd) Z (J:=_) (.refl _)<|.inl Z
   ·refine Eu<|r8 Z<|Ew Z2<|Yeq Z<|Ei Z<|l3 (λq38=>?_)<|λq38=>?_
    ·refine Eu<|r9 Z<|U3 [hb90,b5,b4] (λj=> !(Nat.beq j 7)) mixed<|C7 0 Z Z dc (D3 fo_Query_1 ty_Atoms dc Z) kr<|a1y 1 Z Z dc (W4 ty_Atoms Z ((X7.pt (mS<|mS<|mS<|mS m0) (by simp)).sub (cs':=[_]) 1 Z) Z) kr<|C7 2 Z Z dc (P5 Z) kr<|n0<|G7 3 Z Z kr (λ_ _=>SameI.out) (N.call (pre:=[_]) B5 Z Z Z dc Z<|λw Lp hA=>hA.ro hbs)<|λx43 o43=>?_
     try dsimp only at o43
     try (conv=>arg 5;dsimp only[ca,na])
     refine C7 4 Z Z dc (Y.sub Z Z om om) kr<|C7 5 Z Z dc (y6 us_Atoms ty_Atom Z hok90.1 Z 0 Z om) kr<|C7 6 Z Z dc (D3 fo_Atom_0 j8 dc Z) kr<|i9<|G7 7 Z Z kr (λh=>by cases h) (b3O (vs:=[_]) (cs':=[_,_]++htl90) j8 Z Z Z Z Z bl Z)<|λ_ _=>X4 kr<|o6<|Et<|Ew Z2<|n0<|d8<|n0<|m8 (A:=[_]) (O3 (x:=((x43-1),aq14[0].2)) i6 Own.ow) Z<|d8<|a1T (xs:=aq14) (ce:=[_,_]) om hok90<|Ey Z (l4 (cs:=[_,_]) ty_Query Z (Has.pt<|mS<|mS m0) Z)<|u6<|Est Z (Ns [_,_] ty_Query Z)<|λ_ _=>Eu<|E.ret<|d8<|s6<|n0<|i9<|i9<|N7 br Z Z (mS<|mS<|mS m0) ty_Query Z (hq14,aq14.set 0 ((x43-1),aq14[0].2),(_,_,_),(_,_,_)) (show dQ dT 3 3 hq14 (aq14.set 0 ((x43-1),aq14[0].2)) from by exact b8k jb.1) Z (J:=_) (.refl _)<|.inl Z
    ·refine Eu<|r8 Z<|v6<|o6<|Et<|Ew Z2<|i9<|i9<|i9<|m8 (A:=[_]) (O3 (x:=aq14[0]) oi90_0 Own.ow) Z<|d8<|a1T (xs:=aq14) (ce:=[_,_]) om hok90<|g9 (congrArg (ow v8 [_])<|List.set_getElem_self (show 0<List.length aq14 by omega))<|Ey Z (l4 (cs:=[_,_]) ty_Query Z (Has.pt<|mS<|mS m0) Z)<|u6<|Est Z (Ns [_,_] ty_Query Z)<|λ_ _=>Eu<|E.ret<|d8<|s6<|n0<|i9<|i9<|N7 br Z Z (mS<|mS<|mS m0) ty_Query Z (hq14,aq14,(_,_,_),(_,_,_)) (show dQ dT 3 3 hq14 aq14 from by exact jb.1) Z (J:=_) (.refl _)<|.inl Z
 ·have jb:=c2r
  refine Eu<|Cf<|Eq_<|Ew Z2<|Em Z<|n0<|Est Z (N.call (pre:=[_]) B5 Z Z Z dc Z<|λw Lp hA=>hA.ro hbs)<|λx16 o16=>?_
  try dsimp only at o16
  try (conv=>arg 5;dsimp only[ca,na])
  refine Eu<|E.block<|Ew Z2<|Yeq Z ?_
  obtain ⟨aq0,haq⟩:∃z:List IL,z=[(0,[10])]:=⟨_,Z⟩
  rw[←haq] at jb
  have jl:=jb.1.1
  have jh:=jb.2
  have jt:=(jb.1.2.1 _ (List.getElem_mem (show 0<aq0.length by omega))).1
  refine i9<|g9 (congrArg (ow v8 [_]) haq.symm)<|b3n om λhb90 hce90 htl90 hcx90 hok90=>d8<|a4n λoa90_1 om90_1 oc90_1 oe90 oi90_0 on90_1=>?_
  subst oe90
  subst on90_1
  refine f0 m0 λ_ ol90_1=>Ei Z<|l3 (λq17=>?_)<|λq17=>?_
  ·refine Eu<|r9 Z<|U3 [hb90,b5,b4] (λj=> !(Nat.beq j 8)) mixed<|C7 0 Z Z dc (D3 fo_Query_0 ty_Is dc Z) kr<|a1y 1 Z Z dc (W4 ty_Is Z ((X7.pt (mS<|mS<|mS<|mS m0) (by simp)).sub (cs':=[_]) 0 Z) Z) kr<|C7 2 Z Z dc (P5 Z) kr<|G7 3 Z Z kr (λ_ _=>SameI.out) (Nb [_,_,_,_] [_,_,_,_] us_Is j8 Z Z)<|λb22 _=>m8 (A:=[_]) (Own.ints (e:=tI) (xs:=[17,18,3,-1]) Z (by simp[maxLen]) (by simp only[List.forall_mem_cons];exact ⟨i6,i6,i6,i6,List.forall_mem_nil _⟩)) Z<|s6<|G7 4 Z Z kr (λ_ _=>SameI.out) (N.call (pre:=[_]) (K4 dc) Z Z Z dc Z<|λw Lp hA=>⟨hA.ow m0,hA.ro hbs⟩)<|λx23 o23=>?_
   try dsimp only at o23
   try (conv=>arg 5;dsimp only[ca,na])
   have jp: -10≤x23∧x23≤20:=by simp at o23;omega
   refine G7 5 Z Z kr (λ_ _=>SameI.out) (Nb [_] [_] us_Is j8 Z Z)<|λb24 _=>m8 (A:=[]) (Own.nil (E:=Enc.int) (e:=tI) (a:=none)) Z<|d8<|d8<|G7 6 Z Z kr (λ_ _=>SameI.out) (w3 (E:=Enc.int) (ex:=x23) us_Is j8 Z Z Z (Own.int i6) Z bn bn dc)<|λp25 _=>C7 7 Z Z dc (D3 fo_Query_0 ty_Is dc Z) kr<|s4<|G7 8 Z Z kr (λh=>by cases h) (Ns [_,_] ty_Is rfl)<|λ_ _=>X4 kr<|o6<|Et<|Ew Z2<|s4<|s4<|s4<|m8 (A:=[_]) (O3 (x:=aq0[0]) oi90_0 Own.ow) Z<|d8<|a1T (xs:=aq0) (ce:=[_,_]) om hok90<|g9 (congrArg (ow v8 [_])<|List.set_getElem_self (show 0<List.length aq0 by omega))<|Ey Z (l4 (cs:=[_,_]) ty_Query Z (Has.pt<|mS m0) Z)<|u6<|Est Z (Ns [_,_] ty_Query Z)<|λ_ _=>Eu<|E.ret<|d8<|n0<|s6<|i9<|i9<|N7 br Z Z (mS<|mS<|mS m0) ty_Query Z ([]++[x23],aq0,(_,_,_),(_,_,_)) (show dQ dT 3 3 ([]++[x23]:List Int) aq0 from by exact b6Q jb) Z (J:=_) (.refl _)<|.inl Z
  ·refine Eu<|r8 Z<|Ew Z2<|Yeq Z<|Ei Z<|l3 (λq27=>?_)<|λq27=>?_
   ·refine Eu<|r9 Z<|U3 [hb90,b5,b4] (λj=> !(Nat.beq j 9)) mixed<|C7 0 Z Z dc (D3 fo_Query_1 ty_Atoms dc Z) kr<|a1y 1 Z Z dc (W4 ty_Atoms Z ((X7.pt (mS<|mS<|mS<|mS m0) (by simp)).sub (cs':=[_]) 1 Z) Z) kr<|C7 2 Z Z dc (y6 us_Atoms ty_Atom Z hok90.1 Z 0 Z om) kr<|C7 3 Z Z dc (D3 fo_Atom_1 ty_Is dc Z) kr<|a1y 4 Z Z dc (W4 ty_Is Z ((X7.pt (mS m0) (by simp)).sub (cs':=[_]) 1 Z) Z) kr<|C7 5 Z Z dc (P5 Z) kr<|G7 6 Z Z kr (λ_ _=>SameI.out) (Nb [_,_,_,_] [_,_,_,_] us_Is j8 Z Z)<|λb35 _=>m8 (A:=[_]) (Own.ints (e:=tI) (xs:=[-1,9,17,18]) Z (by simp[maxLen]) (by simp only[List.forall_mem_cons];exact ⟨i6,i6,i6,i6,List.forall_mem_nil _⟩)) Z<|s6<|G7 7 Z Z kr (λ_ _=>SameI.out) (N.call (pre:=[_]) (K4 dc) Z Z Z dc Z<|λw Lp hA=>⟨hA.ow m0,hA.ro hbs⟩)<|λx36 o36=>?_
    try dsimp only at o36
    try (conv=>arg 5;dsimp only[ca,na])
    have jp: -10≤x36∧x36≤20:=by simp at o36;omega
    have jd:dT x36:=by simp at o36;unfold dT;omega
    refine R1 (mS<|mS m0) om λab37 ae37=>C7 8 Z Z dc (y6 us_Is j8 Z ae37 Z 0 Z om) kr<|i9<|G7 9 Z Z kr (λ_ _=>SameI.out) (N.set (E:=Enc.int) (j:=0) (ex:=x36) (ce:=[_]) j8 Z Z Z Z (Own.int i6) ae37 (Nat.zero_add _) Z (by first|(simp;omega)|omega|(simp;done)))<|λ_ _=>X4 kr<|o6<|Et<|Ew Z2<|s6<|s6<|i9<|m8 (A:=[_]) (O3 (x:=(aq0[0].1,aq0[0].2.set 0 x36)) oi90_0 Own.ow) Z<|d8<|a1T (xs:=aq0) (ce:=[_,_]) om hok90<|Ey Z (l4 (cs:=[_,_]) ty_Query Z (Has.pt<|mS<|mS<|mS m0) Z)<|s6<|Est Z (Ns [_,_] ty_Query Z)<|λ_ _=>Eu<|E.ret<|d8<|m8 (A:=[]) (Own.nil (E:=Enc.int) (e:=tI) (a:=none)) Z<|n0<|i9<|i9<|N7 br Z Z (mS<|mS<|mS m0) ty_Query Z ([],aq0.set 0 (aq0[0].1,aq0[0].2.set 0 x36),(none,0,0),(_,_,_)) (show dQ dT 3 3 ([]:List Int) (aq0.set 0 (aq0[0].1,aq0[0].2.set 0 x36)) from by exact b6J jb.1 jd) Z (J:=_) (.refl _)<|.inl Z
   ·refine Eu<|r8 Z<|Ew Z2<|Yeq Z<|Ei Z<|l3 (λq38=>?_)<|λq38=>?_
    ·refine Eu<|r9 Z<|U3 [hb90,b5,b4] (λj=> !(Nat.beq j 7)) mixed<|C7 0 Z Z dc (D3 fo_Query_1 ty_Atoms dc Z) kr<|a1y 1 Z Z dc (W4 ty_Atoms Z ((X7.pt (mS<|mS<|mS<|mS m0) (by simp)).sub (cs':=[_]) 1 Z) Z) kr<|C7 2 Z Z dc (P5 Z) kr<|n0<|G7 3 Z Z kr (λ_ _=>SameI.out) (N.call (pre:=[_]) B5 Z Z Z dc Z<|λw Lp hA=>hA.ro hbs)<|λx43 o43=>?_
     try dsimp only at o43
     try (conv=>arg 5;dsimp only[ca,na])
     refine C7 4 Z Z dc (Y.sub Z Z om om) kr<|C7 5 Z Z dc (y6 us_Atoms ty_Atom Z hok90.1 Z 0 Z om) kr<|C7 6 Z Z dc (D3 fo_Atom_0 j8 dc Z) kr<|i9<|G7 7 Z Z kr (λh=>by cases h) (b3O (vs:=[_]) (cs':=[_,_]++htl90) j8 Z Z Z Z Z bl Z)<|λ_ _=>X4 kr<|o6<|Et<|Ew Z2<|n0<|d8<|n0<|m8 (A:=[_]) (O3 (x:=((x43-1),aq0[0].2)) i6 Own.ow) Z<|d8<|a1T (xs:=aq0) (ce:=[_,_]) om hok90<|Ey Z (l4 (cs:=[_,_]) ty_Query Z (Has.pt<|mS<|mS m0) Z)<|n0<|Est Z (Ns [_,_] ty_Query Z)<|λ_ _=>Eu<|E.ret<|d8<|m8 (A:=[]) (Own.nil (E:=Enc.int) (e:=tI) (a:=none)) Z<|n0<|i9<|i9<|N7 br Z Z (mS<|mS<|mS m0) ty_Query Z ([],aq0.set 0 ((x43-1),aq0[0].2),(none,0,0),(_,_,_)) (show dQ dT 3 3 ([]:List Int) (aq0.set 0 ((x43-1),aq0[0].2)) from by exact b8k jb.1) Z (J:=_) (.refl _)<|.inl Z
    ·refine Eu<|r8 Z<|v6<|o6<|Et<|Ew Z2<|i9<|i9<|i9<|m8 (A:=[_]) (O3 (x:=aq0[0]) oi90_0 Own.ow) Z<|d8<|a1T (xs:=aq0) (ce:=[_,_]) om hok90<|g9 (congrArg (ow v8 [_])<|List.set_getElem_self (show 0<List.length aq0 by omega))<|Ey Z (l4 (cs:=[_,_]) ty_Query Z (Has.pt<|mS<|mS m0) Z)<|n0<|Est Z (Ns [_,_] ty_Query Z)<|λ_ _=>Eu<|E.ret<|d8<|m8 (A:=[]) (Own.nil (E:=Enc.int) (e:=tI) (a:=none)) Z<|n0<|i9<|i9<|N7 br Z Z (mS<|mS<|mS m0) ty_Query Z ([],aq0,(none,0,0),(_,_,_)) (show dQ dT 3 3 ([]:List Int) aq0 from by exact jb.1) Z (J:=_) (.refl _)<|.inl Z
end Go.Proofs.YthapcdhdfaibkaaGreatDoor
end
