import Derived.Test.YthapcdhdfaibkaaGreatDoorT23
import Derived.Test.YthapcdhdfaibkaaGreatDoorGc
section
namespace Go.Proofs.YthapcdhdfaibkaaGreatDoor
open Go.RowKit
set_option linter.all false
set_option maxHeartbeats 2000000
attribute [local irreducible] Nop Yd Yp Ent Has Tr FnP FnP2 Src K8 Q7 R5 S1 E8
theorem a5K {l6:Int} {w5:Option Addr} {C0 w4:Nat} {f9:List Int} (haz:f9.length≤1048576):Tr Tryz.prog 243 [.agg #[.int .i64 l6,.slice w5 C0 w4]] (λw L=>I64 l6∧Ro w L eIs [.slice w5 C0 w4] f9) [] (κ:=SL) (λk=>True) (λk=>.agg #[.int .i64 l6,.slice k.1 k.2.1 k.2.2]) (λk=>[ow eIs [.slice k.1 k.2.1 k.2.2] f9]):=by
 refine Ti1 Tryz.func243 9 Z λw L hR=>?_
 obtain ⟨M0,y5⟩:=hR
 obtain ⟨rfl,R4⟩:=y5.slen
 refine Ew Z2<|Est Z (N.box (cs:=[_,_]) Z dc Z)<|λb1 _=>Est Z (N.alloc ty_Atom dc)<|λb2 _=>Eu<|Eq_<|D.region (λj=> !(Nat.beq j 6)) mixed<|Df 0 1 fo_Atom_0 j8 Z (Hz (mS m0) 0 Z)<|Df 2 3 fo_Atom_1 ty_Is Z (Hz (mS m0) 1 Z)<|Dl 4 Z (a1g fc) Z (λhA=>hA.ro y5)<|λa7 c7 l7=>Dyp 5 Z (J2 (pvs:=[_,_]) (cs:=[_,_]) ty_Atom a8X Z Z)<|d8<|w6 6 Z Z kr (λh=>by cases h) (Ns [_,_] ty_Atom rfl)<|λ_ _=>o4 kr<|Et<|E.ret<|d8<|N7 br Z Z (mS m0) ty_Atom Z (_,_,_) trivial Z (J:=_) (.refl _)<|.inl Z
theorem a9U {a_l:Option Addr} {m_l c_l:Nat} {l:List IL} (hln:l.length≤1048576) (hlt:∀a∈l,a.2.length≤1048576):TL Tryz.prog 315 [.slice a_l m_l c_l] (λw L=>Ro w L v8 [.slice a_l m_l c_l] l) v8 l:=by
 refine Ti1 Tryz.func315 20 Z λw L hR=>?_
 have hl:=hR
 obtain ⟨rfl,ll⟩:=hl.slen
 refine Ew Z1<|Ei Z<|Ev Z2<|Est Z (Nb [] [] us_Atoms ty_Atom Z Z)<|λb6 _=>Ent.drop<|Ei Z<|Eu<|Eq_<|Ew Z3<|Em Z<|Yln us_Atoms Z<|Em Z<|Eu<|E.block<|m8 (A:=[]) (Own.nil (E:=W5) (e:=tAtom) (a:=(some ⟨b6,0,none⟩))) Z<|g9 (congrArg (ow v8 [_]) (show _=l.take 0 from by first|rfl|(simp;done)|grind[d1,d2,t1,t2]))<|Lo (κ:=Nat×SL) (λg=>g.1≤l.length∧True) (λg=>[(3,.slice g.2.1 g.2.2.1 g.2.2.2),(7,.slice a_l l.length c_l),(8,.int .i64 (↑l.length:Int)),(9,.int .i64 (↑g.1:Int))]) (λg=>[ow v8 [.slice g.2.1 g.2.2.1 g.2.2.2]<|l.take g.1]) (λg=>l.length-g.1) (0,(some ⟨b6,0,none⟩),0,0) ⟨Nat.zero_le _,by simp⟩<|λg pg=>?_
 obtain ⟨g,aA0_0,mA0_0,cA0_0⟩:=g
 try dsimp only at pg
 try dsimp only
 obtain ⟨pk,pa⟩:=pg
 have jp:=List.length_take_le g l
 refine f0 m0 ?_
 rintro rfl laA0_0
 refine Ew Z1<|Ylt Z<|l3 (λq10=>?_)<|λq10=>?_
 ·obtain ⟨eb11,eo11,ec11,ea11,er11,el11,eh11⟩:=hl.elem g om
  obtain ⟨xa11_0,xc11_0,rfl,ei11_0,xh11_0⟩:=L6 er11
  have:=xh11_0.slen.2
  refine Eu<|Eq_<|Ct<|Eq_<|E.block<|Ew Z4<|Ix us_Atoms ty_Atom Z ea11 g Z om<|Ey Z (l4 (cs:=[_,_]) ty_Atom Z (eh11 _) Z)<|Est Z (N.alloc ty_Atom dc)<|λb5 _=>Est Z (Ns [_,_] ty_Atom Z)<|λ_ _=>Eu<|Ez Z6<|Em Z<|Ey Z (l4 (cs:=[_,_]) ty_Atom Z (Has.pt m0) Z)<|Est Z (N.call (a5K<|hlt _<|List.getElem_mem om) Z Z Z dc Z<|λw Lp hA=>⟨ei11_0,hA.ro xh11_0⟩)<|λk15 _=>?_
  obtain ⟨a15,m15,c15⟩:=k15
  refine f0 m0 ?_
  rintro rfl l15
  refine Est Z (Nb [_] [_,_] us_Atoms ty_Atom Z Z)<|λb16 _=>d8<|d8<|n0<|Est Z (w3 (E:=W5) (ex:=l[g]) us_Atoms ty_Atom Z Z Z (O3 (x:=l[g]) ei11_0 Own.ow) Z bn bn dc)<|λp17 _=>Ei Z<|En<|o6<|Et<|Ez Z2<|Yad Z om om<|Em Z<|Eu<|d8<|Ent.drop<|g9 (congrArg (ow v8 [_]) (show _=l.take (g+1) from by grind[d1,d2,t1,t2])) ?_
  exact Ea (g+1,p17.1,((l.take g).length+1),p17.2) ⟨oz,trivial⟩
 ·refine Eu<|Eq_<|r8 Z<|E.exit<|l2<|l2<|u4<|Et<|Ew Z2<|Em Z<|Ei Z<|Eu<|E.ret<|g9 (congrArg (ow v8 [_]) (show _=l by grind[d1,d2,t1,t2]))<|Fg Z Z (_,_,_) Z Z
theorem a9F {r7:Option Addr} {u5 r6:Nat} {d9:List Int} {o1:Option Addr} {s9 o0:Nat} {c6:List IL} (hqh:d9.length≤1048576) (hqn:c6.length≤1048576) (hqt:∀a∈c6,a.2.length≤1048576):Tr Tryz.prog 241 [.agg #[.slice r7 u5 r6,.slice o1 s9 o0]] (λw L=>Ro w L eIs [.slice r7 u5 r6] d9∧Ro w L v8 [.slice o1 s9 o0] c6) [] (κ:=(SL)×(SL)) (λk=>True) (λk=>.agg #[.slice k.1.1 k.1.2.1 k.1.2.2,.slice k.2.1 k.2.2.1 k.2.2.2]) (λk=>[ow eIs [.slice k.1.1 k.1.2.1 k.1.2.2] d9,ow v8 [.slice k.2.1 k.2.2.1 k.2.2.2] c6]):=by
 refine Ti1 Tryz.func241 10 Z λw L hR=>?_
 obtain ⟨s7,o2⟩:=hR
 obtain ⟨rfl,I8⟩:=s7.slen
 obtain ⟨rfl,G9⟩:=o2.slen
 refine Ew Z2<|Est Z (N.box (cs:=[_,_]) Z dc Z)<|λb1 _=>Est Z (N.alloc ty_Query dc)<|λb2 _=>Eu<|Eq_<|D.region (λj=> !(Nat.beq j 7)) mixed<|Df 0 1 fo_Query_0 ty_Is Z (Hz (mS m0) 0 Z)<|Df 3 4 fo_Query_1 ty_Atoms Z (Hz (mS m0) 1 Z)<|Dl 2 Z (a1g fc) Z (λhA=>hA.ro s7)<|λa5 c5 l5=>Dl 5 Z (a9U fc fc) Z (λhA=>hA.ro o2)<|λa8 c8 l8=>Dyp 6 Z (J2 (pvs:=[_,_]) (cs:=[_,_]) ty_Query a2B Z Z)<|i9<|w6 7 Z Z kr (λh=>by cases h) (Ns [_,_] ty_Query rfl)<|λ_ _=>o4 kr<|Et<|E.ret<|d8<|i9<|d8<|d8<|N7 br Z Z (mS<|mS m0) ty_Query Z ((_,_,_),(_,_,_)) trivial Z (J:=_) (.refl _)<|.inl Z
end Go.Proofs.YthapcdhdfaibkaaGreatDoor
end
section
namespace Go.Proofs.YthapcdhdfaibkaaGreatDoor
open Go.RowKit
set_option linter.all false
section
variable {P:Program} {n:Nat} {w0:World} {L0:List Nat} {fr:Fr} {H:List HP} {fn:Func} {κ:Type} {φ:κ→Prop} {ret:κ→Value} {post:κ→List HP} {wb:World} {Lb:List Nat}
end
theorem c1n {P:Program} {n:Nat} {fr:Fr} {x:Operand} {s ft:TypeId} {f o k:Nat} {z:List Value} {by':Nat} {cs:List Value} {v:Value} (hf:V0 P s f=some (o,ft)) (ht:TyOk P ft false k z by') (hx:ev fr x=some (.agg cs.toArray)) (hv:cs[o]? =some v):Yp P n fr (.field s x f) v:=λac h w' d t p af g=>by
  unfold V0 at hf
  split at hf
  · rename_i fs hs
    obtain ⟨fd,h1,h2⟩:=Option.map_eq_some_iff.1 hf
    simp only[Prod.mk.injEq] at h2
    obtain ⟨rfl,rfl⟩:=h2
    simp[execOp,Instr.field,h.ev hx,run_underlying hs,h1,part,ht.run_isAgg,asAgg,hv]
  · cases hf
section
variable {P:Program} {Q:Exit→Act→World→Prop} {n:Nat} {w0:World} {L0 PB:List Nat} {fr:Fr} {H:List HP} {ops:Array Oper} {qt:Nat→Bool} {fuel:Nat} {listed:Array Bool} {op:Op} {d:Nat} {ty:TypeId} {pos:String} {af:Array Edge} {g:Option (Nat×Bool)} {v:Value}
theorem N.yd (hd:d<n) (hy:Yd P n w0 L0 fr H op v):Nop P Q n w0 L0 fr H ⟨some d,op,ty,pos,af,g⟩ true (κ:=Unit) (λ_=>(d,v)::fr) (λ_=>H) (λ_=>True):=λK hK a w h1 h2=>by
  rw[Oper.wp,hy a w h1 h2 w (a0T w)]
  exact hK () trivial w _ _ (h1.put hd v) h2<|λ_=>a0T w
theorem c5g (hs:a3q PB H H):a3q PB H H:=hs
theorem b7L (i:Nat) [hs:SameI PB H H] (ho:ops[i]? =some ⟨some d,op,ty,pos,af,g⟩) (hg:N6 ops fr g=some true) (hd:d<n) (hy:Yd P n w0 L0 fr H op v) (hr:Region.ready .any ops listed=[i])
    (h:Ent n w0 L0 ((d,v)::fr) H (a0C P ops Q (Kp w0 L0 PB) qt fuel (listed.setIfInBounds i true))):Ent n w0 L0 fr H (a0C P ops Q (Kp w0 L0 PB) qt (fuel+1) listed):=
  G7 i ho hg hr (λ_ _=>hs.out) (N.yd hd hy) (λ_ _=>h)
end
end Go.Proofs.YthapcdhdfaibkaaGreatDoor
end
section
namespace Go.Proofs.YthapcdhdfaibkaaGreatDoor
open Go.RowKit
set_option linter.all false
section
variable {P:Program} {n:Nat} {w0:World} {L0:List Nat} {fr:Fr} {H:List HP} {fn:Func} {κ:Type} {φ:κ→Prop} {ret:κ→Value} {post:κ→List HP} {wb:World} {Lb:List Nat}
theorem a7b (hb:a0G w0 L0 wb Lb) {e:Exit} {s0:Nat} {v0:Value} {s1:Nat} {v1:Value} {s2 b2 k2 y2:Nat} {T2 T2':TypeId} {z2 cs2:List Value} (hres:fn.results= #[.tmp s0,.tmp s1,.cell s2 T2]) (hv0:fr.lookup s0=some v0) (hv1:fr.lookup s1=some v1) (hv2:fr.lookup s2=some (.pointer (some ⟨b2,0,none⟩))) (hm2:pt b2 T2' cs2∈H) (ht2:TyOk P T2 true k2 z2 y2) (hl2:cs2.length=k2)
    (k:κ) (hk:φ k) (hr: .tuple #[v0,v1,.agg cs2.toArray]=ret k) {J:List HP} (hH:H.Perm (post k++J)) (he:e= .ret∨e= .normal):Ent n w0 L0 fr H (bodyPost P fn (Fin φ ret post wb Lb) e):=
  a4i hb he k hk hr hH λa w h1 h2=>by
    have u0:=h1.ev (x:=.tmp s0) hv0
    have u1:=h1.ev (x:=.tmp s1) hv1
    have u2:=h1.ev (x:=.tmp s2) hv2
    simp only[Act.eval] at u0 u1 u2
    have q2:=((Has.pt (w0:=w0) (L0:=L0) hm2) w h2).run_load (P:=P) (v:=.agg cs2.toArray) ht2 hl2 Z (λh=>by cases h)
    simp only[Instr.loadAt,Instr.sureAddr,Sem.run_bind,Sem.run_pure,Result.andThen_ok] at q2
    rw[Array.getD_eq_getD_getElem?] at u0 u1 u2
    simp[results,hres,u0,u1,u2,asAddr,q2]
end
end Go.Proofs.YthapcdhdfaibkaaGreatDoor
end
section
namespace Go.Proofs.YthapcdhdfaibkaaGreatDoor
set_option linter.all false
section
variable {ys ms:List Mth} {lg:List Acs} {i v:List Int} {a b c d:Int} {g:Nat} {s:List Int} {q:List Int×List AT2}
theorem c2A (h:ys.length=g∧∀m∈ys,m.2.1.length≤4) (hi:i.length≤4):(ys++[(a,i,b,c,d)]).length=g+1∧∀m∈ys++[(a,i,b,c,d)],m.2.1.length≤4:=by
  refine ⟨by simp[h.1],λm hm=>?_⟩
  rcases List.mem_append.1 hm with hm|hm
  · exact h.2 m hm
  · rw[List.mem_singleton] at hm;rw[hm];exact hi
theorem b7l (h:(1≤ms.length∧ms.length≤4)∧∀m∈ms,m.2.1.length≤4):ms.length≤5∧∀m∈ms,m.2.1.length≤4:=⟨by omega,h.2⟩
theorem c3I (h:(1≤ms.length∧ms.length≤4)∧∀m∈ms,m.2.1.length≤4) (hi:i.length≤4):(ms++[(a,i,b,c,d)]).length≤5∧∀m∈ms++[(a,i,b,c,d)],m.2.1.length≤4:=by
  refine ⟨by simp;omega,λm hm=>?_⟩
  rcases List.mem_append.1 hm with hm|hm
  · exact h.2 m hm
  · rw[List.mem_singleton] at hm;rw[hm];exact hi
end
end Go.Proofs.YthapcdhdfaibkaaGreatDoor
end
section
namespace Go.Proofs.YthapcdhdfaibkaaGreatDoor
open Go.RowKit
set_option linter.all false
set_option maxHeartbeats 2000000
attribute [local irreducible] Nop Yd Yp Ent Has Tr FnP FnP2 Src K8 Q7 R5 S1 E8
theorem b7o {a_code:Option Addr} {m_code c_code:Nat} {code:List UInt8}:TB Tryz.prog 6 [.slice a_code m_code c_code] (λw L=>Ro w L a0f [.slice a_code m_code c_code] code) (decide (1048576<(code.length:Int))):=by
 refine Ti1 Tryz.func6 6 Z λw L hR=>?_
 have hcode:=hR
 obtain ⟨rfl,lcode⟩:=hcode.slen
 refine Ew Z1<|Ei Z<|Ev Z4<|Em Z<|Yln us_U8s Z<|Ey Z ((Y.gtr Z Z).yd)<|Ei Z<|Eu<|E.ret<|Fb Z Z (by simp_all)
theorem a7l {b_c:Nat} {a_s:Option Addr} {m_s c_s:Nat} {s:List Int} {a_b:Option Addr} {m_b c_b:Nat} {bs:List UInt8} (h1:1≤s.length) (hsz:∀z∈s,1≤z∧z≤3):Tr Tryz.prog 239 [.pointer (some ⟨b_c,0,none⟩),.slice a_s m_s c_s] (λw L=>Ro w L eIs [.slice a_s m_s c_s] s∧Ro w L a0f [.slice a_b m_b c_b] bs) [cur b_c a_b m_b c_b] (κ:=(List Int)×(List IL)×(SL)×SL) (λk=>dQ rT 4 2 k.1 k.2.1) (λk=>.agg #[.slice k.2.2.1.1 k.2.2.1.2.1 k.2.2.1.2.2,.slice k.2.2.2.1 k.2.2.2.2.1 k.2.2.2.2.2]) (λk=>[ow eIs [.slice k.2.2.1.1 k.2.2.1.2.1 k.2.2.1.2.2] k.1,ow v8 [.slice k.2.2.2.1 k.2.2.2.2.1 k.2.2.2.2.2] k.2.1,cur b_c a_b m_b c_b]):=by
 refine Ti2 Tryz.func239 38 Z λw L hR=>?_
 obtain ⟨hs,hbs⟩:=hR
 obtain ⟨rfl,ls⟩:=hs.slen
 obtain ⟨rfl,lb⟩:=hbs.slen
 refine Ew Z1<|Est Z (N.alloc ty_Query dc)<|λb4 _=>Ev Z5<|Em Z<|Em Z<|d8<|Est Z (N.call (pre:=[_]) (a1K fc fc) Z Z Z dc Z<|λw Lp hA=>⟨hA.ro hs,hA.ro hbs⟩)<|λk10 o10=>?_
 obtain ⟨hq10,aq10,⟨a10_0,m10_0,c10_0⟩,⟨a10_1,m10_1,c10_1⟩⟩:=k10
 try dsimp only at o10
 try (conv=>arg 4;dsimp only)
 try (conv=>arg 5;dsimp only[ca,na])
 have jl:=o10.1
 have jh:=o10.2.2
 have jt:=(o10.2.1 _ (List.getElem_mem (show 0<aq10.length by omega))).1
 refine f0 m0 ?_
 rintro rfl l10_0
 refine f0 (mS m0) ?_
 rintro rfl l10_1
 refine Est Z (N.alloc ty_Query dc)<|λb5 _=>Est Z (Ns [_,_] ty_Query Z)<|λ_ _=>Eu<|Eq_<|Ew Z8<|Lz fo_Query_1 ty_Atoms Z m0 Z<|Yln us_Atoms Z<|Ylt Z<|l3 (λq14=>?_)<|λq14=>?_
 ·refine Em Z<|Em Z<|n0<|Est Z (N.call (pre:=[_]) R7 Z Z Z dc Z<|λw Lp hA=>hA.ro hbs)<|λo17 o17=>?_
  try dsimp only at o17
  try (conv=>arg 5;dsimp only[ca,na])
  refine Ent.b (λq17=>?_)<|λq17=>?_
  ·refine Ypt Z<|Eu<|r9 Z<|Ew Z6<|Lz fo_Query_1 ty_Atoms Z (mS m0) Z<|R1 (mS<|mS<|mS m0) om λab21 ae21=>n0<|X9 (x:=aq10[0]) 0 (List.getElem?_eq_getElem om) λce21=>?_
   refine d8<|a4n λoa21_1 om21_1 oc21_1 oe21 oi21_0 on21_1=>?_
   subst oe21
   subst on21_1
   refine Ix us_Atoms ty_Atom Z ae21 0 Z om<|Ey Z (l4 (cs:=[_,_]) ty_Atom Z (Has.hole ae21<|mS m0) Z)<|Est Z (N.alloc ty_Atom dc)<|λb6 _=>Est Z (Ns [_,_] ty_Atom Z)<|λ_ _=>Ev Z7<|Lz fo_Atom_0 j8 Z m0 Z<|Lz fo_Atom_1 ty_Is Z m0 Z<|Est Z (N.call (a4q fc) Z Z Z dc Z<|λw Lp hA=>⟨oi21_0,hA.ow<|mS m0⟩)<|λk27 _=>?_
   obtain ⟨a27,m27,c27⟩:=k27
   try (conv=>arg 4;dsimp only)
   try (conv=>arg 5;dsimp only[ca,na])
   refine f0 m0 ?_
   rintro rfl l27
   refine Est Z (N.alloc ty_Atom dc)<|λb7 _=>Est Z (Ns [_,_] ty_Atom Z)<|λ_ _=>Ev Z4<|n0<|s6<|U1 (O3 (x:=aq10[0]) oi21_0 Own.ow) Z<|g9 (congrArg (ow v8 [_])<|List.set_getElem_self om)<|Lz fo_Atom_1 ty_Is Z (mS m0) Z<|R1 (mS<|mS m0) om λab30 ae30=>Ix us_Is j8 Z ae30 0 Z om<|i9<|Est Z (N.set (E:=Enc.int) (j:=0) (ex:=15) (ce:=[_]) j8 Z Z Z Z (Own.int i6) ae30 (Nat.zero_add _) Z (by first|(simp;omega)|omega|(simp;done)))<|λ_ _=>Eu<|Ez Z7<|Lf fo_Query_1 ty_Atoms Z (Hs (Has.pt<|mS<|mS<|mS<|mS<|mS m0) 1 Z)<|Ey Z (l4 (cs:=[_,_]) ty_Atom Z (Has.pt<|mS<|mS m0) Z)<|Est Z (Nb [_] [_,_] us_Atoms ty_Atom Z Z)<|λb34 _=>d8<|d8<|i9<|Est Z (w3 (E:=W5) (ex:=(aq10[0].1,aq10[0].2.set 0 15)) us_Atoms ty_Atom Z Z Z (O3 (x:=(aq10[0].1,aq10[0].2.set 0 15)) oi21_0 Own.ow) Z bn bn dc)<|λp35 _=>Ey Z ((D3 fo_Query_1 ty_Atoms dc Z).yd)<|s6<|Est Z (Ns [_,_] ty_Atoms Z)<|λ_ _=>Ev Z2<|Ey Z (l4 (cs:=[_,_]) ty_Query Z (Has.pt m0) Z)<|s4<|Est Z (Ns [_,_] ty_Query Z)<|λ_ _=>Eu<|E.ret<|i9<|s4<|s4<|i9<|i9<|N7 br Z Z (mS<|mS<|mS m0) ty_Query Z (hq10,aq10++[(aq10[0].1,aq10[0].2.set 0 15)],(_,_,_),(_,_,_)) (show dQ rT 4 2 hq10 (aq10++[(aq10[0].1,aq10[0].2.set 0 15)]) from by first|exact o10.mono b0X dc (Nat.le_refl _)|exact a9V o10) Z (J:=_) (.refl _)<|.inl Z
  ·refine Ypt Z<|Eu<|Cf<|Ew Z2<|Ey Z (l4 (cs:=[_,_]) ty_Query Z (Has.pt<|mS m0) Z)<|s6<|Est Z (Ns [_,_] ty_Query Z)<|λ_ _=>Eu<|E.ret<|s6<|s6<|n0<|i9<|i9<|N7 br Z Z (mS<|mS<|mS m0) ty_Query Z (hq10,aq10,(_,_,_),(_,_,_)) (show dQ rT 4 2 hq10 aq10 from by first|exact o10.mono b0X dc (Nat.le_refl _)|exact a9V o10) Z (J:=_) (.refl _)<|.inl Z
 ·refine Em Z<|Es Z<|Es Z<|Ypf Z<|Eu<|Cf<|Ew Z2<|Ey Z (l4 (cs:=[_,_]) ty_Query Z (Has.pt m0) Z)<|s6<|Est Z (Ns [_,_] ty_Query Z)<|λ_ _=>Eu<|E.ret<|n0<|n0<|s6<|i9<|i9<|N7 br Z Z (mS<|mS<|mS m0) ty_Query Z (hq10,aq10,(_,_,_),(_,_,_)) (show dQ rT 4 2 hq10 aq10 from by first|exact o10.mono b0X dc (Nat.le_refl _)|exact a9V o10) Z (J:=_) (.refl _)<|.inl Z
end Go.Proofs.YthapcdhdfaibkaaGreatDoor
end
