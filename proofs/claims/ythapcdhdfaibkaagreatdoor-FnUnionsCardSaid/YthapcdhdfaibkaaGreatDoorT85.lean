import Derived.Test.YthapcdhdfaibkaaGreatDoorT71
import Derived.Test.YthapcdhdfaibkaaGreatDoorT37
section
namespace Go.Proofs.YthapcdhdfaibkaaGreatDoor
open Go.RowKit
set_option linter.all false
set_option maxHeartbeats 2000000
attribute [local irreducible] Nop Yd Yp Ent Has Tr FnP FnP2 Src K8 Q7 R5 S1 E8
theorem b1Q {a_s:Option Addr} {m_s c_s:Nat} {s:List Int} {a_l:Option Addr} {m_l c_l:Nat} {l:List (Int×List Int×Int×Int×Int)} {r7:Option Addr} {u5 r6:Nat} {d9:List Int} {o1:Option Addr} {s9 o0:Nat} {c6:List IL} {a_steps:Option Addr} {m_steps c_steps:Nat} {d4:List (Int×Int)} (hz:D8 (λx=>x.2.length) c6≤1048576):TB Tryz.prog 203 [.slice a_s m_s c_s,.slice a_l m_l c_l,.agg #[.slice r7 u5 r6,.slice o1 s9 o0],.slice a_steps m_steps c_steps] (λw L=>Ro w L eIs [.slice a_s m_s c_s] s∧Ro w L F0 [.slice a_l m_l c_l] l∧Ro w L eIs [.slice r7 u5 r6] d9∧Ro w L v8 [.slice o1 s9 o0] c6∧Ro w L Q6 [.slice a_steps m_steps c_steps] d4) (K9 s l (d9,c6) d4):=by
 refine Ti4 Tryz.func203 106 Z λw L hR=>?_
 obtain ⟨hs,hl,s7,o2,hsteps⟩:=hR
 obtain ⟨rfl,ls⟩:=hs.slen
 obtain ⟨rfl,ll⟩:=hl.slen
 obtain ⟨rfl,I8⟩:=s7.slen
 obtain ⟨rfl,G9⟩:=o2.slen
 obtain ⟨rfl,lsteps⟩:=hsteps.slen
 refine Ew Z2<|Est Z (N.box (cs:=[_,_]) Z dc Z)<|λb6 _=>Ei Z<|Eu<|Eq_<|Ew Z13<|Em Z<|Em Z<|Ey Z (l4 (cs:=[_,_]) ty_Query Z (Has.pt m0) Z)<|E0 Z (a4r fc) Z (λhA=>⟨hA.ro hs,hA.ro hl,hA.ro s7,hA.ro o2⟩)<|Ent.b (λq15=>?_)<|λq15=>?_
 ·have jq:=D1 (s:=s) (q:=(d9,c6)) (Bool.and_eq_true_iff.1 q15).2
  have jq1:c6.length≤4:=jq.1
  have jl5:=(a0k (Bool.and_eq_true_iff.1 q15).1).2
  refine Yno true Z<|Em Z<|Em Z<|Yln us_Steps Z<|Lz fo_Query_1 ty_Atoms Z m0 Z<|Yln us_Atoms Z<|Ey Z ((Y.neq Z Z).yd)<|l3 (λq23=>?_)<|λq23=>?_
  ·refine Ypf Z<|Eu<|r9 Z<|Ew Z1<|Ei Z ?_
   exact Eu<|E.ret<|a5h<|Fb Z Z (by exact c2b (q:=(d9,c6)) (by show ¬(d4.length:Int)=c6.length;omega))
  ·refine Ypf Z<|Eu<|Cf<|Ew Z2<|Est Z (Nb [] [] us_Is j8 Z Z)<|λb25 _=>Ent.drop<|Ei Z<|Ev Z2<|Est Z (Nb [] [] us_Is j8 Z Z)<|λb26 _=>Ent.drop<|Ei Z<|Eu<|Eq_<|Ew Z1<|Ei Z<|Eu<|E.block<|m8 (A:=[]) (Own.nil (E:=Enc.int) (e:=tI) (a:=(some ⟨b25,0,none⟩))) Z<|g9 (congrArg (ow eIs [_]) (show _=stV c6 (d4.take 0) from by first|rfl|simp))<|m8 (A:=[]) (Own.nil (E:=Enc.int) (e:=tI) (a:=(some ⟨b26,0,none⟩))) Z<|g9 (congrArg (ow eIs [_]) (show _=(d4.take 0).map λx=>x.1 from by first|rfl|simp))<|Lo (κ:=Nat×Option Addr×Nat×Nat×SL) (λg=>g.1≤d4.length∧S6 l c6 d4 g.1=true) (λg=>[(1,.slice a_l l.length c_l),(3,.slice a_steps d4.length c_steps),(6,.pointer<|some ⟨b6,0,none⟩),(9,.slice g.2.1 g.2.2.1 g.2.2.2.1),(10,.slice g.2.2.2.2.1 g.2.2.2.2.2.1 g.2.2.2.2.2.2),(11,.int .i64 (↑g.1:Int))]) (λg=>[ow eIs [.slice g.2.2.2.2.1 g.2.2.2.2.2.1 g.2.2.2.2.2.2]<|(d4.take g.1).map λx=>x.1,ow eIs [.slice g.2.1 g.2.2.1 g.2.2.2.1]<|stV c6<|d4.take g.1,pt b6 28 [.slice r7 d9.length r6,.slice o1 c6.length o0]]) (λg=>d4.length-g.1) (0,(some ⟨b25,0,none⟩),0,0,(some ⟨b26,0,none⟩),0,0) ⟨Nat.zero_le _,Z⟩<|λg pg=>?_
   obtain ⟨g,aA0_0,mA0_0,cA0_0,aA0_1,mA0_1,cA0_1⟩:=g
   try dsimp only at pg
   try dsimp only
   obtain ⟨pk,pa⟩:=pg
   have jb:=c1S (d7:=c6) (T:=(d4.take g)) jq.2.2
   have jv:=c1G (d7:=c6) (T:=(d4.take g)) jq.2.2
   have jd:=c1E (n:=c6.length) (T:=(d4.take g))
   have jt:=List.length_take_le g d4
   have jo:=a6t pa om
   have ju:((d4.take g).map λx=>x.1).length=(d4.take g).length:=List.length_map ..
   refine f0 (mS m0) ?_
   rintro rfl laA0_0
   refine f0 m0 ?_
   rintro rfl laA0_1
   refine Eq_<|Ew Z4<|Em Z<|Em Z<|Yln us_Steps Z<|Ylt Z<|l3 (λq30=>?_)<|λq30=>?_
   ·refine Eu<|Ct<|Eq_<|E.block<|Eq_<|Eq_<|D.region (λj=>true) mixed<|Dm 0 Z<|Dm 1 Z ?_
    obtain ⟨eb35,eo35,ec35,ea35,er35,el35,eh35⟩:=hsteps.elem g om
    obtain ⟨rfl,ei35_0,ei35_1⟩:=b0z er35
    refine Dyp 2 Z (y6 us_Steps ty_Step Z ea35 Z g Z om)<|Df 3 4 fo_Step_0 j8 Z (Hs (eh35 _) 0 Z)<|Df 5 6 fo_Query_1 ty_Atoms Z (Hz (mS<|mS m0) 1 Z)<|Dyp 7 Z (Y.len us_Atoms Z)<|Dyp 8 Z (Y.sub Z Z om om)<|D0 9 Z H3 Z (λ_=>trivial)<|Ent.b (λq42=>?_)<|λq42=>?_
    ·have j43:=V8 q42
     refine Dyp 10 Z (Y.not (b:=true) Z)<|Dm 11 Z<|Dm 12 Z<|Dm 13 Z<|Dm 14 Z<|Dyp 15 Z (y6 us_Steps ty_Step Z ea35 Z g Z om)<|Df 16 17 fo_Step_0 j8 Z (Hs (eh35 _) 0 Z)<|D0 18 Z a0Q Z (λhA=>hA.ow m0)<|Ent.b (λq51=>?_)<|λq51=>?_
     ·have q51b:stU (d4.take g) d4[g].1=true:=by rw[←b6C];exact q51
      refine Dyp 19 Z (J3 Z Z)<|Dm 20 Z<|Dsk 21 Z<|Dsk 22 Z<|Dsk 23 Z<|Dsk 24 Z<|Dsk 25 Z<|Dsk 26 Z<|Dsk 27 Z<|Dsk 28 Z<|Dsk 29 Z<|Dsk 30 Z<|Dyp 31 Z (J9 Z Z)<|Dm 32 Z<|Dsk 33 Z<|Dsk 34 Z<|Dsk 35 Z<|Dsk 36 Z<|Dsk 37 Z<|Dsk 38 Z<|Dsk 39 Z<|Dsk 40 Z<|Dsk 41 Z<|Dsk 42 Z<|Dsk 43 Z<|Dsk 44 Z<|Dsk 45 Z<|Dsk 46 Z<|Dsk 47 Z<|Dsk 48 Z<|Dsk 49 Z<|Dsk 50 Z<|Dsk 51 Z<|Dsk 52 Z<|Dyp 53 Z (J9 Z Z)<|o4 kr<|Et<|r9 Z<|Ew Z1<|Ei Z ?_
      exact Eu<|E.ret<|a5h<|v7<|a5h<|a5h<|v7<|a5h<|Fb Z Z (by exact b0Q (q:=(d9,c6)) om (c3f q51b))
     ·have q51b:stU (d4.take g) d4[g].1=false:=by rw[←b6C];exact q51
      refine Dyp 19 Z (J3 Z Z)<|Dm 20 Z<|Dm 21 Z<|Dm 22 Z<|Dyp 23 Z (y6 us_Steps ty_Step Z ea35 Z g Z om)<|Df 24 25 fo_Step_1 j8 Z (Hs (eh35 _) 1 Z)<|Dm 26 Z<|Dyp 27 Z (Y.len us_Methods Z)<|Dyp 28 Z (Y.sub Z Z om om)<|D0 29 Z H3 Z (λ_=>trivial)<|Ent.b (λq62=>?_)<|λq62=>?_
      ·have j58:=V8 q62
       refine Dyp 30 Z (Y.not (b:=true) Z)<|Dyp 31 Z (J3 Z Z)<|Dm 32 Z<|Dm 33 Z<|Dm 34 Z<|Dm 35 Z<|Dyp 36 Z (y6 us_Steps ty_Step Z ea35 Z g Z om)<|Df 37 38 fo_Step_1 j8 Z (Hs (eh35 _) 1 Z) ?_
       obtain ⟨eb72,eo72,ec72,ea72,er72,el72,eh72⟩:=hl.elem d4[g].2.toNat om
       obtain ⟨xa72_0,xc72_0,rfl,ei72_0,xh72_0,ei72_2,ei72_3,ei72_4⟩:=P9 er72
       have:=xh72_0.slen.2
       refine Dyp 39 Z (y6 us_Methods ty_Method Z ea72 Z d4[g].2.toNat om om)<|Dy 40 Z (l4 (cs:=[_,_,_,_,_]) ty_Method Z (eh72 _) Z)<|Df 41 42 fo_Query_1 ty_Atoms Z (Hz (mS<|mS m0) 1 Z)<|Dm 43 Z<|Dm 44 Z<|Dyp 45 Z (y6 us_Steps ty_Step Z ea35 Z g Z om)<|Df 46 47 fo_Step_0 j8 Z (Hs (eh35 _) 0 Z) ?_
       obtain ⟨eb81,eo81,ec81,ea81,er81,el81,eh81⟩:=o2.elem d4[g].1.toNat om
       obtain ⟨xa81_0,xc81_0,rfl,ei81_0,xh81_0⟩:=L6 er81
       have:=xh81_0.slen.2
       refine Dyp 48 Z (y6 us_Atoms ty_Atom Z ea81 Z d4[g].1.toNat om om)<|Dy 49 Z (l4 (cs:=[_,_]) ty_Atom Z (eh81 _) Z)<|Dm 50 Z<|D0 51 Z a6s Z (λhA=>⟨ei72_0,hA.ro xh72_0,ei72_2,ei72_3,ei72_4,ei81_0,hA.ro xh81_0,hA.ow<|mS m0⟩)<|Ent.b (λq84=>?_)<|λq84=>?_
       ·have q84b:M4 (l.getD d4[g].2.toNat (0,[],0,0,0)) (atA c6 d4[g].1) (stB c6 (d4.take g))=true:=by rw[L5 (show d4[g].2.toNat<l.length by omega),a2I (show d4[g].1.toNat<c6.length by omega), ←c0Z];exact q84
        have jt3:=jq.2.2 _ (List.getElem_mem (show d4[g].1.toNat<c6.length by omega))
        refine Dyp 52 Z (Y.not (b:=true) Z)<|Dyp 53 Z (J3 Z Z)<|o4 kr<|Et<|Cf<|Ew Z9<|Em Z<|Em Z<|Em Z<|Ix us_Steps ty_Step Z ea35 g Z om<|Lf fo_Step_0 j8 Z (Hs (eh35 _) 0 Z)<|Est Z (Nb [_] [_] us_Is j8 Z Z)<|λb93 _=>d8<|Est Z (w3 (E:=Enc.int) (ex:=d4[g].1) us_Is j8 Z Z Z (Own.int ei35_0) Z bn bn dc)<|λp94 _=>Ei Z<|Eu<|D.region (λj=>true) mixed<|Dm 0 Z<|Df 1 2 fo_Query_1 ty_Atoms Z (Hz (mS<|mS m0) 1 Z)<|Dm 3 Z<|Dm 4 Z<|Dyp 5 Z (y6 us_Steps ty_Step Z ea35 Z g Z om)<|Df 6 7 fo_Step_0 j8 Z (Hs (eh35 _) 0 Z)<|Dyp 8 Z (y6 us_Atoms ty_Atom Z ea81 Z d4[g].1.toNat om om)<|Dy 9 Z (l4 (cs:=[_,_]) ty_Atom Z (eh81 _) Z)<|Dl 10 Z (a7n fc fc) Z (λhA=>⟨hA.ow<|mS m0,ei81_0,hA.ro xh81_0⟩)<|λa105 c105 l105=>?_
        refine Dyp 11 Z (E5 Z)<|o4 kr<|o6<|Et<|Ez Z3<|Em Z<|Yad Z om om<|Ei Z<|Eu<|i9<|Ent.drop<|g9 (congrArg (ow eIs [_]) (show _=stV c6 (d4.take<|g+1) from by first|exact b3W om|(have e:=b4D (d7:=c6) (d4:=d4) (g:=g) om;rw[a2I (show d4[g].1.toNat<c6.length by omega)] at e;exact e)))<|d8<|g9 (congrArg (ow eIs [_]) (show _=(d4.take<|g+1).map λx=>x.1 from by first|exact b3W om|(have e:=b4D (d7:=c6) (d4:=d4) (g:=g) om;rw[a2I (show d4[g].1.toNat<c6.length by omega)] at e;exact e)))<|i9<|i9<|i9 ?_
        exact Ea (g+1,a105,_,c105,p94.1,(((d4.take g).map λx=>x.1).length+1),p94.2) ⟨oz,(show S6 l c6 d4 (g+1)=true from by exact c0B om pa (c3g q42 q51b q62 q84b))⟩
       ·have q84b:M4 (l.getD d4[g].2.toNat (0,[],0,0,0)) (atA c6 d4[g].1) (stB c6 (d4.take g))=false:=by rw[L5 (show d4[g].2.toNat<l.length by omega),a2I (show d4[g].1.toNat<c6.length by omega), ←c0Z];exact q84
        refine Dyp 52 Z (Y.not (b:=false) Z)<|Dyp 53 Z (J3 Z Z)<|o4 kr<|Et<|r9 Z<|Ew Z1<|Ei Z<|Eu<|E.ret<|a5h<|v7<|a5h<|a5h<|v7<|a5h<|Fb Z Z (by exact b0Q (q:=(d9,c6)) om (c3e q84b))
      ·refine Dyp 30 Z (Y.not (b:=false) Z)<|Dyp 31 Z (J3 Z Z)<|Dm 32 Z<|Dsk 33 Z<|Dsk 34 Z<|Dsk 35 Z<|Dsk 36 Z<|Dsk 37 Z<|Dsk 38 Z<|Dsk 39 Z<|Dsk 40 Z<|Dsk 41 Z<|Dsk 42 Z<|Dsk 43 Z<|Dsk 44 Z<|Dsk 45 Z<|Dsk 46 Z<|Dsk 47 Z<|Dsk 48 Z<|Dsk 49 Z<|Dsk 50 Z<|Dsk 51 Z<|Dsk 52 Z<|Dyp 53 Z (J9 Z Z)<|o4 kr<|Et<|r9 Z<|Ew Z1<|Ei Z<|Eu<|E.ret<|a5h<|v7<|a5h<|a5h<|v7<|a5h<|Fb Z Z (by exact b0Q (q:=(d9,c6)) om (c3L q62))
    ·refine Dyp 10 Z (Y.not (b:=false) Z)<|Dm 11 Z<|Dsk 12 Z<|Dsk 13 Z<|Dsk 14 Z<|Dsk 15 Z<|Dsk 16 Z<|Dsk 17 Z<|Dsk 18 Z<|Dyp 19 Z (J9 Z Z)<|Dm 20 Z<|Dsk 21 Z<|Dsk 22 Z<|Dsk 23 Z<|Dsk 24 Z<|Dsk 25 Z<|Dsk 26 Z<|Dsk 27 Z<|Dsk 28 Z<|Dsk 29 Z<|Dsk 30 Z<|Dyp 31 Z (J9 Z Z)<|Dm 32 Z<|Dsk 33 Z<|Dsk 34 Z<|Dsk 35 Z<|Dsk 36 Z<|Dsk 37 Z<|Dsk 38 Z<|Dsk 39 Z<|Dsk 40 Z<|Dsk 41 Z<|Dsk 42 Z<|Dsk 43 Z<|Dsk 44 Z<|Dsk 45 Z<|Dsk 46 Z<|Dsk 47 Z<|Dsk 48 Z<|Dsk 49 Z<|Dsk 50 Z ?_
     refine Dsk 51 Z<|Dsk 52 Z<|Dyp 53 Z (J9 Z Z)<|o4 kr<|Et<|r9 Z<|Ew Z1<|Ei Z<|Eu<|E.ret<|a5h<|v7<|a5h<|a5h<|v7<|a5h<|Fb Z Z (by exact b0Q (q:=(d9,c6)) om (c2W q42))
   ·refine Eu<|r8 Z<|E.exit<|l2<|l2<|u4<|Et<|Ew Z1<|Ei Z ?_
    exact Eu<|E.ret<|Fb Z Z (by exact c2a (q:=(d9,c6)) q15 (by show (d4.length:Int)=c6.length;omega) (show ¬g<d4.length by omega) om pa)
 ·refine Yno false Z<|Em Z<|Es Z<|Es Z<|Es Z<|Es Z<|Es Z<|Es Z<|Ypt Z<|Eu<|r9 Z<|Ew Z1<|Ei Z<|Eu<|E.ret<|a5h<|Fb Z Z (by exact c2u (q:=(d9,c6)) q15)
end Go.Proofs.YthapcdhdfaibkaaGreatDoor
end
section
namespace Go.Proofs.YthapcdhdfaibkaaGreatDoor
open Go.RowKit
set_option linter.all false
set_option maxHeartbeats 2000000
attribute [local irreducible] Nop Yd Yp Ent Has Tr FnP FnP2 Src K8 Q7 R5 S1 E8
variable {r5:Int} {l:List (Int×List Int×Int×Int×Int)} {d6:List IL} {s s8:List Int} {m_s c_s m_l c_l m_facts c_facts G1 C8:Nat} {a_s a_l a_facts C9:Option Addr}
theorem a9O (hoa:T0 s l (r5,s8)=true) (hof:B8 s d6=true):TL Tryz.prog 302 [.slice a_s m_s c_s,.slice a_l m_l c_l,.slice a_facts m_facts c_facts,.agg #[.int .i64 r5,.slice C9 G1 C8]] (λw L=>Ro w L eIs [.slice a_s m_s c_s] s∧Ro w L F0 [.slice a_l m_l c_l] l∧Ro w L t7 [.slice a_facts m_facts c_facts] d6∧I64 r5∧Ro w L eIs [.slice C9 G1 C8] s8) t7 (n9 l d6 (r5,s8)):=by
 refine Ti4 Tryz.func302 30 Z λw L hR=>?_
 obtain ⟨hs,hl,hfacts,P2,D9⟩:=hR
 obtain ⟨rfl,ls⟩:=hs.slen
 obtain ⟨rfl,ll⟩:=hl.slen
 obtain ⟨rfl,lfacts⟩:=hfacts.slen
 obtain ⟨rfl,Y5⟩:=D9.slen
 refine Ew Z2<|Est Z (N.box (cs:=[_,_]) Z dc Z)<|λb7 _=>Ei Z<|Eu<|Eq_<|Ew Z11<|Em Z<|Em Z<|Ey Z (l4 (cs:=[_,_]) ty_Access Z (Has.pt m0) Z)<|E0 Z b0G Z (λhA=>⟨hA.ro hs,hA.ro hl,P2,hA.ro D9⟩)<|Ent.b (λq12=>?_)<|λq12=>?_
 ·have zz:=(a0I hoa).2.1
  refine Yno true Z<|Em Z<|Em Z<|Em Z<|E0 Z a1i Z (λhA=>⟨hA.ro hs,hA.ro hfacts⟩)<|Ent.b (λq17=>?_)<|λq17=>?_
  ·refine Yno true Z<|Ypf Z<|Eu<|Cf<|Eq_<|D.region (λj=>true) mixed<|Dm 0 Z<|Df 1 2 fo_Access_0 j8 Z (Hz m0 0 Z) ?_
   obtain ⟨eb24,eo24,ec24,ea24,er24,el24,eh24⟩:=hl.elem r5.toNat om
   obtain ⟨xa24_0,xc24_0,rfl,ei24_0,xh24_0,ei24_2,ei24_3,ei24_4⟩:=P9 er24
   have:=xh24_0.slen.2
   refine Dyp 3 Z (y6 us_Methods ty_Method Z ea24 Z r5.toNat om om)<|Dy 4 Z (l4 (cs:=[_,_,_,_,_]) ty_Method Z (eh24 _) Z)<|Df 5 6 fo_Access_1 ty_Is Z (Hz m0 1 Z)<|Dm 7 Z<|Dl 8 Z (b0h (by have zc:=(a0I hoa).2.2.1;rw[U6 (a0I hoa).2.1.2] at zc;exact Nat.le_of_eq zc.symm) (by have zc:=b8G hoa hof;rw[U6 (a0I hoa).2.1.2] at zc;exact zc) (Nat.le_trans (N4 hof).1 dc)<|λf hf=>Nat.le_trans (a0B<|(N4 hof).2 f hf) dc) Z (λhA=>⟨ei24_0,hA.ro xh24_0,ei24_2,ei24_3,ei24_4,hA.ro D9,hA.ro hfacts⟩)<|λa29 c29 l29=>Dyp 9 Z (E5 Z)<|o4 kr<|Et<|E.ret<|g9 (congrArg (ow t7 [_]) (show _=n9 l d6 (r5,s8) by rw[n9,U6 (a0I hoa).2.1.2]))<|Fg Z Z (_,_,_) Z Z
  ·refine Yno false Z<|Ypf Z<|Eu<|r9 Z<|Ew Z2<|Est Z (Nb [] [] us_Facts ty_Fact Z Z)<|λb20 _=>Ent.drop<|Ei Z<|Eu<|E.ret<|a5h<|m8 (A:=[]) (Own.nil (E:=I3) (e:=tFact) (a:=(some ⟨b20,0,none⟩))) Z<|g9 (congrArg (ow t7 [_]) (show _=n9 l d6 (r5,s8) by rw[hof] at q17;cases q17))<|Fg Z Z ((some ⟨b20,0,none⟩),0,0) Z Z
 ·refine Yno false Z<|Em Z<|Es Z<|Es Z<|Es Z<|Es Z<|Ypt Z<|Eu<|r9 Z<|Ew Z2<|Est Z (Nb [] [] us_Facts ty_Fact Z Z)<|λb20 _=>Ent.drop<|Ei Z<|Eu<|E.ret<|a5h<|m8 (A:=[]) (Own.nil (E:=I3) (e:=tFact) (a:=(some ⟨b20,0,none⟩))) Z<|g9 (congrArg (ow t7 [_]) (show _=n9 l d6 (r5,s8) by rw[hoa] at q12;cases q12))<|Fg Z Z ((some ⟨b20,0,none⟩),0,0) Z Z
theorem a9Y {choice:Int} (hoa:T0 s l (r5,s8)=true) (hof:B8 s d6=true):TL Tryz.prog 204 [.slice a_s m_s c_s,.slice a_l m_l c_l,.slice a_facts m_facts c_facts,.agg #[.int .i64 r5,.slice C9 G1 C8],.int .i64 choice] (λw L=>Ro w L eIs [.slice a_s m_s c_s] s∧Ro w L F0 [.slice a_l m_l c_l] l∧Ro w L t7 [.slice a_facts m_facts c_facts] d6∧I64 r5∧Ro w L eIs [.slice C9 G1 C8] s8) t7 (s5 l d6 (r5,s8) choice):=by
 refine Ti5 Tryz.func204 72 Z λw L hR=>?_
 obtain ⟨hs,hl,hfacts,P2,D9⟩:=hR
 obtain ⟨rfl,ls⟩:=hs.slen
 obtain ⟨rfl,ll⟩:=hl.slen
 obtain ⟨rfl,lfacts⟩:=hfacts.slen
 obtain ⟨rfl,Y5⟩:=D9.slen
 have zz:=(a0I hoa).2.1
 have jlm:a1V l (r5,s8)=l[r5.toNat].2.2.1:=by show (atM l r5).2.2.1=_;rw[U6 (a0I hoa).2.1.2]
 have jl0:=c2k hoa
 have jml:(n9 l d6 (r5,s8)).length≤24:=Nat.le_trans a6i (N4 hof).1
 have hmF:∀f∈(n9 l d6 (r5,s8)),f.2.length≤1048576:=λf hf=>Nat.le_trans (a0B ((N4 hof).2 f (List.mem_filter.1 hf).1)) dc
 refine Ew Z2<|Est Z (N.box (cs:=[_,_]) Z dc Z)<|λb8 _=>Ei Z<|Ev Z6<|Em Z<|Em Z<|Em Z<|Ey Z (l4 (cs:=[_,_]) ty_Access Z (Has.pt m0) Z)<|El Z (a9O fo fo) Z (λhA=>⟨hA.ro hs,hA.ro hl,hA.ro hfacts,P2,hA.ro D9⟩)<|λa19 c19 l19=>Ei Z ?_
 have jeq:((a19,(n9 l d6 (r5,s8)).length,c19):SL).2.1=(n9 l d6 (r5,s8)).length:=rfl
 refine Eu<|Eq_<|Ew Z23<|Em Z<|Yln us_Facts Z<|Yeq Z<|l3 (λq22=>?_)<|λq22=>?_
 ·refine Em Z<|Es Z<|Es Z<|Es Z<|Es Z<|Es Z<|Es Z<|Es Z<|Ypt Z<|Em Z<|Es Z<|Es Z<|Es Z<|Es Z<|Es Z<|Es Z<|Es Z<|Es Z<|Es Z<|Ypt Z<|Eu<|r9 Z<|Ew Z2<|Em Z<|Ei Z<|Eu<|E.ret<|a5h<|g9 (congrArg (ow t7 [_]) (show _=s5 l d6 (r5,s8) choice by exact a4K (.inr om)))<|Fg Z Z (_,_,_) Z Z
 ·refine Em Z<|Em Z<|Lz fo_Access_0 j8 Z (mS m0) Z ?_
  obtain ⟨eb27,eo27,ec27,ea27,er27,el27,eh27⟩:=hl.elem r5.toNat om
  obtain ⟨xa27_0,xc27_0,rfl,ei27_0,xh27_0,ei27_2,ei27_3,ei27_4⟩:=P9 er27
  have:=xh27_0.slen.2
  refine Ix us_Methods ty_Method Z ea27 r5.toNat om om<|Lf fo_Method_2 j8 Z (Hs (eh27 _) 2 Z)<|Yeq Z<|l3 (λq30=>?_)<|λq30=>?_
  ·refine Ypf Z<|Em Z<|Es Z<|Es Z<|Es Z<|Es Z<|Es Z<|Es Z<|Es Z<|Es Z<|Es Z<|Ypt Z<|Eu<|r9 Z<|Ew Z2<|Em Z<|Ei Z<|Eu<|E.ret<|a5h<|g9 (congrArg (ow t7 [_]) (show _=s5 l d6 (r5,s8) choice by exact a4K (.inl om)))<|Fg Z Z (_,_,_) Z Z
  ·refine Ypf Z<|Em Z<|Em Z<|Yln us_Facts Z<|Em Z<|Lz fo_Access_0 j8 Z (mS m0) Z<|Ix us_Methods ty_Method Z ea27 r5.toNat om om<|Lf fo_Method_2 j8 Z (Hs (eh27 _) 2 Z)<|Ey Z ((Y.leq Z Z).yd)<|l3 (λq41=>?_)<|λq41=>?_
   ·refine Ypf Z<|Eu<|r9 Z<|Ew Z2<|Em Z<|Ei Z<|Eu<|E.ret<|a5h<|g9 (congrArg (ow t7 [_]) (show _=s5 l d6 (r5,s8) choice by exact a4K (.inr om)))<|Fg Z Z (_,_,_) Z Z
   ·refine Ypf Z<|Eu<|Cf<|Ew Z2<|Est Z (Nb [] [] us_Facts ty_Fact Z Z)<|λb44 _=>Ent.drop<|Ei Z<|Ev Z6<|Em Z<|Ey Z ((c4U Z Z).yd)<|Em Z<|Yln us_Facts Z<|Ey Z ((a8E Z Z om om).yd)<|Ei Z<|Eu<|Eq_<|Ew Z1<|Ei Z<|Eu<|E.block<|m8 (A:=[]) (Own.nil (E:=I3) (e:=tFact) (a:=(some ⟨b44,0,none⟩))) Z<|g9 (congrArg (ow t7 [_]) (show _=a3V (n9 l d6 (r5,s8)) (max choice 0 % ((n9 l d6 (r5,s8)).length:Int)) 0 from by rfl))<|Lo (κ:=Nat×SL) (λg=>g.1≤(a1V l (r5,s8)).toNat∧True) (λg=>[(1,.slice a_l l.length c_l),(8,.pointer<|some ⟨b8,0,none⟩),(11,.slice a19 (n9 l d6 (r5,s8)).length c19),(12,.slice g.2.1 g.2.2.1 g.2.2.2),(13,.int .i64<|(max choice 0) % (↑((n9 l d6 (r5,s8)).length):Int)),(14,.int .i64 (↑g.1:Int))]) (λg=>[ow t7 [.slice g.2.1 g.2.2.1 g.2.2.2]<|a3V (n9 l d6 (r5,s8)) (max choice 0 % ((n9 l d6 (r5,s8)).length:Int)) g.1,ow t7 [.slice a19 (n9 l d6 (r5,s8)).length c19]<|n9 l d6 (r5,s8),pt b8 105 [.int .i64 r5,.slice C9 s8.length C8]]) (λg=>(a1V l (r5,s8)).toNat-g.1) (0,(some ⟨b44,0,none⟩),0,0) ⟨Nat.zero_le _,by simp⟩<|λg pg=>?_
    obtain ⟨g,aA0_0,mA0_0,cA0_0⟩:=g
    try dsimp only at pg
    try dsimp only
    obtain ⟨pk,pa⟩:=pg
    have jk1:=Int.emod_nonneg (max choice 0) (show ((n9 l d6 (r5,s8)).length:Int)≠0 by omega)
    have jk2:=Int.emod_lt_of_pos (max choice 0) (show 0<((n9 l d6 (r5,s8)).length:Int) by omega)
    have jcs:=b9C (x:=(n9 l d6 (r5,s8))) (k:=(max choice 0 % ((n9 l d6 (r5,s8)).length:Int))) (g:=g)
    refine f0 m0 ?_
    rintro rfl laA0_0
    refine Eq_<|Ew Z8<|Em Z<|Em Z<|Lz fo_Access_0 j8 Z (mS<|mS m0) Z<|Ix us_Methods ty_Method Z ea27 r5.toNat om om<|Lf fo_Method_2 j8 Z (Hs (eh27 _) 2 Z)<|Ylt Z<|l3 (λq57=>?_)<|λq57=>?_
    ·refine Eu<|Ct<|Eq_<|E.block<|Ez Z12<|Em Z<|Em Z<|Em Z<|Em Z<|Yad Z om om<|Em Z<|Yln us_Facts Z<|Ey Z ((a8E Z Z om om).yd) ?_
     have jix:=b5m (x:=(n9 l d6 (r5,s8))) (k:=(max choice 0 % ((n9 l d6 (r5,s8)).length:Int))) (g:=g) jk1 om
     refine R1 (mS m0) om λab68 ae68=>d8<|X9 (x:=(n9 l d6 (r5,s8))[((((max choice 0) % (↑((n9 l d6 (r5,s8)).length):Int))+(g:Int)) % (↑((n9 l d6 (r5,s8)).length):Int)).toNat]) (((((max choice 0) % (↑((n9 l d6 (r5,s8)).length):Int))+(g:Int)) % (↑((n9 l d6 (r5,s8)).length):Int)).toNat) (List.getElem?_eq_getElem om) λce68=>?_
     refine d8<|a8A λoa68_1 om68_1 oc68_1 oe68 oi68_0 on68_1=>?_
     subst oe68
     subst on68_1
     refine Ix us_Facts ty_Fact Z ae68 (((((max choice 0) % (↑((n9 l d6 (r5,s8)).length):Int))+(g:Int)) % (↑((n9 l d6 (r5,s8)).length):Int)).toNat) om om<|Ey Z (l4 (cs:=[_,_]) ty_Fact Z (Has.hole ae68<|mS m0) Z)<|El Z (a3S om (λf hf=>hmF f<|c0g jk1 om hf)<|hmF _<|List.getElem_mem _) Z (λhA=>⟨hA.ow<|mS<|mS m0,oi68_0,hA.ow m0⟩)<|λa70 c70 l70=>Ei Z<|En<|o6<|Et<|Ez Z3<|Em Z<|Yad Z om om<|Ei Z<|Eu<|d8<|i9<|U1 (N3 (x:=(n9 l d6 (r5,s8))[((((max choice 0) % (↑((n9 l d6 (r5,s8)).length):Int))+(g:Int)) % (↑((n9 l d6 (r5,s8)).length):Int)).toNat]) oi68_0 Own.ow) Z<|g9 (congrArg (ow t7 [_])<|List.set_getElem_self om)<|i9<|Ent.drop<|d8<|g9 (congrArg (ow t7 [_]) (show _=a3V (n9 l d6 (r5,s8)) (max choice 0 % ((n9 l d6 (r5,s8)).length:Int)) (g+1) from by exact b8V om Z))<|i9<|i9<|i9 ?_
     exact Ea (g+1,a70,_,c70) ⟨oz,trivial⟩
    ·refine Eu<|r8 Z<|E.exit<|l2<|l2<|u4<|Et<|Ew Z2<|Em Z<|Ei Z<|Eu<|E.ret<|g9 (congrArg (ow t7 [_]) (show _=s5 l d6 (r5,s8) choice by exact c0p (b0B hof) om om om om))<|Fg Z Z (_,_,_) Z Z
end Go.Proofs.YthapcdhdfaibkaaGreatDoor
end
