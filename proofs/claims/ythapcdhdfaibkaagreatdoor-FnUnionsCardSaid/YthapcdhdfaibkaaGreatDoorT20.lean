import Derived.Test.YthapcdhdfaibkaaGreatDoorBq
section
namespace Go.Proofs.YthapcdhdfaibkaaGreatDoor
open Go.RowKit
set_option linter.all false
set_option maxHeartbeats 2000000
attribute [local irreducible] Nop Yd Yp Ent Has Tr FnP FnP2 Src
theorem a7p {a_s:Option Addr} {m_s c_s:Nat} {s:List IL} {i:Int} {a_v:Option Addr} {m_v c_v:Nat} {v:List IL} (hi:0≤i∧i≤s.length) (hv0:0<v.length) (hz:s.length+v.length≤1099511627776):Tr Tryz.prog 294 [.slice a_s m_s c_s,.int .i64 i,.slice a_v m_v c_v] (λw L=>True) [ow t7 [.slice a_s m_s c_s] s,ow t7 [.slice a_v m_v c_v] v] (κ:=SL) (λk=>True) (λk=>.slice k.1 k.2.1 k.2.2) (λk=>[ow t7 [.slice k.1 k.2.1 k.2.2] (s.take i.toNat++v++s.drop i.toNat)]):=by
 refine Ti3 Tryz.func294 95 Z λw L hR=>f0 m0 λes ls=>?_
 subst es
 refine f0 (mS m0) ?_
 rintro rfl lv
 obtain ⟨j,rfl⟩:∃j:Nat,i=(j:Int):=⟨i.toNat,by omega⟩
 refine a4b λcs hcs=>?_
 replace hcs:cs.length=s.length*2:=hcs
 show Ent _ _ _ _ (row tFact 2 a_s s.length c_s cs::_) _
 refine a2D (mS m0) λh1s=>a3X m0 λhms=>i9<|a4b λcv hcv=>?_
 replace hcv:cv.length=v.length*2:=hcv
 show Ent _ _ _ _ (row tFact 2 a_v v.length c_v cv::_) _
 refine a2D (mS m0) λh1v=>a3X m0 λhmv=>a3Z m0 om λvb hvb _=>?_
 subst hvb
 refine Ew Z1<|Ei Z<|Ev Z3<|Em Z<|Em Z<|Ey Z ((a5i (l:=j) us_Facts ty_Fact Z Z om).yd)<|Ev Z3<|Em Z<|Yln us_Facts Z<|Ei Z<|Eu<|Eq_<|Ew Z2<|Em Z<|Yeq Z<|l3 (λq16=>?_)<|λq16=>?_
 ·exact absurd q16 om
 ·refine Eu<|Cf<|Ew Z3<|Em Z<|Yln us_Facts Z<|Ei Z<|Eu<|Eq_<|Ew Z3<|Em Z<|Em Z<|Yeq Z<|l3 (λq22=>?_)<|λq22=>?_
  ·refine Eu<|r9 Z<|Ew Z4<|Em Z<|Em Z<|i9<|Est Z (N.app us_Facts ty_Fact dc Z Z (λw hw=>Src.row (mS m0) dc hw) (by simpa using hcv) h1v mx om dc)<|λp25 _=>Ei Z<|Eu<|E.ret<|a5h<|i9<|n0<|a3Y (i:=j) om<|d8<|g9 (congrArg (row tFact 2 p25.1 (s.length+v.length) p25.2) (show cs++cv=cs.take (j*2)++cv++cs.drop (j*2) from a7m hcs om))<|a1M (E:=I3) (by simp only[List.length_append,List.length_take,List.length_drop];omega) mx ?_
   exact Fg Z Z (_,_,_) Z Z
  ·refine a3Z (mS<|mS m0) om λsb hsb _=>?_
   subst hsb
   refine Eu<|Cf<|Eq_<|Ew Z6<|Em Z<|Em Z<|Yad Z om om<|Em Z<|Ey Z ((Y.cap us_Facts Z).yd)<|Ey Z ((Y.gtr Z Z).yd)<|l3 (λq31=>?_)<|λq31=>?_
   ·refine Eu<|r9 Z<|Ew Z10<|Em Z<|Em Z<|Ey Z ((a2T (h:=j) us_Facts ty_Fact Z Z om).yd)<|Em Z<|Em Z<|Yad Z om om<|Em Z<|Ey Z ((Y.sub Z Z om om).yd)<|Est Z (b5C (zn:=(s.length+v.length-j)) us_Facts kr ty_Fact dc Z Z om om om (mS<|mS m0) om om om dc)<|λp40 hp40=>?_
    obtain ⟨pb40,pc40,pz40⟩:=p40
    obtain ⟨hp40,hq40⟩:=hp40
    try dsimp only at hp40 hq40
    refine Ei Z (Ev Z5<|Em Z<|Em Z<|Ey Z ((a0S (l:=j) (b:=pb40) (m:=((j)+(s.length+v.length-j))) (c:=pc40) us_Facts ty_Fact Z Z om om).yd)<|Em Z<|Est Z (a5N (p:=j) (q:=v.length) (news:=cv) us_Facts ty_Fact Z Z Z om (by simp only[Nat.min_def];split<;>omega) (.inr ⟨_,_,Z,a7e<|mS m0⟩) (by first|omega|(simp only[List.length_take,List.length_drop,List.length_append];omega)) h1v om dc Z)<|λ_ _=>Eu<|Eq_<|D.region (λj=> !(Nat.beq j 8)) mixed<|Dyp 0 Z (P5 Z)<|Dyp 1 Z (P5 Z)<|Dyp 2 Z (P5 Z)<|Dyp 3 Z (Y.add Z Z om om)<|Dyp 4 Z (a0S (l:=j+v.length) (b:=pb40) (m:=((j)+(s.length+v.length-j))) (c:=pc40) us_Facts ty_Fact Z Z om om)<|Dyp 5 Z (P5 Z)<|Dyp 6 Z (P5 Z)<|Dyp 7 Z (a0S (l:=j) (b:=sb) (m:=s.length) (c:=c_s) us_Facts ty_Fact Z Z om om)<|w6 8 Z Z kr (λh=>by cases h) (a5N (p:=j+v.length) (q:=s.length-j) (news:=cs.drop<|j*2) us_Facts ty_Fact Z Z Z om (by simp only[Nat.min_def];split<;>omega) (.inr ⟨_,_,Z,a4a (mS<|mS<|mS m0) j (rest:=[])<|(List.append_nil _).symm⟩) (by first|omega|(simp only[List.length_take,List.length_drop,List.length_append];omega)) (λu hu=>h1s u<|List.mem_of_mem_drop hu) om dc Z)<|λ_ _=>o4 kr<|Et<|Ew Z2<|Em Z<|Ei Z<|Eu<|E.ret<|a5h<|i9<|s6<|a3Y (i:=j) om<|d8<|g9 (congrArg (row tFact 2 (some ⟨pb40,0,none⟩) ((j)+(s.length+v.length-j)) pc40) (show ((cs.take ((j)*2)++pz40).take (j*2)++cv++(cs.take ((j)*2)++pz40).drop (j*2+v.length*2)).take ((j+v.length)*2)++(cs.drop<|j*2)++((cs.take ((j)*2)++pz40).take (j*2)++cv++(cs.take ((j)*2)++pz40).drop (j*2+v.length*2)).drop ((j+v.length)*2+(s.length-j)*2)=cs.take (j*2)++cv++cs.drop (j*2) from b2O hcs hcv hp40 om))<|a1M (E:=I3) (by simp only[List.length_append,List.length_take,List.length_drop];omega) mx ?_)
    exact Fg Z Z (_,_,_) Z Z
   ·refine Eu (r8 Z<|v6<|Et<|Ew Z6<|Em Z<|Em Z<|Em Z<|Ey Z ((Y.add Z Z om om).yd)<|i9<|b6W (m':=s.length+v.length) om om om λtl60 htl60=>Ey Z ((a2T (h:=s.length+v.length) us_Facts ty_Fact Z Z om).yd)<|Ei Z<|Eu<|Eq_<|Ew Z8<|Em Z<|Em Z<|Em Z<|Em Z<|Ey Z ((Y.add Z Z om om).yd)<|Ey Z ((a0S (l:=j+v.length) (b:=sb) (m:=(s.length+v.length)) (c:=c_s) us_Facts ty_Fact Z Z om om).yd)<|d8<|d8<|Est Z (c1p (tR:= 4) Tryz.func344 Z kr kr kr us_Facts ty_Fact dc Z Z Z om om dc)<|λ_ _=>Ey Z ((Y.not (b:=false) Z).yd)<|Eu<|r9 Z<|Eq_<|D.region (λj=> !(Nat.beq j 8)) mixed<|Dyp 0 Z (P5 Z)<|Dyp 1 Z (P5 Z)<|Dyp 2 Z (P5 Z)<|Dyp 3 Z (Y.add Z Z om om)<|Dyp 4 Z (a0S (l:=j+v.length) (b:=sb) (m:=(s.length+v.length)) (c:=c_s) us_Facts ty_Fact Z Z om om)<|Dyp 5 Z (P5 Z)<|Dyp 6 Z (P5 Z)<|Dyp 7 Z (a0S (l:=j) (b:=sb) (m:=(s.length+v.length)) (c:=c_s) us_Facts ty_Fact Z Z om om)<|w6 8 Z Z kr (λh=>by cases h) (a5N (p:=j+v.length) (q:=s.length-j) (news:=cs.drop<|j*2) us_Facts ty_Fact Z Z Z om (by simp only[Nat.min_def];split<;>omega) (.inr ⟨_,_,Z,a4a m0 j (rest:=tl60)<|List.drop_append_of_le_length (by have:=Nat.mul_le_mul_right 2 (show j≤s.length by omega);omega)⟩) (by first|omega|(simp only[List.length_take,List.length_drop,List.length_append];omega)) (λu hu=>h1s u<|List.mem_of_mem_drop hu) om dc Z)<|λ_ _=>o4 kr<|Et<|Ew Z5<|Em Z<|Em Z<|Ey Z ((a0S (l:=j) (b:=sb) (m:=(s.length+v.length)) (c:=c_s) us_Facts ty_Fact Z Z om om).yd)<|Em Z<|Est Z (a5N (p:=j) (q:=v.length) (news:=cv) us_Facts ty_Fact Z Z Z om (by simp only[Nat.min_def];split<;>omega) (.inr ⟨_,_,Z,a7e<|mS m0⟩) (by first|omega|(simp only[List.length_take,List.length_drop,List.length_append];omega)) h1v om dc Z)<|λ_ _=>Ev Z2<|Em Z<|Ei Z<|Eu<|E.ret<|a5h<|i9<|n0<|a3Y (i:=j) om<|d8<|g9 (congrArg (row tFact 2 (some ⟨sb,0,none⟩) (s.length+v.length) c_s) (show ((cs++tl60).take ((j+v.length)*2)++(cs.drop<|j*2)++(cs++tl60).drop ((j+v.length)*2+(s.length-j)*2)).take (j*2)++cv++((cs++tl60).take ((j+v.length)*2)++(cs.drop<|j*2)++(cs++tl60).drop ((j+v.length)*2+(s.length-j)*2)).drop (j*2+v.length*2)=cs.take (j*2)++cv++cs.drop (j*2) from b0N hcs hcv (htl60.trans (by congr 1;omega)) om))<|a1M (E:=I3) (by simp only[List.length_append,List.length_take,List.length_drop];omega) mx ?_)
    exact Fg Z Z (_,_,_) Z Z
end Go.Proofs.YthapcdhdfaibkaaGreatDoor
end
section
namespace Go.Proofs.YthapcdhdfaibkaaGreatDoor
open Go.RowKit
set_option linter.all false
set_option maxHeartbeats 2000000
attribute [local irreducible] Nop Yd Yp Ent Has Tr FnP FnP2 Src
theorem a9r {a_s:Option Addr} {m_s c_s:Nat} {s:List (List Int)} {i:Int} {a_v:Option Addr} {m_v c_v:Nat} {v:List (List Int)} (hi:0≤i∧i≤s.length) (hv0:0<v.length) (hz:s.length+v.length≤1099511627776):Tr Tryz.prog 301 [.slice a_s m_s c_s,.int .i64 i,.slice a_v m_v c_v] (λw L=>True) [ow D5 [.slice a_s m_s c_s] s,ow D5 [.slice a_v m_v c_v] v] (κ:=SL) (λk=>True) (λk=>.slice k.1 k.2.1 k.2.2) (λk=>[ow D5 [.slice k.1 k.2.1 k.2.2] (s.take i.toNat++v++s.drop i.toNat)]):=by
 refine Ti3 Tryz.func301 95 Z λw L hR=>f0 m0 λes ls=>?_
 subst es
 refine f0 (mS m0) ?_
 rintro rfl lv
 obtain ⟨j,rfl⟩:∃j:Nat,i=(j:Int):=⟨i.toNat,by omega⟩
 refine a4b λcs hcs=>?_
 replace hcs:cs.length=s.length*1:=hcs
 show Ent _ _ _ _ (row tIs 1 a_s s.length c_s cs::_) _
 refine a2D (mS m0) λh1s=>a3X m0 λhms=>i9<|a4b λcv hcv=>?_
 replace hcv:cv.length=v.length*1:=hcv
 show Ent _ _ _ _ (row tIs 1 a_v v.length c_v cv::_) _
 refine a2D (mS m0) λh1v=>a3X m0 λhmv=>a3Z m0 om λvb hvb _=>?_
 subst hvb
 refine Ew Z1<|Ei Z<|Ev Z3<|Em Z<|Em Z<|Ey Z ((a5i (l:=j) us_Iss ty_Is Z Z om).yd)<|Ev Z3<|Em Z<|Yln us_Iss Z<|Ei Z<|Eu<|Eq_<|Ew Z2<|Em Z<|Yeq Z<|l3 (λq16=>?_)<|λq16=>?_
 ·exact absurd q16 om
 ·refine Eu<|Cf<|Ew Z3<|Em Z<|Yln us_Iss Z<|Ei Z<|Eu<|Eq_<|Ew Z3<|Em Z<|Em Z<|Yeq Z<|l3 (λq22=>?_)<|λq22=>?_
  ·refine Eu<|r9 Z<|Ew Z4<|Em Z<|Em Z<|i9<|Est Z (N.app us_Iss ty_Is dc Z Z (λw hw=>Src.row (mS m0) dc hw) (by simpa using hcv) h1v mx om dc)<|λp25 _=>Ei Z<|Eu<|E.ret<|a5h<|i9<|n0<|a3Y (i:=j) om<|d8<|g9 (congrArg (row tIs 1 p25.1 (s.length+v.length) p25.2) (show cs++cv=cs.take (j*1)++cv++cs.drop (j*1) from a7m hcs om))<|a1M (E:=eIs) (by simp only[List.length_append,List.length_take,List.length_drop];omega) mx<|Fg Z Z (_,_,_) Z Z
  ·refine a3Z (mS<|mS m0) om λsb hsb _=>?_
   subst hsb
   refine Eu<|Cf<|Eq_<|Ew Z6<|Em Z<|Em Z<|Yad Z om om<|Em Z<|Ey Z ((Y.cap us_Iss Z).yd)<|Ey Z ((Y.gtr Z Z).yd)<|l3 (λq31=>?_)<|λq31=>?_
   ·refine Eu<|r9 Z<|Ew Z10<|Em Z<|Em Z<|Ey Z ((a2T (h:=j) us_Iss ty_Is Z Z om).yd)<|Em Z<|Em Z<|Yad Z om om<|Em Z<|Ey Z ((Y.sub Z Z om om).yd)<|Est Z (b5C (zn:=(s.length+v.length-j)) us_Iss kr ty_Is dc Z Z om om om (mS<|mS m0) om om om dc)<|λp40 hp40=>?_
    obtain ⟨pb40,pc40,pz40⟩:=p40
    obtain ⟨hp40,hq40⟩:=hp40
    try dsimp only at hp40 hq40
    refine Ei Z (Ev Z5<|Em Z<|Em Z<|Ey Z ((a0S (l:=j) (b:=pb40) (m:=((j)+(s.length+v.length-j))) (c:=pc40) us_Iss ty_Is Z Z om om).yd)<|Em Z<|Est Z (a5N (p:=j) (q:=v.length) (news:=cv) us_Iss ty_Is Z Z Z om (by simp only[Nat.min_def];split<;>omega) (.inr ⟨_,_,Z,a7e<|mS m0⟩) (by first|omega|(simp only[List.length_take,List.length_drop,List.length_append];omega)) h1v om dc Z)<|λ_ _=>Eu<|Eq_<|D.region (λj=> !(Nat.beq j 8)) mixed<|Dyp 0 Z (P5 Z)<|Dyp 1 Z (P5 Z)<|Dyp 2 Z (P5 Z)<|Dyp 3 Z (Y.add Z Z om om)<|Dyp 4 Z (a0S (l:=j+v.length) (b:=pb40) (m:=((j)+(s.length+v.length-j))) (c:=pc40) us_Iss ty_Is Z Z om om)<|Dyp 5 Z (P5 Z)<|Dyp 6 Z (P5 Z)<|Dyp 7 Z (a0S (l:=j) (b:=sb) (m:=s.length) (c:=c_s) us_Iss ty_Is Z Z om om)<|w6 8 Z Z kr (λh=>by cases h) (a5N (p:=j+v.length) (q:=s.length-j) (news:=cs.drop<|j*1) us_Iss ty_Is Z Z Z om (by simp only[Nat.min_def];split<;>omega) (.inr ⟨_,_,Z,a4a (mS<|mS<|mS m0) j (rest:=[])<|(List.append_nil _).symm⟩) (by first|omega|(simp only[List.length_take,List.length_drop,List.length_append];omega)) (λu hu=>h1s u<|List.mem_of_mem_drop hu) om dc Z)<|λ_ _=>o4 kr<|Et<|Ew Z2<|Em Z<|Ei Z<|Eu<|E.ret<|a5h<|i9<|s6<|a3Y (i:=j) om<|d8<|g9 (congrArg (row tIs 1 (some ⟨pb40,0,none⟩) ((j)+(s.length+v.length-j)) pc40) (show ((cs.take ((j)*1)++pz40).take (j*1)++cv++(cs.take ((j)*1)++pz40).drop (j*1+v.length*1)).take ((j+v.length)*1)++(cs.drop<|j*1)++((cs.take ((j)*1)++pz40).take (j*1)++cv++(cs.take ((j)*1)++pz40).drop (j*1+v.length*1)).drop ((j+v.length)*1+(s.length-j)*1)=cs.take (j*1)++cv++cs.drop (j*1) from b2O hcs hcv hp40 om))<|a1M (E:=eIs) (by simp only[List.length_append,List.length_take,List.length_drop];omega) mx<|Fg Z Z (_,_,_) Z Z)
   ·refine Eu (r8 Z<|v6<|Et<|Ew Z6<|Em Z<|Em Z<|Em Z<|Ey Z ((Y.add Z Z om om).yd)<|i9<|b6W (m':=s.length+v.length) om om om λtl60 htl60=>Ey Z ((a2T (h:=s.length+v.length) us_Iss ty_Is Z Z om).yd)<|Ei Z<|Eu<|Eq_<|Ew Z8<|Em Z<|Em Z<|Em Z<|Em Z<|Ey Z ((Y.add Z Z om om).yd)<|Ey Z ((a0S (l:=j+v.length) (b:=sb) (m:=(s.length+v.length)) (c:=c_s) us_Iss ty_Is Z Z om om).yd)<|d8<|d8<|Est Z (c1p (tR:= 4) Tryz.func348 Z kr kr kr us_Iss ty_Is dc Z Z Z om om dc)<|λ_ _=>Ey Z ((Y.not (b:=false) Z).yd)<|Eu<|r9 Z<|Eq_<|D.region (λj=> !(Nat.beq j 8)) mixed<|Dyp 0 Z (P5 Z)<|Dyp 1 Z (P5 Z)<|Dyp 2 Z (P5 Z)<|Dyp 3 Z (Y.add Z Z om om)<|Dyp 4 Z (a0S (l:=j+v.length) (b:=sb) (m:=(s.length+v.length)) (c:=c_s) us_Iss ty_Is Z Z om om)<|Dyp 5 Z (P5 Z)<|Dyp 6 Z (P5 Z)<|Dyp 7 Z (a0S (l:=j) (b:=sb) (m:=(s.length+v.length)) (c:=c_s) us_Iss ty_Is Z Z om om)<|w6 8 Z Z kr (λh=>by cases h) (a5N (p:=j+v.length) (q:=s.length-j) (news:=cs.drop<|j*1) us_Iss ty_Is Z Z Z om (by simp only[Nat.min_def];split<;>omega) (.inr ⟨_,_,Z,a4a m0 j (rest:=tl60)<|List.drop_append_of_le_length (by have:=Nat.mul_le_mul_right 1 (show j≤s.length by omega);omega)⟩) (by first|omega|(simp only[List.length_take,List.length_drop,List.length_append];omega)) (λu hu=>h1s u<|List.mem_of_mem_drop hu) om dc Z)<|λ_ _=>o4 kr<|Et<|Ew Z5<|Em Z<|Em Z<|Ey Z ((a0S (l:=j) (b:=sb) (m:=(s.length+v.length)) (c:=c_s) us_Iss ty_Is Z Z om om).yd)<|Em Z<|Est Z (a5N (p:=j) (q:=v.length) (news:=cv) us_Iss ty_Is Z Z Z om (by simp only[Nat.min_def];split<;>omega) (.inr ⟨_,_,Z,a7e<|mS m0⟩) (by first|omega|(simp only[List.length_take,List.length_drop,List.length_append];omega)) h1v om dc Z)<|λ_ _=>Ev Z2<|Em Z<|Ei Z<|Eu<|E.ret<|a5h<|i9<|n0<|a3Y (i:=j) om<|d8<|g9 (congrArg (row tIs 1 (some ⟨sb,0,none⟩) (s.length+v.length) c_s) (show ((cs++tl60).take ((j+v.length)*1)++(cs.drop<|j*1)++(cs++tl60).drop ((j+v.length)*1+(s.length-j)*1)).take (j*1)++cv++((cs++tl60).take ((j+v.length)*1)++(cs.drop<|j*1)++(cs++tl60).drop ((j+v.length)*1+(s.length-j)*1)).drop (j*1+v.length*1)=cs.take (j*1)++cv++cs.drop (j*1) from b0N hcs hcv (htl60.trans (by congr 1;omega)) om))<|a1M (E:=eIs) (by simp only[List.length_append,List.length_take,List.length_drop];omega) mx ?_)
    exact Fg Z Z (_,_,_) Z Z
end Go.Proofs.YthapcdhdfaibkaaGreatDoor
end
