/- The texts Bl, Bm, La, Or. -/
import Derived.Test.YtfpagioknjjacaaGreatDoorQMElimsKnown16
import Derived.Test.YtfpagioknjjacaaGreatDoorQMElimsKnown6
import Derived.Test.YtfpagioknjjacaaGreatDoorQMElimsKnown5
namespace Go.Proofs.YtfpagioknjjacaaGreatDoor
open Go.Sx
set_option linter.unusedSimpArgs false
set_option linter.unusedVariables false
set_option maxRecDepth 100000
set_option maxHeartbeats 40000000
abbrev vD (l:List (List Rat)):aF:=⟨36,true,.seq 1 (l.map aN)⟩
theorem yG {l:List (List Rat)} {i:Nat} (hi:i<l.length):vD (l.take (i+1))=⟨36,true,.seq 1 (List.take i ((l.take i).map aN)++List.take 1 (List.drop 0 [aN (l.getD i [])]))⟩:=by
 have hl:((l.take i).map aN).length=i:=by rw[List.length_map,List.length_take];omega
 have e:l.take (i+1)=l.take i++[l.getD i []]:=by rw[List.take_add_one,List.getD_eq_getElem?_getD,List.getElem?_eq_getElem hi];rfl
 rw[vD,e,List.map_append,List.take_of_length_le (l:=(l.take i).map aN) aa];rfl
theorem Hb (l:List (List Rat)):bn (l.map aN)=true:=bN (fun _=>rfl) _
theorem Ms {ρ:bU} {m:Nat} {x:SV} (z:List (List Value)) (h:aw ρ [x,iv m,.val (.slice none 0 0),.frac 1] z):aw ρ [x,iv m,cO .i64 [],.frac 1] z:=by
 simp only[aw]at h ⊢
 obtain⟨x,r,rfl,h1,y,r2,rfl,h2,z,r3,rfl,h3,h4⟩:=h
 exact⟨x,_,rfl,h1,y,_,rfl,h2,z,_,rfl,rW h3,h4⟩
theorem AE {r c:Nat} (more:Nat) (a:List Rat) (b:Mx) (g:FuncId) (hr:r≤2000) (ha:dV r c a) (hc:c≤40) (hm:more≤60)
  (hb:∀i k,i<r→k<more→ab Tryz.prog g ([]++([iv (i:Nat),iv (k:Nat)]++[])) [] (.frac (b i k)) [] []):
  ab Tryz.prog 221 [mA r c a,iv more,.clo g [] []] [] (nU r c (c+more) (aR (c+more) (dN a c b)) [] 1) [] []:=by
 have t0:IntKind.i64.wrap ((c:Int)+(more:Int))=((c+more:Nat):Int):=by rw[wrap_i64 aa aa];omega
 have k0:ab Tryz.prog 18 [iv 1] [] (.frac 1) [] []:=dI 1 aI aI
 obtain⟨L,hL⟩:∃L,(List.range r).map (aR (c+more) (dN a c b))=L:=⟨_,rfl⟩
 have lL:L.length=r:=by rw[←hL];simp
 have hLg:∀i,i<r→L.getD i []=wh (c+more) (dN a c b i):=fun i hi=>by rw[←hL];simp[List.getD_eq_getElem?_getD,hi]
 refine fZ [3,100012,100014] Tryz.func221 ?_
 intro w0 ρ0 hE
 conv=>whnf
 (repeat((first|refine aq av ?_|refine aS (by assumption) ?_|refine ah Q5 ?_|refine ah Q7 ?_);conv=>whnf))
 refine iS (j:=15) (k:=1002) (s:=1) (p:=0) (blk:=vD []) rfl rfl rfl rfl rfl ?_
 refine aj hE (fun k=>k) [1,2,3,7,17,18] [15,1002] (fun m' fr hp=>∃i:Nat,m'=r - i∧i≤r∧fr=[(1,iv more),(2,.clo g [] []),(3,bE (mC r c a)),(7,.ptr 15 0 0 0),(17,iv r),(18,iv i)]∧
  hp=[(15,⟨269,true,.one [.aO 1002 1 0 i,iv c,.val (.slice none 0 0),.frac 1]⟩),(1002,vD (L.take i))]) r ?_ ?_ ?_
 ·kernel_rfl
 ·exact⟨0,rfl,Nat.zero_le _,rfl,rfl⟩
 rintro m' _ _ ⟨i,rfl,hi,rfl,rfl⟩
 have KD:((L.take i).map aN).length=i:=by rw[List.length_map,List.length_take];omega
 conv=>whnf
 by_cases aE:i<r
 ·have t1:=dx aE
  have t2:=br (i:=i) aa
  obtain⟨t3,t4,t5⟩:=xN (i:=i) (c:=c) aa aa
  have lJ:=c8 aE ha.n
  have iF:=nh (more:=more) b aE ha.n
  have Fw:(i+1)*c≤a.length:=by rw[ha.n];exact Nat.mul_le_mul_right c aE
  have hX:List.take ((i+1)*c - i*c) (List.drop (i*c) a)=db a c i:=by rw[Nat.succ_mul,Nat.add_sub_cancel_left]
  have Og:i*c≤(i+1)*c:=Nat.mul_le_mul_right c aa
  (repeat(first|(refine aC Q3 ?_;conv=>whnf)|(refine ao t1 ?_;conv=>whnf)|(refine ah Q5 ?_;conv=>whnf)|(refine ah Q7 ?_;conv=>whnf)|(refine ah Ga ?_;conv=>whnf)|(refine⟨_,[(25,cP (List.replicate (c+more) 0))],[],[(25,cP (db a c _++List.replicate more 0))],pb (c:=c) (n:=c+more) (m:=c) (i:=0) (k:=25) rfl rfl rfl (ak rfl) (ak rfl) (fG _) (aJ.get (t:=36) rfl) rfl (aJ.get (t:=52) rfl) (List.mem_cons_self ..) rfl rfl (by simp[en]) (by rw[List.length_map];exact lJ.symm) Q39 (Nat.min_eq_left (Nat.le_add_right _ _)).symm (pc lJ),dh rfl,aA,dd (List.mem_cons_self ..) rfl rfl rfl, ?_⟩;conv=>whnf)|(rw[t0];conv=>whnf)|(rw[t1];conv=>whnf)|(rw[t3];conv=>whnf)|(rw[t4];conv=>whnf)|(rw[t5];conv=>whnf)|(rw[hX];conv=>whnf)|(rw[Int.toNat_natCast];conv=>whnf)))
  refine aj hE (fun k=>k) [1,2,3,7,8,9,17,18,40,41] [15,25,1002] (fun m'' fr hp=>∃k:Nat,m''=more - k∧k≤more∧fr=[(1,iv more),(2,.clo g [] []),(3,bE (mC r c a)),(7,.ptr 15 0 0 0),(8,iv i),(9,.aO 25 5 0 (c+more)),(17,iv r),(18,iv i),(40,iv more),(41,iv k)]∧
   hp=[(15,⟨269,true,.one [.aO 1002 1 0 i,iv c,.val (.slice none 0 0),.frac 1]⟩),(25,cP (wh (c+more) (oi a c b i k))),(1002,vD (L.take i))]) more ?_ ?_ ?_
  ·kernel_rfl
  ·exact⟨0,rfl,Nat.zero_le _,rfl,by rw[←iF];rfl⟩
  rintro m'' _ _ ⟨k,rfl,hk,rfl,rfl⟩
  have hz:=bC (c+more) (oi a c b i k)
  conv=>whnf
  by_cases pL:k<more
  ·have t6:=dx pL
   have t7:=br (i:=k) aa
   have t8:IntKind.i64.wrap ((c:Int)+(k:Int))=((c+k:Nat):Int):=by rw[wrap_i64 aa aa];omega
   have kb:=hb i k aE pL
   have qv:=sJ (a:=a) (b:=b) (c:=c) (i:=i) pL
   (repeat((first|refine aq av ?_|refine bg Q3 ?_|refine aC Q3 ?_|refine aS (by assumption) ?_|refine ao t6 ?_|refine ah Q5 ?_|refine ah Q7 ?_|rw[t6]|rw[t7]|rw[t8]|rw[Int.toNat_natCast]|rw[Nat.zero_add]);conv=>whnf))
   exact⟨more - (k+1),fun k=>k,[1,2,3,7,8,9,17,18,40,41],[15,25,1002],aa,av,k+1,rfl,pL,rfl,by rw[←qv];rfl⟩
  ·have t6:=dA pL
   obtain rfl:k=more:=aa
   have Ck:=sK (a:=a) (b:=b) (c:=c) (more:=k) (i:=i)
   have e3:=yG (l:=L) (i:=i) aa
   rw[hLg i aE]at e3
   rw[Ck]at hz
   rw[Ck]
   (repeat(first|(refine ay t6 ?_;conv=>whnf)|(rw[t6];conv=>whnf)))
   refine fv 9 25 (fun _ h=>h) rfl rfl hz.symm ?_
   refine bA hE ?_
   conv=>whnf
   (repeat(first|(refine aC Q3 ?_;conv=>whnf)|(rw[t2];conv=>whnf)|(rw[Nat.zero_add];conv=>whnf)))
   refine⟨r - (i+1),cE [(62,1002)],[1,2,3,7,17,18],[15,62],aa,av,i+1,rfl,aE,rfl, ?_⟩
   rw[e3];rfl
 ·have t1:=dA aE
  obtain rfl:i=r:=aa
  rw[List.take_of_length_le aa]
  (repeat(first|(refine ay t1 ?_;conv=>whnf)|(rw[t1];conv=>whnf)))
  refine⟨fun a' W' hR=> ?_⟩
  have Ka:=ym (jj:=15) (pp:=0) (k:=1002) (n:=i) (fun _ h=>h) rfl aI rfl rfl (Hb L) (by rw[List.length_map,lL]) hR
  have EV:=na (j:=15) rfl (fun _ z hz=>Ms z hz) Ka
  have hR3:=lf 7 15 (fun _ h=>h) rfl rfl rfl EV
  refine(bA hE ?_).run a' W' hR3
  rw[←hL]
  conv=>whnf
  skip;exact Q4
theorem AF {r c:Nat} (more:Nat) (a:List Rat) (b:Mx) (g:FuncId) (p:Pred) (hr:r≤2000) (ha:dV r c a) (hc:c≤40) (hm:more≤60)
  (hb:∀i k,i<r→k<more→ab Tryz.prog g ([]++([iv (i:Nat),iv (k:Nat)]++[.atom p])) [] (.frac (b i k)) [] []):
  ab Tryz.prog 221 [mA r c a,iv more,.clo g [] [.atom p]] [] (nU r c (c+more) (aR (c+more) (dN a c b)) [] 1) [] []:=by
 have t0:IntKind.i64.wrap ((c:Int)+(more:Int))=((c+more:Nat):Int):=by rw[wrap_i64 aa aa];omega
 have k0:ab Tryz.prog 18 [iv 1] [] (.frac 1) [] []:=dI 1 aI aI
 obtain⟨L,hL⟩:∃L,(List.range r).map (aR (c+more) (dN a c b))=L:=⟨_,rfl⟩
 have lL:L.length=r:=by rw[←hL];simp
 have hLg:∀i,i<r→L.getD i []=wh (c+more) (dN a c b i):=fun i hi=>by rw[←hL];simp[List.getD_eq_getElem?_getD,hi]
 refine fZ [3,100012,100014] Tryz.func221 ?_
 intro w0 ρ0 hE
 conv=>whnf
 (repeat((first|refine aq av ?_|refine aS (by assumption) ?_|refine ah Q5 ?_|refine ah Q7 ?_);conv=>whnf))
 refine iS (j:=15) (k:=1002) (s:=1) (p:=0) (blk:=vD []) rfl rfl rfl rfl rfl ?_
 refine aj hE (fun k=>k) [1,2,3,7,17,18] [15,1002] (fun m' fr hp=>∃i:Nat,m'=r - i∧i≤r∧fr=[(1,iv more),(2,.clo g [] [.atom p]),(3,bE (mC r c a)),(7,.ptr 15 0 0 0),(17,iv r),(18,iv i)]∧
  hp=[(15,⟨269,true,.one [.aO 1002 1 0 i,iv c,.val (.slice none 0 0),.frac 1]⟩),(1002,vD (L.take i))]) r ?_ ?_ ?_
 ·kernel_rfl
 ·exact⟨0,rfl,Nat.zero_le _,rfl,rfl⟩
 rintro m' _ _ ⟨i,rfl,hi,rfl,rfl⟩
 have KD:((L.take i).map aN).length=i:=by rw[List.length_map,List.length_take];omega
 conv=>whnf
 by_cases aE:i<r
 ·have t1:=dx aE
  have t2:=br (i:=i) aa
  obtain⟨t3,t4,t5⟩:=xN (i:=i) (c:=c) aa aa
  have lJ:=c8 aE ha.n
  have iF:=nh (more:=more) b aE ha.n
  have Fw:(i+1)*c≤a.length:=by rw[ha.n];exact Nat.mul_le_mul_right c aE
  have hX:List.take ((i+1)*c - i*c) (List.drop (i*c) a)=db a c i:=by rw[Nat.succ_mul,Nat.add_sub_cancel_left]
  have Og:i*c≤(i+1)*c:=Nat.mul_le_mul_right c aa
  (repeat(first|(refine aC Q3 ?_;conv=>whnf)|(refine ao t1 ?_;conv=>whnf)|(refine ah Q5 ?_;conv=>whnf)|(refine ah Q7 ?_;conv=>whnf)|(refine ah Ga ?_;conv=>whnf)|(refine⟨_,[(25,cP (List.replicate (c+more) 0))],[],[(25,cP (db a c _++List.replicate more 0))],pb (c:=c) (n:=c+more) (m:=c) (i:=0) (k:=25) rfl rfl rfl (ak rfl) (ak rfl) (fG _) (aJ.get (t:=36) rfl) rfl (aJ.get (t:=52) rfl) (List.mem_cons_self ..) rfl rfl (by simp[en]) (by rw[List.length_map];exact lJ.symm) Q39 (Nat.min_eq_left (Nat.le_add_right _ _)).symm (pc lJ),dh rfl,aA,dd (List.mem_cons_self ..) rfl rfl rfl, ?_⟩;conv=>whnf)|(rw[t0];conv=>whnf)|(rw[t1];conv=>whnf)|(rw[t3];conv=>whnf)|(rw[t4];conv=>whnf)|(rw[t5];conv=>whnf)|(rw[hX];conv=>whnf)|(rw[Int.toNat_natCast];conv=>whnf)))
  refine aj hE (fun k=>k) [1,2,3,7,8,9,17,18,40,41] [15,25,1002] (fun m'' fr hp=>∃k:Nat,m''=more - k∧k≤more∧fr=[(1,iv more),(2,.clo g [] [.atom p]),(3,bE (mC r c a)),(7,.ptr 15 0 0 0),(8,iv i),(9,.aO 25 5 0 (c+more)),(17,iv r),(18,iv i),(40,iv more),(41,iv k)]∧
   hp=[(15,⟨269,true,.one [.aO 1002 1 0 i,iv c,.val (.slice none 0 0),.frac 1]⟩),(25,cP (wh (c+more) (oi a c b i k))),(1002,vD (L.take i))]) more ?_ ?_ ?_
  ·kernel_rfl
  ·exact⟨0,rfl,Nat.zero_le _,rfl,by rw[←iF];rfl⟩
  rintro m'' _ _ ⟨k,rfl,hk,rfl,rfl⟩
  have hz:=bC (c+more) (oi a c b i k)
  conv=>whnf
  by_cases pL:k<more
  ·have t6:=dx pL
   have t7:=br (i:=k) aa
   have t8:IntKind.i64.wrap ((c:Int)+(k:Int))=((c+k:Nat):Int):=by rw[wrap_i64 aa aa];omega
   have kb:=hb i k aE pL
   have qv:=sJ (a:=a) (b:=b) (c:=c) (i:=i) pL
   (repeat((first|refine aq av ?_|refine bg Q3 ?_|refine aC Q3 ?_|refine aS (by assumption) ?_|refine ao t6 ?_|refine ah Q5 ?_|refine ah Q7 ?_|rw[t6]|rw[t7]|rw[t8]|rw[Int.toNat_natCast]|rw[Nat.zero_add]);conv=>whnf))
   exact⟨more - (k+1),fun k=>k,[1,2,3,7,8,9,17,18,40,41],[15,25,1002],aa,av,k+1,rfl,pL,rfl,by rw[←qv];rfl⟩
  ·have t6:=dA pL
   obtain rfl:k=more:=aa
   have Ck:=sK (a:=a) (b:=b) (c:=c) (more:=k) (i:=i)
   have e3:=yG (l:=L) (i:=i) aa
   rw[hLg i aE]at e3
   rw[Ck]at hz
   rw[Ck]
   (repeat(first|(refine ay t6 ?_;conv=>whnf)|(rw[t6];conv=>whnf)))
   refine fv 9 25 (fun _ h=>h) rfl rfl hz.symm ?_
   refine bA hE ?_
   conv=>whnf
   (repeat(first|(refine aC Q3 ?_;conv=>whnf)|(rw[t2];conv=>whnf)|(rw[Nat.zero_add];conv=>whnf)))
   refine⟨r - (i+1),cE [(62,1002)],[1,2,3,7,17,18],[15,62],aa,av,i+1,rfl,aE,rfl, ?_⟩
   rw[e3];rfl
 ·have t1:=dA aE
  obtain rfl:i=r:=aa
  rw[List.take_of_length_le aa]
  (repeat(first|(refine ay t1 ?_;conv=>whnf)|(rw[t1];conv=>whnf)))
  refine⟨fun a' W' hR=> ?_⟩
  have Ka:=ym (jj:=15) (pp:=0) (k:=1002) (n:=i) (fun _ h=>h) rfl aI rfl rfl (Hb L) (by rw[List.length_map,lL]) hR
  have EV:=na (j:=15) rfl (fun _ z hz=>Ms z hz) Ka
  have hR3:=lf 7 15 (fun _ h=>h) rfl rfl rfl EV
  refine(bA hE ?_).run a' W' hR3
  rw[←hL]
  conv=>whnf
  skip;exact Q4
theorem p6 {r m c:Nat} {M:Nat→List Rat} {d:Rat} (hr:r≤2000) (hmc:m≤c) (hc:c≤4096) (hM:∀i,i<r→(M i).length=c∧∀k,k<m→(M i).getD k 0=0):
  ab Tryz.prog 223 [nU r m c M [] d] [] (nU r m c M [] d) [] []:=by
 have yO:=jC r M
 have ks:=fM 0
 refine bT [] Tryz.func223 ?_
 intro W0 w0 ρ0 hE
 conv=>whnf
 (repeat(first|(refine ah Q5 ?_;conv=>whnf)|(refine ah Q7 ?_;conv=>whnf)|(refine ah uq ?_;conv=>whnf)))
 refine aj hE (fun k=>k) [0,9,10] [] (fun m' fr hp=>∃k:Nat,m'=m - k∧k≤m∧fr=[(0,nU r m c M [] d),(9,iv m),(10,iv k)]∧hp=[]) m ?_ ?_ ?_
 ·kernel_rfl
 ·exact⟨0,rfl,Nat.zero_le _,rfl,rfl⟩
 rintro m' _ _ ⟨k,rfl,hk,rfl,rfl⟩
 conv=>whnf
 by_cases aE:k<m
 ·have t1:=dx aE
  have t2:=br (i:=k) aa
  (repeat((first|refine ao t1 ?_|refine ah Q8 ?_|refine ah Q5 ?_|refine ah Q7 ?_|refine ah uq ?_|rw[t1]);conv=>whnf))
  refine aj hE (fun k=>k) [0,3,4,5,9,10] [] (fun m' fr hp=>∃i:Nat,m'=r - i∧i≤r∧fr=[(0,nU r m c M [] d),(3,iv k),(4,iv (0:Nat)),(5,iv i),(9,iv m),(10,iv k)]∧hp=[]) r ?_ ?_ ?_
  ·kernel_rfl
  ·exact⟨0,rfl,Nat.zero_le _,rfl,rfl⟩
  rintro m' _ _ ⟨i,rfl,hi,rfl,rfl⟩
  conv=>whnf
  by_cases y9:i<r
  ·have t3:decide ((i:Int)<(((List.range r).map M).length:Int))=true:=by rw[yO];exact dx y9
   have t4:=br (i:=i) aa
   have g2:=yn (M:=M) y9
   obtain⟨g3,g4⟩:=hM i y9
   have g5:=g4 k aE
   have t5:((0:Rat).num.sign==0)=true:=rfl
   have b1:i<((List.range r).map M).length:=aa
   clear hM g4
   (repeat((first|refine ag rfl rfl ?_|refine aS (by assumption) ?_|refine ao t3 ?_|refine ah Q8 ?_|refine ah og ?_|refine ah Q5 ?_|refine ah mP ?_|refine ah Q7 ?_|refine ah uq ?_|rw[t3]|rw[t4]|rw[g2]|rw[g5]|rw[t5]);conv=>whnf))
   exact⟨r - (i+1),fun k=>k,[0,3,4,5,9,10],[],aa,av,i+1,rfl,y9,rfl,rfl⟩
  ·have t3:decide ((i:Int)<(((List.range r).map M).length:Int))=false:=by rw[yO];exact dA y9
   (repeat((first|refine ay t3 ?_|refine ah Q8 ?_|refine ah Q5 ?_|refine ah Q7 ?_|refine ah uq ?_|rw[t3]|rw[t2]);conv=>whnf))
   exact⟨m - (k+1),fun k=>k,[0,9,10],[],aa,av,k+1,rfl,aE,rfl,rfl⟩
 ·have t1:=dA aE
  (repeat(first|(refine ay t1 ?_;conv=>whnf)));exact Q4
theorem FN {n p:Nat}:(zL n).getD p 0=0:=by
 rw[zL,List.getD_eq_getElem?_getD,List.getElem?_replicate]
 split<;>rfl
theorem Hc {r c more:Nat} {b:Mx}:∀i,i<r→(aR (c+more) (dN (zL (r*c)) c b) i).length=c+more∧∀k,k<c→(aR (c+more) (dN (zL (r*c)) c b) i).getD k 0=0:=fun i hi=>by
 refine⟨bC _ _,fun k hk=> ?_⟩
 rw[show(aR (c+more) (dN (zL (r*c)) c b) i).getD k 0=dN (zL (r*c)) c b i k from dn aa,gH (r:=r) i k hi hk]
 exact FN
theorem AG {r c:Nat} (hr:r≤40) (hc:c≤40):∃red:List Rat,ab Tryz.prog 113 [mA r c (zL (r*c))] [] (.ck [mA r c red,cO .i64 [],iv 0]) [] []:=by
 have ha:dV r c (zL (r*c)):=⟨aa,aa,fD _⟩
 have k1:=er ha
 have kA:=AE 0 (zL (r*c)) (fun _ _=>0) 222 aa ha hc aa (fun i k hi hk=>absurd hk (Nat.not_lt_zero _))
 have kR:=p6 (m:=c) (d:=1) (show r≤2000 by omega) (Nat.le_add_right c 0) aa (Hc (r:=r) (c:=c) (more:=0) (b:=fun _ _=>0))
 have k4:=Fx (r:=r) (m:=c) (c:=c+0) (n:=c) (M:=aR (c+0) (dN (zL (r*c)) c fun _ _=>0)) (pv:=[]) (d:=1) (fun i _=>bC _ _) 0 aa aa aa
 simp only[Nat.zero_add]at k4
 refine⟨mk r c fun i k=>(aR (c+0) (dN (zL (r*c)) c fun _ _=>0) i).getD k 0, ?_⟩
 refine fZ [1] Tryz.func113 ?_
 intro w0 ρ0 hE
 conv=>whnf
 (repeat((first|refine ae rfl rfl ?_|refine aq av ?_|refine aS (by assumption) ?_|rw[bne_self_eq_false]|refine ah Q5 ?_|refine ah Q7 ?_|refine ah uq ?_);conv=>whnf));exact Q4
theorem Po {r c:Nat} (hr:r≤40) (hc:c≤40):ab Tryz.prog 115 [mA r c (zL (r*c))] [] (.ck [iv 0,iv 0]) [] []:=by
 obtain⟨red,k1⟩:=AG hr hc
 refine fZ [1] Tryz.func115 ?_
 intro w0 ρ0 hE
 conv=>whnf
 (repeat(first|(refine aS (by assumption) ?_;conv=>whnf)|(refine ah Q8 ?_;conv=>whnf)|(refine ah Q5 ?_;conv=>whnf)));exact Q4
theorem Iq {r c:Nat} (hr:r≤40) (hc:c≤40):∃l:List (List Rat),ab Tryz.prog 122 [mA r c (zL (r*c))] [] (.ck [bF 1 aN l,iv 0]) [] []:=by
 have ha:dV r c (zL (r*c)):=⟨aa,aa,fD _⟩
 have k1:=er ha
 have kA:=AE 0 (zL (r*c)) (fun _ _=>0) 222 aa ha hc aa (fun i k hi hk=>absurd hk (Nat.not_lt_zero _))
 have kR:=p6 (m:=c) (d:=1) (show r≤2000 by omega) (Nat.le_add_right c 0) aa (Hc (r:=r) (c:=c) (more:=0) (b:=fun _ _=>0))
 have k4:=sR (r:=r) (m:=c) (c:=c+0) (M:=aR (c+0) (dN (zL (r*c)) c fun _ _=>0)) (sp:=[]) (d:=1) (fun i _=>bC _ _) aa aa aa (Nat.zero_le _) (fun j hj=>absurd hj (Nat.not_lt_zero _))
 refine⟨List.map (yP (aR (c+0) (dN (zL (r*c)) c fun _ _=>0)) [] c) (aU [] c), ?_⟩
 refine fZ [1] Tryz.func122 ?_
 intro w0 ρ0 hE
 conv=>whnf
 (repeat((first|refine ae rfl rfl ?_|refine aS (by assumption) ?_|rw[bne_self_eq_false]|refine ah Q5 ?_);conv=>whnf));exact Q4
theorem Mt {r c:Nat} (hr:r≤40) (hc:c≤40):∃(X:List Rat) (l:List (List Rat)),ab Tryz.prog 126 [mA r c (zL (r*c)),aN (zL r)] [] (.ck [.agg [aN X,bF 1 aN l],iv 0]) [] []:=by
 have ha:dV r c (zL (r*c)):=⟨aa,aa,fD _⟩
 have hb:=fD r
 have k1:=At ha hb
 obtain⟨s,hs⟩:∃s:St,s=⟨dN (zL (r*c)) c (fun i _=>(zL r).getD i 0),[],1⟩:=⟨_,rfl⟩
 have kA:=AF 1 (zL (r*c)) (fun i _=>(zL r).getD i 0) 233 (gX [aN (zL r)]) aa ha hc aa (fun i k hi _=>yr i k (by rw[hb];exact hi))
 have kR:=p6 (m:=c) (d:=1) (show r≤2000 by omega) (Nat.le_add_right c 1) aa (Hc (r:=r) (c:=c) (more:=1) (b:=fun i _=>(zL r).getD i 0))
 have hz:∀i,s.aH.length≤i→i<r→s.w i c=0:=fun i _ hi=>by rw[hs];exact(uO (k:=0) (a:=zL (r*c)) (b:=fun i _=>(zL r).getD i 0)).trans FN
 have eR:s.aH.length≤r:=by rw[hs];exact Nat.zero_le _
 have iC:∀j,j<s.aH.length→s.aH.getD j 0<c:=fun j hj=>by rw[hs]at hj;exact absurd hj (Nat.not_lt_zero _)
 replace kA:ab Tryz.prog 221 [mA r c (zL (r*c)),iv (1:Nat),.clo 233 [] [bE [aN (zL r)]]] [] (nU r c (c+1) (aR (c+1) s.w) (s.aH.map cY) s.d) [] []:=by rw[hs];exact kA
 replace kR:ab Tryz.prog 223 [nU r c (c+1) (aR (c+1) s.w) (s.aH.map cY) s.d] [] (nU r c (c+1) (aR (c+1) s.w) (s.aH.map cY) s.d) [] []:=by rw[hs];exact kR
 have k4:=sR (r:=r) (m:=c) (c:=c+1) (M:=aR (c+1) s.w) (sp:=s.aH) (d:=s.d) (fun i _=>bC _ _) aa aa aa eR iC
 have yO:=jC r (aR (c+1) s.w)
 have gW:(s.aH.map cY).length=s.aH.length:=List.length_map _
 clear hs
 generalize hq:zL (r*c)=a at*
 generalize I5:zL r=b at*
 clear hq I5
 refine⟨xS (aR (c+1) s.w) s.aH c c s.aH.length,(aU s.aH c).map (yP (aR (c+1) s.w) s.aH c), ?_⟩
 refine fZ [2,3,100017] Tryz.func126 ?_
 intro w0 ρ0 hE
 conv=>whnf
 (repeat((first|refine ae rfl rfl ?_|refine aq av ?_|refine aS (by assumption) ?_|rw[bne_self_eq_false]|refine ah Q8 ?_|refine ah Q5 ?_|refine ah Q7 ?_|refine ah Ga ?_|refine ah uq ?_|refine ah yN ?_|rw[yO]|rw[gW]|rw[Int.toNat_natCast]);conv=>whnf))
 generalize hTL:List.take (r - s.aH.length) (List.drop s.aH.length ((List.range r).map (aR (c+1) s.w)))=TL
 have L3:TL.length=r - s.aH.length:=by rw[←hTL];exact nm
 have IL:∀i,s.aH.length+i<r→TL.getD i []=aR (c+1) s.w (s.aH.length+i):=fun i hi=>by rw[←hTL];exact nk hi
 refine aj hE (fun k=>k) [2,4,7,33,34,35] [4] (fun m fr hp=>∃i:Nat,m=r - i∧s.aH.length+i≤r∧fr=[(2,bE (mC r c a)),(4,.ptr 4 0 0 0),(7,nU r c (c+1) (aR (c+1) s.w) (s.aH.map cY) s.d),(33,bF 1 aN TL),(34,iv (r - s.aH.length:Nat)),(35,iv i)]∧hp=[(4,FB)]) r ?_ ?_ ?_
 ·kernel_rfl
 ·exact⟨0,rfl,aa,by rw[←L3];rfl,rfl⟩
 rintro m _ _ ⟨i,rfl,hi,rfl,rfl⟩
 conv=>whnf
 by_cases aE:i<r - s.aH.length
 ·have t1:=dx aE
  have t2:=br (i:=i) aa
  have g1:=IL i aa
  have g2:(aR (c+1) s.w (s.aH.length+i)).length=c+1:=bC _ _
  have g3:(aR (c+1) s.w (s.aH.length+i)).getD c 0=s.w (s.aH.length+i) c:=dn (Nat.lt_succ_self c)
  have k2:=fM (s.w (s.aH.length+i) c)
  have t3:((s.w (s.aH.length+i) c).num.sign != 0)=false:=by rw[hz _ aa aa];rfl
  (repeat((first|refine aS (by assumption) ?_|refine ao t1 ?_|refine ay t3 ?_|refine ah og ?_|refine ah Q5 ?_|refine ah mP ?_|refine ah Q7 ?_|rw[t1]|rw[t2]|rw[g1]|rw[g3]|rw[t3]);conv=>whnf))
  exact⟨r - (i+1),fun k=>k,[2,4,7,33,34,35],[4],aa,av,i+1,rfl,aa,rfl,rfl⟩
 ·have t1:=dA aE
  (repeat((first|refine aC Q3 ?_|refine ay t1 ?_|refine ah Q8 ?_|refine ah Q5 ?_|refine ah Q7 ?_|refine ah uq ?_|rw[t1]|rw[gW]|rw[Int.toNat_natCast]);conv=>whnf))
  generalize hM:aR (c+1) s.w=M at*
  refine aj hE (fun k=>k) [2,4,7,10,54,55,56] [4,50] (fun m fr hp=>∃i:Nat,m=s.aH.length - i∧i≤s.aH.length∧fr=[(2,bE (mC r c a)),(4,.ptr 4 0 0 0),(7,nU r c (c+1) M (s.aH.map cY) s.d),(10,.aO 50 5 0 c),(54,cO .i64 (s.aH.map cY)),(55,iv s.aH.length),(56,iv i)]∧hp=[(4,FB),(50,cP (xS M s.aH c c i))]) s.aH.length ?_ ?_ ?_
  ·kernel_rfl
  ·exact⟨0,rfl,Nat.zero_le _,rfl,rfl⟩
  rintro m _ _ ⟨j,rfl,hj,rfl,rfl⟩
  conv=>whnf
  by_cases hjt:j<s.aH.length
  ·have t4:=dx hjt
   have t5:=br (i:=j) aa
   have g1:(s.aH.map cY).getD j 0=((s.aH.getD j 0:Nat):Int):=by simp[List.getD_eq_getElem?_getD,hjt]
   have g2:=yn (M:=M) (show j<r by omega)
   have g3:(M j).length=c+1:=by rw[←hM];exact bC _ _
   have g4:=iC j hjt
   have g5:=ph M s.aH c c j
   clear k4 k1
   (repeat((first|refine aq av ?_|refine bg Q3 ?_|refine aC Q3 ?_|refine ao t4 ?_|refine ah og ?_|refine ah Q5 ?_|refine ah jw ?_|refine ah mP ?_|refine ah Q7 ?_|refine ah uq ?_|rw[t4]|rw[t5]|rw[g1]|rw[g2]|rw[Int.toNat_natCast]|rw[Nat.zero_add]);conv=>whnf))
   exact⟨s.aH.length - (j+1),fun k=>k,[2,4,7,10,54,55,56],[4,50],aa,av,j+1,rfl,hjt,rfl,rfl⟩
  ·have t4:=dA hjt
   obtain rfl:j=s.aH.length:=aa
   (repeat(first|(refine ay t4 ?_;conv=>whnf)|(rw[t4];conv=>whnf)))
   refine fv 10 50 (fun _ h=>h) rfl rfl (ph M s.aH c c _).symm ?_
   refine bA hE ?_
   conv=>whnf
   (repeat(first|(refine aS (by assumption) ?_;conv=>whnf)));exact Q4
theorem FO {r c:Nat} (hr:r≤40) (hc:c≤40):ab Tryz.prog 127 [mA r c (zL (r*c)),aN (zL r)] [] (.ck [aN [],iv 6]) [] []:=by
 have ha:dV r c (zL (r*c)):=⟨aa,aa,fD _⟩
 have hb:=fD r
 have k1:=At ha hb
 obtain⟨s,hs⟩:∃s:St,s=⟨dN (zL (r*c)) c (IM (zL r)),[],1⟩:=⟨_,rfl⟩
 have t0:IntKind.i64.wrap (1+(r:Int))=((1+r:Nat):Int):=by rw[wrap_i64 aa aa];omega
 have kA:=AF (1+r) (zL (r*c)) (IM (zL r)) 234 (gX [aN (zL r)]) aa ha hc aa (fun i k hi _=>qX i k (by rw[hb];exact hi) aa)
 have kR:=p6 (m:=c) (d:=1) (show r≤2000 by omega) (Nat.le_add_right c (1+r)) aa (Hc (r:=r) (c:=c) (more:=1+r) (b:=IM (zL r)))
 have hz:∀i,s.aH.length≤i→i<r→s.w i c=0:=fun i _ hi=>by rw[hs];exact(uO (k:=0) (a:=zL (r*c)) (b:=IM (zL r))).trans FN
 have eR:s.aH.length≤r:=by rw[hs];exact Nat.zero_le _
 replace kA:ab Tryz.prog 221 [mA r c (zL (r*c)),iv (1+r:Nat),.clo 234 [] [bE [aN (zL r)]]] [] (nU r c (c+(1+r)) (aR (c+(1+r)) s.w) (s.aH.map cY) s.d) [] []:=by rw[hs];exact kA
 replace kR:ab Tryz.prog 223 [nU r c (c+(1+r)) (aR (c+(1+r)) s.w) (s.aH.map cY) s.d] [] (nU r c (c+(1+r)) (aR (c+(1+r)) s.w) (s.aH.map cY) s.d) [] []:=by rw[hs];exact kR
 have yO:=jC r (aR (c+(1+r)) s.w)
 have gW:(s.aH.map cY).length=s.aH.length:=List.length_map _
 clear hs
 generalize hq:zL (r*c)=a at*
 generalize I5:zL r=b at*
 clear hq I5
 refine fZ [2,3] Tryz.func127 ?_
 intro w0 ρ0 hE
 conv=>whnf
 (repeat((first|refine ae rfl rfl ?_|refine aq av ?_|refine aS (by assumption) ?_|rw[bne_self_eq_false]|refine ah Q8 ?_|refine ah Q5 ?_|refine ah Q7 ?_|refine ah Ga ?_|refine ah uq ?_|refine ah yN ?_|rw[t0]|rw[yO]|rw[gW]|rw[Int.toNat_natCast]);conv=>whnf))
 generalize hTL:List.take (r - s.aH.length) (List.drop s.aH.length ((List.range r).map (aR (c+(1+r)) s.w)))=TL
 have L3:TL.length=r - s.aH.length:=by rw[←hTL];exact nm
 have IL:∀i,s.aH.length+i<r→TL.getD i []=aR (c+(1+r)) s.w (s.aH.length+i):=fun i hi=>by rw[←hTL];exact nk hi
 refine aj hE (fun k=>k) [2,35,36,37] [] (fun m fr hp=>∃i:Nat,m=r - i∧s.aH.length+i≤r∧fr=[(2,bE (mC r c a)),(35,bF 1 aN TL),(36,iv (r - s.aH.length:Nat)),(37,iv i)]∧hp=[]) r ?_ ?_ ?_
 ·kernel_rfl
 ·exact⟨0,rfl,aa,by rw[←L3];rfl,rfl⟩
 rintro m _ _ ⟨i,rfl,hi,rfl,rfl⟩
 conv=>whnf
 by_cases aE:i<r - s.aH.length
 ·have t1:=dx aE
  have t2:=br (i:=i) aa
  have g1:=IL i aa
  have g2:(aR (c+(1+r)) s.w (s.aH.length+i)).length=c+(1+r):=bC _ _
  have g3:(aR (c+(1+r)) s.w (s.aH.length+i)).getD c 0=s.w (s.aH.length+i) c:=dn aa
  have k2:=fM (s.w (s.aH.length+i) c)
  have t3:((s.w (s.aH.length+i) c).num.sign==0)=true:=by rw[hz _ aa aa];rfl
  (repeat((first|refine aS (by assumption) ?_|refine ao t1 ?_|refine ao t3 ?_|refine ah og ?_|refine ah Q5 ?_|refine ah mP ?_|refine ah Q7 ?_|rw[t1]|rw[t2]|rw[g1]|rw[g3]|rw[t3]);conv=>whnf))
  exact⟨r - (i+1),fun k=>k,[2,35,36,37],[],aa,av,i+1,rfl,aa,rfl,rfl⟩
 ·have t1:=dA aE
  (repeat(first|(refine ay t1 ?_;conv=>whnf)));exact Q21
section
variable {r c:Int} {a b:List Rat} {e:Int}
theorem AH (hn:a.length<1099511627776) (h:cp r c a.length≠0):ab Tryz.prog 113 [mA r c a] [] (.ck [mA 0 0 [],cO .i64 [],iv (cp r c a.length)]) [] []:=by
 have k1:=ir r c a hn
 have t1:(cp r c a.length != 0)=true:=bne_iff_ne.2 h
 refine fZ [1] Tryz.func113 ?_
 intro w0 ρ0 hE
 conv=>whnf
 (repeat(first|(refine aS (by assumption) ?_;conv=>whnf)|(refine ao t1 ?_;conv=>whnf)|(refine ah Q5 ?_;conv=>whnf)));exact Zs
theorem Pp (hn:a.length<1099511627776) (h:cp r c a.length≠0):ab Tryz.prog 115 [mA r c a] [] (.ck [iv 0,iv (cp r c a.length)]) [] []:=by
 have k1:=AH hn h
 refine fZ [1] Tryz.func115 ?_
 intro w0 ρ0 hE
 conv=>whnf
 (repeat(first|(refine aS (by assumption) ?_;conv=>whnf)|(refine ah Q8 ?_;conv=>whnf)|(refine ah Q5 ?_;conv=>whnf)));exact Q4
theorem Ir (hn:a.length<1099511627776) (h:cp r c a.length≠0):ab Tryz.prog 122 [mA r c a] [] (.ck [bF 1 aN [],iv (cp r c a.length)]) [] []:=by
 have k1:=ir r c a hn
 have t1:(cp r c a.length != 0)=true:=bne_iff_ne.2 h
 refine fZ [1] Tryz.func122 ?_
 intro w0 ρ0 hE
 conv=>whnf
 (repeat(first|(refine aS (by assumption) ?_;conv=>whnf)|(refine ao t1 ?_;conv=>whnf)|(refine ah Q5 ?_;conv=>whnf)));exact Q21
theorem Mu (hn:a.length<1099511627776) (h:cp r c a.length≠0):ab Tryz.prog 232 [mA r c a,aN b] [] (iv (cp r c a.length)) [] []:=by
 have k1:=ir r c a hn
 have t1:(cp r c a.length != 0)=true:=bne_iff_ne.2 h
 refine bT [2] Tryz.func232 ?_
 intro W0 w0 ρ0 hE
 conv=>whnf
 (repeat(first|(refine aS (by assumption) ?_;conv=>whnf)|(refine ao t1 ?_;conv=>whnf)|(refine ah Q5 ?_;conv=>whnf)));exact Q4
theorem Zj (hn:a.length<1099511627776) (h:cp r c a.length=0) (hb:b.length≤2048) (hr:(b.length:Int)≠r):ab Tryz.prog 232 [mA r c a,aN b] [] (iv 1) [] []:=by
 have k1:=ir r c a hn
 rw[h]at k1
 have t1:decide ((b.length:Int)>2048)=false:=decide_eq_false aa
 have t2:((b.length:Int) != r)=true:=bne_iff_ne.2 hr
 refine bT [2] Tryz.func232 ?_
 intro W0 w0 ρ0 hE
 conv=>whnf
 (repeat((first|refine ae rfl rfl ?_|refine aS (by assumption) ?_|rw[bne_self_eq_false]|refine ay t1 ?_|refine ao t2 ?_|refine ah Q8 ?_|refine ah Q5 ?_|refine ah Q7 ?_);conv=>whnf));exact Q4
theorem Zk (hn:a.length<1099511627776) (h:cp r c a.length=0) (hb:2048<b.length):ab Tryz.prog 232 [mA r c a,aN b] [] (iv 3) [] []:=by
 have k1:=ir r c a hn
 rw[h]at k1
 have t1:decide ((b.length:Int)>2048)=true:=decide_eq_true aa
 refine bT [2] Tryz.func232 ?_
 intro W0 w0 ρ0 hE
 conv=>whnf
 (repeat((first|refine ae rfl rfl ?_|refine aS (by assumption) ?_|rw[bne_self_eq_false]|refine ao t1 ?_|refine ah Q8 ?_|refine ah Q5 ?_);conv=>whnf));exact Q4
theorem yH (k1:ab Tryz.prog 232 [mA r c a,aN b] [] (iv e) [] []) (h:e≠0):ab Tryz.prog 126 [mA r c a,aN b] [] (.ck [.agg [aN [],bF 1 aN []],iv e]) [] []:=by
 have t1:(e != 0)=true:=bne_iff_ne.2 h
 refine fZ [2,3] Tryz.func126 ?_
 intro w0 ρ0 hE
 conv=>whnf
 (repeat(first|(refine aS (by assumption) ?_;conv=>whnf)|(refine ao t1 ?_;conv=>whnf)|(refine ah Q5 ?_;conv=>whnf)));exact Zs
theorem qZ (k1:ab Tryz.prog 232 [mA r c a,aN b] [] (iv e) [] []) (h:e≠0):ab Tryz.prog 127 [mA r c a,aN b] [] (.ck [aN [],iv e]) [] []:=by
 have t1:(e != 0)=true:=bne_iff_ne.2 h
 refine fZ [2,3] Tryz.func127 ?_
 intro w0 ρ0 hE
 conv=>whnf
 (repeat(first|(refine aS (by assumption) ?_;conv=>whnf)|(refine ao t1 ?_;conv=>whnf)|(refine ah Q5 ?_;conv=>whnf)));exact Q21
theorem Is (hn:a.length<1099511627776) (h:cp r c a.length≠0):ab Tryz.prog 227 [mA r c a] [] (iv (cp r c a.length)) [] []:=by
 have k1:=ir r c a hn
 have t1:(cp r c a.length != 0)=true:=bne_iff_ne.2 h
 refine bT [1] Tryz.func227 ?_
 intro W0 w0 ρ0 hE
 conv=>whnf
 (repeat(first|(refine aS (by assumption) ?_;conv=>whnf)|(refine ao t1 ?_;conv=>whnf)|(refine ah Q5 ?_;conv=>whnf)));exact Q4
theorem It (hn:a.length<1099511627776) (h:cp r c a.length=0) (Jd:r≠c):ab Tryz.prog 227 [mA r c a] [] (iv 1) [] []:=by
 have k1:=ir r c a hn
 rw[h]at k1
 have t1:(r != c)=true:=bne_iff_ne.2 Jd
 refine bT [1] Tryz.func227 ?_
 intro W0 w0 ρ0 hE
 conv=>whnf
 (repeat((first|refine ae rfl rfl ?_|refine aS (by assumption) ?_|rw[bne_self_eq_false]|refine ao t1 ?_|refine ah Q5 ?_|refine ah Q7 ?_);conv=>whnf));exact Q4
theorem yI (k1:ab Tryz.prog 227 [mA r c a] [] (iv e) [] []) (h:e≠0):ab Tryz.prog 129 [mA r c a] [] (.ck [mA 0 0 [],iv e]) [] []:=by
 have t1:(e != 0)=true:=bne_iff_ne.2 h
 refine fZ [1] Tryz.func129 ?_
 intro w0 ρ0 hE
 conv=>whnf
 (repeat(first|(refine aS (by assumption) ?_;conv=>whnf)|(refine ao t1 ?_;conv=>whnf)|(refine ah Q5 ?_;conv=>whnf)));exact Zs
theorem Mv (k1:ab Tryz.prog 227 [mA r c a] [] (iv e) [] []) (h:e≠0):ab Tryz.prog 118 [mA r c a] [] (.ck [.frac 0,iv e]) [] []:=by
 have t1:(e != 0)=true:=bne_iff_ne.2 h
 refine fZ [1] Tryz.func118 ?_
 intro w0 ρ0 hE
 conv=>whnf
 (repeat(first|(refine aS (by assumption) ?_;conv=>whnf)|(refine ao t1 ?_;conv=>whnf)|(refine ah Q5 ?_;conv=>whnf)));exact Q4
end
end Go.Proofs.YtfpagioknjjacaaGreatDoor
namespace Go.Sx
set_option linter.unusedSimpArgs false
set_option linter.unusedVariables false
theorem Iu {P:Program} {o:Oper} {ft:List (Nat×SV)} {fk:List (Nat×aF)} {t e:TypeId} {x y:Operand} {ti te:TI} {kl kc:IntKind} {l m:Int} (n:Nat) (ho:o.op= .makeSlice t x y) (hx:bp ft x (.val (.int kl l))) (hy:bp ft y (.val (.int kc m))) (hl:l=n) (hm:m=n)
  (ht:aG P t ti) (hk:ti.kind= .aO e) (he:aG P e te) (hz:te.zero=[.frac 0]) (hs:te.size=5) (hb:(te.bytes:Int)*n≤281474976710656∧(n:Int)≤9223372036854775807):bS P o ft fk (aN (List.replicate n 0)) [] []:=by
 subst hl hm;exact CY ho hx hy ht hk he hz hs hb
end Go.Sx
namespace Go.Proofs.YtfpagioknjjacaaGreatDoor
open Go.Sx
set_option linter.unusedSimpArgs false
set_option linter.unusedVariables false
set_option maxRecDepth 100000
set_option maxHeartbeats 40000000
structure aex (p:Prop):Prop where
 out:p
theorem mi {fk:List (Nat×aF)} {o:Oper} {n:Nat} (h:(2049:Int)=(n:Int)) (ho:o.op= .makeSlice 54 (.const (.int .i64 2049)) (.const (.int .i64 2049))):bS Tryz.prog o [] fk (aN (List.replicate n 0)) [] []:=
 Iu n ho (ak rfl) (ak rfl) h h (jz rfl) rfl (jz rfl) rfl rfl (by simp only[CX];omega)
theorem FP {a b N:Nat} (h:a*b≤39) (ha:a≤N) (hb:a≤b):a≤6:=by
 refine Nat.le_of_not_lt fun g=> ?_
 have:=Nat.mul_le_mul (show 7≤a by omega) (show 7≤b by omega)
 omega
end Go.Proofs.YtfpagioknjjacaaGreatDoor
