/- The texts Qj. -/
import Derived.Test.YtfpagioknjjacaaGreatDoorQMElimsKnown9
import Derived.Test.YtfpagioknjjacaaGreatDoorQMElimsKnown10
import Derived.Test.YtfpagioknjjacaaGreatDoorQMElimsKnown5
namespace Go.Proofs.YtfpagioknjjacaaGreatDoor
open Go.Sx
set_option linter.unusedSimpArgs false
set_option linter.unusedVariables false
set_option maxRecDepth 100000
set_option maxHeartbeats 40000000
theorem vt {ρ:bU}:∀(xs:List Rat) (z:List (List Value)),aw ρ (xs.map .frac) z→z=xs.map bD
 |[],z,h=>by simpa only[List.map_nil,aw]using h
 |x::xs,z,h=>by
  simp only[List.map_cons,aw]at h
  obtain⟨y,r,rfl,h1,h2⟩:=h
  rw[vt xs r h2]
  simp only[aL]at h1
  rw[h1,List.map_cons]
theorem fG (xs:List Rat):∀(ρ:bU) z,aw (cR ρ.bf ρ.cw) (xs.map .frac) z→(∀x∈xs.map SV.frac,x.width=5)→Go.Sx.Rows ρ 5 (.cb xs) z:=
 fun ρ z h _=>⟨rfl,vt xs z h⟩
def dN (a:List Rat) (c:Nat) (b:Mx):Mx:=fun i q=>if q<c then el a c i q else b i (q - c)
def oi (a:List Rat) (c:Nat) (b:Mx) (i k:Nat):Nat→Rat:=fun q=>if q<c then el a c i q else if q<c+k then b i (q - c)else 0
theorem BW {n:Nat} {f:Nat→Rat} {l:List Rat} (hl:l.length=n) (h:∀q,q<n→l.getD q 0=f q):l=wh n f:=uJ hl h
theorem LF {l m:List Rat} {q:Nat}:(l++m).getD q 0=if q<l.length then l.getD q 0 else m.getD (q - l.length) 0:=by
 simp only[List.getD_eq_getElem?_getD]
 by_cases h:q<l.length
 ·rw[if_pos h,List.getElem?_append_left h]
 ·rw[if_neg h,List.getElem?_append_right aa]
theorem nh {r c more:Nat} {a:List Rat} (b:Mx) {i:Nat} (hi:i<r) (ha:a.length=r*c):db a c i++List.replicate more 0=wh (c+more) (oi a c b i 0):=by
 have hl:=c8 hi ha
 refine BW (by simp[hl]) fun q hq=> ?_
 rw[LF,hl]
 unfold oi
 by_cases h:q<c
 ·rw[if_pos h,if_pos h,iw h]
 ·rw[if_neg h,if_neg h,if_neg aa]
  simp[List.getD_eq_getElem?_getD,List.getElem?_replicate]
  split<;>rfl
theorem sJ {c more k:Nat} {a:List Rat} {b:Mx} {i:Nat} (hk:k<more):(wh (c+more) (oi a c b i k)).set (c+k) (b i k)=wh (c+more) (oi a c b i (k+1)):=by
 refine BW (by rw[List.length_set,bC]) fun q hq=> ?_
 by_cases e:q=c+k
 ·subst e
  rw[Fj (by rw[bC];omega)]
  unfold oi
  rw[if_neg aa,if_pos aa,Nat.add_sub_cancel_left]
 ·rw[sr e,dn hq]
  unfold oi
  by_cases h:q<c
  ·rw[if_pos h,if_pos h]
  ·rw[if_neg h,if_neg h]
   by_cases g:q<c+k
   ·rw[if_pos g,if_pos aa]
   ·rw[if_neg g,if_neg aa]
theorem sK {c more:Nat} {a:List Rat} {b:Mx} {i:Nat}:wh (c+more) (oi a c b i more)=wh (c+more) (dN a c b i):=by
 refine BW (bC _ _) fun q hq=> ?_
 rw[dn hq]
 unfold oi dN
 by_cases h:q<c
 ·rw[if_pos h,if_pos h]
 ·rw[if_neg h,if_neg h,if_pos hq]
def ZB (c n:Nat) (w:Mx):Nat→List (Nat×aF)
 |0=>[(1001,⟨269,true,.one [.val (.slice none 0 0),iv c,.val (.slice none 0 0),.frac 1]⟩)]
 |i+1=>(1001,⟨269,true,.one [.aO 1002 1 0 (i+1),iv c,.val (.slice none 0 0),.frac 1]⟩)::(1002,II true (LC (i+1) n))::LD (aR n w) (i+1) 0
def ksB:Nat→List Nat
 |0=>[1001]
 |i+1=>1001::1002::vr (i+1)
theorem pc {c more:Nat} {l:List Rat} (hl:l.length=c):vh (.cb (List.replicate (c+more) 0)) 0 (.cb l) 0 c=some (.cb (l++List.replicate more 0)):=by
 simp only[vh,List.take_zero,List.nil_append,List.drop_zero,Nat.zero_add,List.drop_replicate,Nat.add_sub_cancel_left]
 rw[List.take_of_length_le aa]
theorem yl {r c:Nat} (more:Nat) (a:List Rat) (b:Mx) (g:FuncId) (hr:r≤6) (Hj:1≤r) (ha:dV r c a) (hc:c≤40) (hm:more≤40)
  (hb:∀i k,i<r→k<more→ab Tryz.prog g ([]++([iv (i:Nat),iv (k:Nat)]++[])) [] (.frac (b i k)) [] []):
  ab Tryz.prog 221 [mA r c a,iv more,.clo g [] []] [] (.ptr 1001 0 0 0) (H4 r c (c+more) (dN a c b)) []:=by
 have t0:IntKind.i64.wrap ((c:Int)+(more:Int))=((c+more:Nat):Int):=by rw[wrap_i64 aa aa];omega
 have k0:ab Tryz.prog 18 [iv 1] [] (.frac 1) [] []:=dI 1 aI aI
 rcases(show r=1∨r=2∨r=3∨r=4∨r=5∨r=6 by omega)with e1|e1|e1|e1|e1|e1
 all_goals first|omega|skip
 all_goals
  rw[e1]
  refine qP (Z:=[3]) aJ bO Tryz.func221 rfl av (fE.of rfl rfl rfl rfl rfl rfl rfl rfl rfl rfl rfl) rfl (bo.id rfl) ?_
  intro W0 w0 ρ0 hE
  conv=>whnf
  (repeat((first|refine aq av ?_|refine aS (by assumption) ?_|refine ah Q5 ?_|refine ah Q7 ?_);conv=>whnf))
  refine aj hE (fun k=>cond (Nat.beq k 15) 1001 k) [1,2,3,7,17,18] [15] (fun m' fr hp=>∃i:Nat,m'=r - i∧i≤r∧fr=[(1,iv more),(2,.clo g [] []),(3,bE (mC r c a)),(7,.ptr 1001 0 0 0),(17,iv r),(18,iv i)]∧hp=ZB c (c+more) (dN a c b) i) r ?_ ?_ ?_
  ·kernel_rfl
  ·exact⟨0,rfl,Nat.zero_le _,by subst e1;rfl,rfl⟩
  rintro m' _ _ ⟨i,rfl,hi,rfl,rfl⟩
  by_cases aE:i<r
  ·have hid:i=0∨i=1∨i=2∨i=3∨i=4∨i=5:=aa
   obtain⟨t3,t4,t5⟩:=xN (i:=i) (c:=c) aa aa
   have hl:=c8 aE ha.n
   have iF:=nh (more:=more) b aE ha.n
   have yM:(i+1)*c≤a.length:=by rw[ha.n];exact Nat.mul_le_mul_right c aE
   obtain⟨KB,hKB⟩:∃K,K=25::ksB i:=⟨_,rfl⟩
   obtain⟨KE,hKE⟩:∃K,K=(1001::62::vr i)++[25]:=⟨_,rfl⟩
   obtain⟨σ,hσ⟩:∃f:Nat→Nat,f=fun q=>cond (Nat.beq q 62) 1002 (cond (Nat.beq q 25) (3010+i) q):=⟨_,rfl⟩
   rcases hid with e3|e3|e3|e3|e3|e3
   all_goals first|omega|skip
   all_goals
    have s3:=t3
    have s4:=t4
    have s5:=t5
    have lJ:=hl
    have hX:List.take ((i+1)*c - i*c) (List.drop (i*c) a)=db a c i:=by rw[Nat.succ_mul,Nat.add_sub_cancel_left]
    have Fw:=yM
    rw[e3]at s3 s4 s5 lJ Fw hX
    rw[e1,e3]
    conv=>whnf
    (repeat(first|(refine ag rfl rfl ?_;conv=>whnf)|(refine aC Q3 ?_;conv=>whnf)|(refine ah Q5 ?_;conv=>whnf)|(refine ah Q7 ?_;conv=>whnf)|(refine ah Ga ?_;conv=>whnf)|(refine⟨_,[(25,cP (List.replicate (c+more) 0))],[],[(25,cP (db a c _++List.replicate more 0))],pb (c:=c) (n:=c+more) (m:=c) (i:=0) (k:=25) rfl rfl rfl (ak rfl) (ak rfl) (fG _) (aJ.get (t:=36) rfl) rfl (aJ.get (t:=52) rfl) (List.mem_cons_self ..) rfl rfl (by simp[en]) (by rw[List.length_map];exact lJ.symm) Q39 (Nat.min_eq_left (Nat.le_add_right _ _)).symm (pc lJ),dh rfl,aA,dd (List.mem_cons_self ..) rfl rfl rfl, ?_⟩;conv=>whnf)|(rw[t0];conv=>whnf)|(rw[s3];conv=>whnf)|(rw[s4];conv=>whnf)|(rw[s5];conv=>whnf)|(rw[hX];conv=>whnf)|(rw[Int.toNat_natCast];conv=>whnf)|(rw[Nat.zero_add];conv=>whnf)))
    refine aj hE (fun k=>k) [1,2,3,7,8,9,17,18,40,41] KB (fun m'' fr hp=>∃k:Nat,m''=more - k∧k≤more∧fr=[(1,iv more),(2,.clo g [] []),(3,bE (mC r c a)),(7,.ptr 1001 0 0 0),(8,iv i),(9,.aO 25 5 0 (c+more)),(17,iv r),(18,iv i),(40,iv more),(41,iv k)]∧hp=(25,cP (wh (c+more) (oi a c b i k)))::ZB c (c+more) (dN a c b) i) more ?_ ?_ ?_
    ·subst e1 e3 hKB;kernel_rfl
    ·exact⟨0,rfl,Nat.zero_le _,by subst e1 e3;rfl,by rw[←iF];subst e1 e3 hKB;rfl⟩
    rintro m'' _ _ ⟨k,rfl,hk,rfl,rfl⟩
    have hz:=bC (c+more) (oi a c b i k)
    by_cases pL:k<more
    ·have t6:=dx pL
     have t7:=br (i:=k) aa
     have t8:IntKind.i64.wrap ((c:Int)+(k:Int))=((c+k:Nat):Int):=by rw[wrap_i64 aa aa];omega
     have kb:=hb i k aE pL
     have qv:=sJ (a:=a) (b:=b) (c:=c) (i:=i) pL
     rw[e3]at hz kb
     rw[e1,e3]
     conv=>whnf
     (repeat((first|refine aq av ?_|refine bg Q3 ?_|refine aC Q3 ?_|refine aS (by assumption) ?_|refine ao t6 ?_|refine ah Q5 ?_|refine ah Q7 ?_|rw[t6]|rw[t7]|rw[t8]|rw[Int.toNat_natCast]|rw[Nat.zero_add]);conv=>whnf))
     exact⟨_,fun k=>k,[1,2,3,7,8,9,17,18,40,41],KB,Nat.sub_lt_sub_left pL (Nat.lt_succ_self _),by subst e1 e3 hKB;kernel_rfl,k+1,rfl,pL,by subst e1 e3;rfl,by subst e1 e3 hKB;rw[←qv];rfl⟩
    ·have t6:=dA pL
     obtain rfl:k=more:=aa
     have Ck:=sK (a:=a) (b:=b) (c:=c) (more:=k) (i:=i)
     rw[Ck]
     rw[e1,e3]
     conv=>whnf
     (repeat((first|refine ay t6 ?_|refine⟨_,[],[(61,⟨36,true,.one [.aO 25 5 0 (c+k)]⟩)],[],lh rfl (aJ.get (t:=188) rfl) rfl (aJ.get (t:=36) rfl) rfl rfl rfl rfl aI,aM,c5 rfl,ar, ?_⟩|refine⟨_,[(61,⟨36,true,.one [.aO 25 5 0 (c+k)]⟩)],[(62,_)],[],pa (kn:=62) rfl rfl rfl (ak rfl) (ak rfl) (aJ.get (t:=188) rfl) rfl (aJ.get (t:=188) rfl) rfl (aJ.get (t:=36) rfl) (List.mem_cons_self ..) rfl Nat.one_pos rfl rfl aI aI,dh rfl,c5 rfl,ar, ?_⟩|refine⟨_,[(1002,_),(61,⟨36,true,.one [.aO 25 5 0 (c+k)]⟩)],[(62,_)],[(1002,_)],qS (kn:=62) rfl rfl rfl (ak rfl) (ak rfl) (aJ.get (t:=188) rfl) rfl (aJ.get (t:=188) rfl) rfl (aJ.get (t:=36) rfl) (List.mem_cons_self ..) (List.mem_cons_of_mem _ (List.mem_cons_self ..)) (by rfl) rfl Nat.one_pos rfl (by rfl) rfl aI aI,fY rfl rfl,c5 rfl,dd (List.mem_cons_self ..) rfl rfl rfl, ?_⟩|rw[t6]|rw[s5]|rw[Nat.zero_add]);conv=>whnf))
     subst e1 e3
     exact⟨_,σ,[1,2,3,7,17,18],KE,Nat.sub_lt_sub_left aE (Nat.lt_succ_self _),by subst hσ hKE;kernel_rfl,_,rfl,aE,by subst hσ;rfl,by subst hσ hKE;rfl⟩
  ·obtain rfl:i=r:=aa
   subst e1
   conv=>whnf
   (repeat(first|(refine ae rfl rfl ?_;conv=>whnf)))
   exact⟨au.refl _,by repeat(first|exact get_nil|refine dH rfl ?_),get_nil⟩
theorem sL {r c:Nat} (more:Nat) (a:List Rat) (b:Mx) (g:FuncId) (p:Pred) (hr:r≤6) (Hj:1≤r) (ha:dV r c a) (hc:c≤40) (hm:more≤40)
  (hb:∀i k,i<r→k<more→ab Tryz.prog g ([]++([iv (i:Nat),iv (k:Nat)]++[.atom p])) [] (.frac (b i k)) [] []):
  ab Tryz.prog 221 [mA r c a,iv more,.clo g [] [.atom p]] [] (.ptr 1001 0 0 0) (H4 r c (c+more) (dN a c b)) []:=by
 have t0:IntKind.i64.wrap ((c:Int)+(more:Int))=((c+more:Nat):Int):=by rw[wrap_i64 aa aa];omega
 have k0:ab Tryz.prog 18 [iv 1] [] (.frac 1) [] []:=dI 1 aI aI
 rcases(show r=1∨r=2∨r=3∨r=4∨r=5∨r=6 by omega)with e1|e1|e1|e1|e1|e1
 all_goals first|omega|skip
 all_goals
  rw[e1]
  refine qP (Z:=[3]) aJ bO Tryz.func221 rfl av (fE.of rfl rfl rfl rfl rfl rfl rfl rfl rfl rfl rfl) rfl (bo.id rfl) ?_
  intro W0 w0 ρ0 hE
  conv=>whnf
  (repeat((first|refine aq av ?_|refine aS (by assumption) ?_|refine ah Q5 ?_|refine ah Q7 ?_);conv=>whnf))
  refine aj hE (fun k=>cond (Nat.beq k 15) 1001 k) [1,2,3,7,17,18] [15] (fun m' fr hp=>∃i:Nat,m'=r - i∧i≤r∧fr=[(1,iv more),(2,.clo g [] [.atom p]),(3,bE (mC r c a)),(7,.ptr 1001 0 0 0),(17,iv r),(18,iv i)]∧hp=ZB c (c+more) (dN a c b) i) r ?_ ?_ ?_
  ·kernel_rfl
  ·exact⟨0,rfl,Nat.zero_le _,by subst e1;rfl,rfl⟩
  rintro m' _ _ ⟨i,rfl,hi,rfl,rfl⟩
  by_cases aE:i<r
  ·have hid:i=0∨i=1∨i=2∨i=3∨i=4∨i=5:=aa
   obtain⟨t3,t4,t5⟩:=xN (i:=i) (c:=c) aa aa
   have hl:=c8 aE ha.n
   have iF:=nh (more:=more) b aE ha.n
   have yM:(i+1)*c≤a.length:=by rw[ha.n];exact Nat.mul_le_mul_right c aE
   obtain⟨KB,hKB⟩:∃K,K=25::ksB i:=⟨_,rfl⟩
   obtain⟨KE,hKE⟩:∃K,K=(1001::62::vr i)++[25]:=⟨_,rfl⟩
   obtain⟨σ,hσ⟩:∃f:Nat→Nat,f=fun q=>cond (Nat.beq q 62) 1002 (cond (Nat.beq q 25) (3010+i) q):=⟨_,rfl⟩
   rcases hid with e3|e3|e3|e3|e3|e3
   all_goals first|omega|skip
   all_goals
    have s3:=t3
    have s4:=t4
    have s5:=t5
    have lJ:=hl
    have hX:List.take ((i+1)*c - i*c) (List.drop (i*c) a)=db a c i:=by rw[Nat.succ_mul,Nat.add_sub_cancel_left]
    have Fw:=yM
    rw[e3]at s3 s4 s5 lJ Fw hX
    rw[e1,e3]
    conv=>whnf
    (repeat(first|(refine ag rfl rfl ?_;conv=>whnf)|(refine aC Q3 ?_;conv=>whnf)|(refine ah Q5 ?_;conv=>whnf)|(refine ah Q7 ?_;conv=>whnf)|(refine ah Ga ?_;conv=>whnf)|(refine⟨_,[(25,cP (List.replicate (c+more) 0))],[],[(25,cP (db a c _++List.replicate more 0))],pb (c:=c) (n:=c+more) (m:=c) (i:=0) (k:=25) rfl rfl rfl (ak rfl) (ak rfl) (fG _) (aJ.get (t:=36) rfl) rfl (aJ.get (t:=52) rfl) (List.mem_cons_self ..) rfl rfl (by simp[en]) (by rw[List.length_map];exact lJ.symm) Q39 (Nat.min_eq_left (Nat.le_add_right _ _)).symm (pc lJ),dh rfl,aA,dd (List.mem_cons_self ..) rfl rfl rfl, ?_⟩;conv=>whnf)|(rw[t0];conv=>whnf)|(rw[s3];conv=>whnf)|(rw[s4];conv=>whnf)|(rw[s5];conv=>whnf)|(rw[hX];conv=>whnf)|(rw[Int.toNat_natCast];conv=>whnf)|(rw[Nat.zero_add];conv=>whnf)))
    refine aj hE (fun k=>k) [1,2,3,7,8,9,17,18,40,41] KB (fun m'' fr hp=>∃k:Nat,m''=more - k∧k≤more∧fr=[(1,iv more),(2,.clo g [] [.atom p]),(3,bE (mC r c a)),(7,.ptr 1001 0 0 0),(8,iv i),(9,.aO 25 5 0 (c+more)),(17,iv r),(18,iv i),(40,iv more),(41,iv k)]∧hp=(25,cP (wh (c+more) (oi a c b i k)))::ZB c (c+more) (dN a c b) i) more ?_ ?_ ?_
    ·subst e1 e3 hKB;kernel_rfl
    ·exact⟨0,rfl,Nat.zero_le _,by subst e1 e3;rfl,by rw[←iF];subst e1 e3 hKB;rfl⟩
    rintro m'' _ _ ⟨k,rfl,hk,rfl,rfl⟩
    have hz:=bC (c+more) (oi a c b i k)
    by_cases pL:k<more
    ·have t6:=dx pL
     have t7:=br (i:=k) aa
     have t8:IntKind.i64.wrap ((c:Int)+(k:Int))=((c+k:Nat):Int):=by rw[wrap_i64 aa aa];omega
     have kb:=hb i k aE pL
     have qv:=sJ (a:=a) (b:=b) (c:=c) (i:=i) pL
     rw[e3]at hz kb
     rw[e1,e3]
     conv=>whnf
     (repeat((first|refine aq av ?_|refine bg Q3 ?_|refine aC Q3 ?_|refine aS (by assumption) ?_|refine ao t6 ?_|refine ah Q5 ?_|refine ah Q7 ?_|rw[t6]|rw[t7]|rw[t8]|rw[Int.toNat_natCast]|rw[Nat.zero_add]);conv=>whnf))
     exact⟨_,fun k=>k,[1,2,3,7,8,9,17,18,40,41],KB,Nat.sub_lt_sub_left pL (Nat.lt_succ_self _),by subst e1 e3 hKB;kernel_rfl,k+1,rfl,pL,by subst e1 e3;rfl,by subst e1 e3 hKB;rw[←qv];rfl⟩
    ·have t6:=dA pL
     obtain rfl:k=more:=aa
     have Ck:=sK (a:=a) (b:=b) (c:=c) (more:=k) (i:=i)
     rw[Ck]
     rw[e1,e3]
     conv=>whnf
     (repeat((first|refine ay t6 ?_|refine⟨_,[],[(61,⟨36,true,.one [.aO 25 5 0 (c+k)]⟩)],[],lh rfl (aJ.get (t:=188) rfl) rfl (aJ.get (t:=36) rfl) rfl rfl rfl rfl aI,aM,c5 rfl,ar, ?_⟩|refine⟨_,[(61,⟨36,true,.one [.aO 25 5 0 (c+k)]⟩)],[(62,_)],[],pa (kn:=62) rfl rfl rfl (ak rfl) (ak rfl) (aJ.get (t:=188) rfl) rfl (aJ.get (t:=188) rfl) rfl (aJ.get (t:=36) rfl) (List.mem_cons_self ..) rfl Nat.one_pos rfl rfl aI aI,dh rfl,c5 rfl,ar, ?_⟩|refine⟨_,[(1002,_),(61,⟨36,true,.one [.aO 25 5 0 (c+k)]⟩)],[(62,_)],[(1002,_)],qS (kn:=62) rfl rfl rfl (ak rfl) (ak rfl) (aJ.get (t:=188) rfl) rfl (aJ.get (t:=188) rfl) rfl (aJ.get (t:=36) rfl) (List.mem_cons_self ..) (List.mem_cons_of_mem _ (List.mem_cons_self ..)) (by rfl) rfl Nat.one_pos rfl (by rfl) rfl aI aI,fY rfl rfl,c5 rfl,dd (List.mem_cons_self ..) rfl rfl rfl, ?_⟩|rw[t6]|rw[s5]|rw[Nat.zero_add]);conv=>whnf))
     subst e1 e3
     exact⟨_,σ,[1,2,3,7,17,18],KE,Nat.sub_lt_sub_left aE (Nat.lt_succ_self _),by subst hσ hKE;kernel_rfl,_,rfl,aE,by subst hσ;rfl,by subst hσ hKE;rfl⟩
  ·obtain rfl:i=r:=aa
   subst e1
   conv=>whnf
   (repeat(first|(refine ae rfl rfl ?_;conv=>whnf)))
   exact⟨au.refl _,by repeat(first|exact get_nil|refine dH rfl ?_),get_nil⟩
theorem DC {r c:Nat} (more:Nat) (a:List Rat) (b:Mx) (g:FuncId) (p q:Pred) (hr:r≤6) (Hj:1≤r) (ha:dV r c a) (hc:c≤40) (hm:more≤40)
  (hb:∀i k,i<r→k<more→ab Tryz.prog g ([]++([iv (i:Nat),iv (k:Nat)]++[.atom p,.atom q])) [] (.frac (b i k)) [] []):
  ab Tryz.prog 221 [mA r c a,iv more,.clo g [] [.atom p,.atom q]] [] (.ptr 1001 0 0 0) (H4 r c (c+more) (dN a c b)) []:=by
 have t0:IntKind.i64.wrap ((c:Int)+(more:Int))=((c+more:Nat):Int):=by rw[wrap_i64 aa aa];omega
 have k0:ab Tryz.prog 18 [iv 1] [] (.frac 1) [] []:=dI 1 aI aI
 rcases(show r=1∨r=2∨r=3∨r=4∨r=5∨r=6 by omega)with e1|e1|e1|e1|e1|e1
 all_goals first|omega|skip
 all_goals
  rw[e1]
  refine qP (Z:=[3]) aJ bO Tryz.func221 rfl av (fE.of rfl rfl rfl rfl rfl rfl rfl rfl rfl rfl rfl) rfl (bo.id rfl) ?_
  intro W0 w0 ρ0 hE
  conv=>whnf
  (repeat((first|refine aq av ?_|refine aS (by assumption) ?_|refine ah Q5 ?_|refine ah Q7 ?_);conv=>whnf))
  refine aj hE (fun k=>cond (Nat.beq k 15) 1001 k) [1,2,3,7,17,18] [15] (fun m' fr hp=>∃i:Nat,m'=r - i∧i≤r∧fr=[(1,iv more),(2,.clo g [] [.atom p,.atom q]),(3,bE (mC r c a)),(7,.ptr 1001 0 0 0),(17,iv r),(18,iv i)]∧hp=ZB c (c+more) (dN a c b) i) r ?_ ?_ ?_
  ·kernel_rfl
  ·exact⟨0,rfl,Nat.zero_le _,by subst e1;rfl,rfl⟩
  rintro m' _ _ ⟨i,rfl,hi,rfl,rfl⟩
  by_cases aE:i<r
  ·have hid:i=0∨i=1∨i=2∨i=3∨i=4∨i=5:=aa
   obtain⟨t3,t4,t5⟩:=xN (i:=i) (c:=c) aa aa
   have hl:=c8 aE ha.n
   have iF:=nh (more:=more) b aE ha.n
   have yM:(i+1)*c≤a.length:=by rw[ha.n];exact Nat.mul_le_mul_right c aE
   obtain⟨KB,hKB⟩:∃K,K=25::ksB i:=⟨_,rfl⟩
   obtain⟨KE,hKE⟩:∃K,K=(1001::62::vr i)++[25]:=⟨_,rfl⟩
   obtain⟨σ,hσ⟩:∃f:Nat→Nat,f=fun q=>cond (Nat.beq q 62) 1002 (cond (Nat.beq q 25) (3010+i) q):=⟨_,rfl⟩
   rcases hid with e3|e3|e3|e3|e3|e3
   all_goals first|omega|skip
   all_goals
    have s3:=t3
    have s4:=t4
    have s5:=t5
    have lJ:=hl
    have hX:List.take ((i+1)*c - i*c) (List.drop (i*c) a)=db a c i:=by rw[Nat.succ_mul,Nat.add_sub_cancel_left]
    have Fw:=yM
    rw[e3]at s3 s4 s5 lJ Fw hX
    rw[e1,e3]
    conv=>whnf
    (repeat(first|(refine ag rfl rfl ?_;conv=>whnf)|(refine aC Q3 ?_;conv=>whnf)|(refine ah Q5 ?_;conv=>whnf)|(refine ah Q7 ?_;conv=>whnf)|(refine ah Ga ?_;conv=>whnf)|(refine⟨_,[(25,cP (List.replicate (c+more) 0))],[],[(25,cP (db a c _++List.replicate more 0))],pb (c:=c) (n:=c+more) (m:=c) (i:=0) (k:=25) rfl rfl rfl (ak rfl) (ak rfl) (fG _) (aJ.get (t:=36) rfl) rfl (aJ.get (t:=52) rfl) (List.mem_cons_self ..) rfl rfl (by simp[en]) (by rw[List.length_map];exact lJ.symm) Q39 (Nat.min_eq_left (Nat.le_add_right _ _)).symm (pc lJ),dh rfl,aA,dd (List.mem_cons_self ..) rfl rfl rfl, ?_⟩;conv=>whnf)|(rw[t0];conv=>whnf)|(rw[s3];conv=>whnf)|(rw[s4];conv=>whnf)|(rw[s5];conv=>whnf)|(rw[hX];conv=>whnf)|(rw[Int.toNat_natCast];conv=>whnf)|(rw[Nat.zero_add];conv=>whnf)))
    refine aj hE (fun k=>k) [1,2,3,7,8,9,17,18,40,41] KB (fun m'' fr hp=>∃k:Nat,m''=more - k∧k≤more∧fr=[(1,iv more),(2,.clo g [] [.atom p,.atom q]),(3,bE (mC r c a)),(7,.ptr 1001 0 0 0),(8,iv i),(9,.aO 25 5 0 (c+more)),(17,iv r),(18,iv i),(40,iv more),(41,iv k)]∧hp=(25,cP (wh (c+more) (oi a c b i k)))::ZB c (c+more) (dN a c b) i) more ?_ ?_ ?_
    ·subst e1 e3 hKB;kernel_rfl
    ·exact⟨0,rfl,Nat.zero_le _,by subst e1 e3;rfl,by rw[←iF];subst e1 e3 hKB;rfl⟩
    rintro m'' _ _ ⟨k,rfl,hk,rfl,rfl⟩
    have hz:=bC (c+more) (oi a c b i k)
    by_cases pL:k<more
    ·have t6:=dx pL
     have t7:=br (i:=k) aa
     have t8:IntKind.i64.wrap ((c:Int)+(k:Int))=((c+k:Nat):Int):=by rw[wrap_i64 aa aa];omega
     have kb:=hb i k aE pL
     have qv:=sJ (a:=a) (b:=b) (c:=c) (i:=i) pL
     rw[e3]at hz kb
     rw[e1,e3]
     conv=>whnf
     (repeat((first|refine aq av ?_|refine bg Q3 ?_|refine aC Q3 ?_|refine aS (by assumption) ?_|refine ao t6 ?_|refine ah Q5 ?_|refine ah Q7 ?_|rw[t6]|rw[t7]|rw[t8]|rw[Int.toNat_natCast]|rw[Nat.zero_add]);conv=>whnf))
     exact⟨_,fun k=>k,[1,2,3,7,8,9,17,18,40,41],KB,Nat.sub_lt_sub_left pL (Nat.lt_succ_self _),by subst e1 e3 hKB;kernel_rfl,k+1,rfl,pL,by subst e1 e3;rfl,by subst e1 e3 hKB;rw[←qv];rfl⟩
    ·have t6:=dA pL
     obtain rfl:k=more:=aa
     have Ck:=sK (a:=a) (b:=b) (c:=c) (more:=k) (i:=i)
     rw[Ck]
     rw[e1,e3]
     conv=>whnf
     (repeat((first|refine ay t6 ?_|refine⟨_,[],[(61,⟨36,true,.one [.aO 25 5 0 (c+k)]⟩)],[],lh rfl (aJ.get (t:=188) rfl) rfl (aJ.get (t:=36) rfl) rfl rfl rfl rfl aI,aM,c5 rfl,ar, ?_⟩|refine⟨_,[(61,⟨36,true,.one [.aO 25 5 0 (c+k)]⟩)],[(62,_)],[],pa (kn:=62) rfl rfl rfl (ak rfl) (ak rfl) (aJ.get (t:=188) rfl) rfl (aJ.get (t:=188) rfl) rfl (aJ.get (t:=36) rfl) (List.mem_cons_self ..) rfl Nat.one_pos rfl rfl aI aI,dh rfl,c5 rfl,ar, ?_⟩|refine⟨_,[(1002,_),(61,⟨36,true,.one [.aO 25 5 0 (c+k)]⟩)],[(62,_)],[(1002,_)],qS (kn:=62) rfl rfl rfl (ak rfl) (ak rfl) (aJ.get (t:=188) rfl) rfl (aJ.get (t:=188) rfl) rfl (aJ.get (t:=36) rfl) (List.mem_cons_self ..) (List.mem_cons_of_mem _ (List.mem_cons_self ..)) (by rfl) rfl Nat.one_pos rfl (by rfl) rfl aI aI,fY rfl rfl,c5 rfl,dd (List.mem_cons_self ..) rfl rfl rfl, ?_⟩|rw[t6]|rw[s5]|rw[Nat.zero_add]);conv=>whnf))
     subst e1 e3
     exact⟨_,σ,[1,2,3,7,17,18],KE,Nat.sub_lt_sub_left aE (Nat.lt_succ_self _),by subst hσ hKE;kernel_rfl,_,rfl,aE,by subst hσ;rfl,by subst hσ hKE;rfl⟩
  ·obtain rfl:i=r:=aa
   subst e1
   conv=>whnf
   (repeat(first|(refine ae rfl rfl ?_;conv=>whnf)))
   exact⟨au.refl _,by repeat(first|exact get_nil|refine dH rfl ?_),get_nil⟩
end Go.Proofs.YtfpagioknjjacaaGreatDoor
