/- The texts Qj. -/
import Derived.Test.YtfpagioknjjacaaGreatDoorQMBareissKnown18
import Derived.Test.YtfpagioknjjacaaGreatDoorQMBareissKnown19
import Derived.Test.YtfpagioknjjacaaGreatDoorQMBareissKnown5
namespace Go.Proofs.YtfpagioknjjacaaGreatDoor
open Go.Sx
set_option linter.unusedSimpArgs false
set_option linter.unusedVariables false
set_option maxRecDepth 100000
set_option maxHeartbeats 40000000
theorem uA {ρ:bY}:∀(xs:List Rat) (z:List (List Value)),au ρ (xs.map .frac) z→z=xs.map bD
 |[],z,h=>by simpa only[List.map_nil,au]using h
 |x::xs,z,h=>by
  simp only[List.map_cons,au]at h
  obtain⟨y,r,rfl,h1,h2⟩:=h
  rw[uA xs r h2]
  simp only[aK]at h1
  rw[h1,List.map_cons]
theorem p7 (xs:List Rat):∀(ρ:bY) z,au (cN ρ.aY ρ.cq) (xs.map .frac) z→(∀x∈xs.map SV.frac,x.width=5)→Go.Sx.Rows ρ 5 (.cm xs) z:=
 fun ρ z h _=>⟨rfl,uA xs z h⟩
def ic (a:List Rat) (c:Nat) (b:Mx):Mx:=fun i q=>if q<c then el a c i q else b i (q - c)
def rD (a:List Rat) (c:Nat) (b:Mx) (i k:Nat):Nat→Rat:=fun q=>if q<c then el a c i q else if q<c+k then b i (q - c)else 0
theorem A5 {n:Nat} {f:Nat→Rat} {l:List Rat} (hl:l.length=n) (h:∀q,q<n→l.getD q 0=f q):l=y7 n f:=sI hl h
theorem LB {l m:List Rat} {q:Nat}:(l++m).getD q 0=if q<l.length then l.getD q 0 else m.getD (q - l.length) 0:=by
 simp only[List.getD_eq_getElem?_getD]
 by_cases h:q<l.length
 ·rw[if_pos h,List.getElem?_append_left h]
 ·rw[if_neg h,List.getElem?_append_right aa]
theorem sK {r c more:Nat} {a:List Rat} (b:Mx) {i:Nat} (hi:i<r) (ha:a.length=r*c):cj a c i++List.replicate more 0=y7 (c+more) (rD a c b i 0):=by
 have hl:=cE hi ha
 refine A5 (by simp[hl]) fun q hq=> ?_
 rw[LB,hl]
 unfold rD
 by_cases h:q<c
 ·rw[if_pos h,if_pos h,eK h]
 ·rw[if_neg h,if_neg h,if_neg aa]
  simp[List.getD_eq_getElem?_getD,List.getElem?_replicate]
  split<;>rfl
theorem A6 {c more k:Nat} {a:List Rat} {b:Mx} {i:Nat} (hk:k<more):(y7 (c+more) (rD a c b i k)).set (c+k) (b i k)=y7 (c+more) (rD a c b i (k+1)):=by
 refine A5 (by rw[List.length_set,dm]) fun q hq=> ?_
 by_cases e:q=c+k
 ·subst e
  rw[EL (by rw[dm];omega)]
  unfold rD
  rw[if_neg aa,if_pos aa,Nat.add_sub_cancel_left]
 ·rw[rA e,fS hq]
  unfold rD
  by_cases h:q<c
  ·rw[if_pos h,if_pos h]
  ·rw[if_neg h,if_neg h]
   by_cases g:q<c+k
   ·rw[if_pos g,if_pos aa]
   ·rw[if_neg g,if_neg aa]
theorem A7 {c more:Nat} {a:List Rat} {b:Mx} {i:Nat}:y7 (c+more) (rD a c b i more)=y7 (c+more) (ic a c b i):=by
 refine A5 (dm _ _) fun q hq=> ?_
 rw[fS hq]
 unfold rD ic
 by_cases h:q<c
 ·rw[if_pos h,if_pos h]
 ·rw[if_neg h,if_neg h,if_pos hq]
def ZW (c n:Nat) (w:Mx):Nat→List (Nat×aC)
 |0=>[(1001,⟨269,true,.one [.val (.slice none 0 0),iv c,.val (.slice none 0 0),.frac 1]⟩)]
 |i+1=>(1001,⟨269,true,.one [.aN 1002 1 0 (i+1),iv c,.val (.slice none 0 0),.frac 1]⟩)::(1002,Ie true (Lz (i+1) n))::LA (bZ n w) (i+1) 0
def ksB:Nat→List Nat
 |0=>[1001]
 |i+1=>1001::1002::uz (i+1)
theorem xx {c more:Nat} {l:List Rat} (hl:l.length=c):ud (.cm (List.replicate (c+more) 0)) 0 (.cm l) 0 c=some (.cm (l++List.replicate more 0)):=by
 simp only[ud,List.take_zero,List.nil_append,List.drop_zero,Nat.zero_add,List.drop_replicate,Nat.add_sub_cancel_left]
 rw[List.take_of_length_le aa]
theorem LC {r c:Nat} (more:Nat) (a:List Rat) (b:Mx) (g:FuncId) (hr:r≤6) (Dl:1≤r) (ha:jq r c a) (hc:c≤40) (hm:more≤40)
  (hb:∀i k,i<r→k<more→ab Tryz.prog g ([]++([iv (i:Nat),iv (k:Nat)]++[])) [] (.frac (b i k)) [] []):
  ab Tryz.prog 221 [mA r c a,iv more,.clo g [] []] [] (.ptr 1001 0 0 0) (Rf r c (c+more) (ic a c b)) []:=by
 have t0:IntKind.i64.wrap ((c:Int)+(more:Int))=((c+more:Nat):Int):=by rw[wrap_i64 aa aa];omega
 have k0:ab Tryz.prog 18 [iv 1] [] (.frac 1) [] []:=ju 1 aF aF
 rcases(show r=1∨r=2∨r=3∨r=4∨r=5∨r=6 by omega)with e1|e1|e1|e1|e1|e1
 all_goals first|omega|skip
 all_goals
  rw[e1]
  refine p0 (Z:=[3]) aL bJ Tryz.func221 rfl aB (fG.of rfl rfl rfl rfl rfl rfl rfl rfl rfl rfl rfl) rfl (bh.id rfl) ?_
  intro W0 w0 ρ0 hE
  conv=>whnf
  (repeat((first|refine aw aB ?_|refine aS (by assumption) ?_|refine ak Q6 ?_|refine ak Q9 ?_);conv=>whnf))
  refine ai hE (fun k=>cond (Nat.beq k 15) 1001 k) [1,2,3,7,17,18] [15] (fun m' fr hp=>∃i:Nat,m'=r - i∧i≤r∧fr=[(1,iv more),(2,.clo g [] []),(3,bG (mC r c a)),(7,.ptr 1001 0 0 0),(17,iv r),(18,iv i)]∧hp=ZW c (c+more) (ic a c b) i) r ?_ ?_ ?_
  ·kernel_rfl
  ·exact⟨0,rfl,Nat.zero_le _,by subst e1;rfl,rfl⟩
  rintro m' _ _ ⟨i,rfl,hi,rfl,rfl⟩
  by_cases aA:i<r
  ·have hid:i=0∨i=1∨i=2∨i=3∨i=4∨i=5:=aa
   obtain⟨t3,t4,t5⟩:=yM (i:=i) (c:=c) aa aa
   have hl:=cE aA ha.n
   have xF:=sK (more:=more) b aA ha.n
   have qe:(i+1)*c≤a.length:=by rw[ha.n];exact Nat.mul_le_mul_right c aA
   obtain⟨KB,hKB⟩:∃K,K=25::ksB i:=⟨_,rfl⟩
   obtain⟨KE,hKE⟩:∃K,K=(1001::62::uz i)++[25]:=⟨_,rfl⟩
   obtain⟨σ,hσ⟩:∃f:Nat→Nat,f=fun q=>cond (Nat.beq q 62) 1002 (cond (Nat.beq q 25) (3010+i) q):=⟨_,rfl⟩
   rcases hid with e3|e3|e3|e3|e3|e3
   all_goals first|omega|skip
   all_goals
    have s3:=t3
    have s4:=t4
    have s5:=t5
    have yQ:=hl
    have hX:List.take ((i+1)*c - i*c) (List.drop (i*c) a)=cj a c i:=by rw[Nat.succ_mul,Nat.add_sub_cancel_left]
    have LD:=qe
    rw[e3]at s3 s4 s5 yQ LD hX
    rw[e1,e3]
    conv=>whnf
    (repeat(first|(refine ag rfl rfl ?_;conv=>whnf)|(refine ay Q3 ?_;conv=>whnf)|(refine ak Q6 ?_;conv=>whnf)|(refine ak Q9 ?_;conv=>whnf)|(refine ak Qx ?_;conv=>whnf)|(refine⟨_,[(25,hZ (List.replicate (c+more) 0))],[],[(25,hZ (cj a c _++List.replicate more 0))],xw (c:=c) (n:=c+more) (m:=c) (i:=0) (k:=25) rfl rfl rfl (aj rfl) (aj rfl) (p7 _) (aL.get (t:=36) rfl) rfl (aL.get (t:=52) rfl) (List.mem_cons_self ..) rfl rfl (by simp[eR]) (by rw[List.length_map];exact yQ.symm) (by show 0+c≤List.length _;omega) (Nat.min_eq_left (Nat.le_add_right _ _)).symm (xx yQ),dv rfl,ar,dp (List.mem_cons_self ..) rfl rfl rfl, ?_⟩;conv=>whnf)|(rw[t0];conv=>whnf)|(rw[s3];conv=>whnf)|(rw[s4];conv=>whnf)|(rw[s5];conv=>whnf)|(rw[hX];conv=>whnf)|(rw[Int.toNat_natCast];conv=>whnf)|(rw[Nat.zero_add];conv=>whnf)))
    refine ai hE (fun k=>k) [1,2,3,7,8,9,17,18,40,41] KB (fun m'' fr hp=>∃k:Nat,m''=more - k∧k≤more∧fr=[(1,iv more),(2,.clo g [] []),(3,bG (mC r c a)),(7,.ptr 1001 0 0 0),(8,iv i),(9,.aN 25 5 0 (c+more)),(17,iv r),(18,iv i),(40,iv more),(41,iv k)]∧hp=(25,hZ (y7 (c+more) (rD a c b i k)))::ZW c (c+more) (ic a c b) i) more ?_ ?_ ?_
    ·subst e1 e3 hKB;kernel_rfl
    ·exact⟨0,rfl,Nat.zero_le _,by subst e1 e3;rfl,by rw[←xF];subst e1 e3 hKB;rfl⟩
    rintro m'' _ _ ⟨k,rfl,hk,rfl,rfl⟩
    have hz:=dm (c+more) (rD a c b i k)
    by_cases xH:k<more
    ·have t6:=dX xH
     have t7:=bA (i:=k) aa
     have t8:IntKind.i64.wrap ((c:Int)+(k:Int))=((c+k:Nat):Int):=by rw[wrap_i64 aa aa];omega
     have kb:=hb i k aA xH
     have vu:=A6 (a:=a) (b:=b) (c:=c) (i:=i) xH
     rw[e3]at hz kb
     rw[e1,e3]
     conv=>whnf
     (repeat((first|refine aw aB ?_|refine aX Q3 ?_|refine ay Q3 ?_|refine aS (by assumption) ?_|refine aE t6 ?_|refine ak Q6 ?_|refine ak Q9 ?_|rw[t6]|rw[t7]|rw[t8]|rw[Int.toNat_natCast]|rw[Nat.zero_add]);conv=>whnf))
     exact⟨_,fun k=>k,[1,2,3,7,8,9,17,18,40,41],KB,Nat.sub_lt_sub_left xH (Nat.lt_succ_self _),by subst e1 e3 hKB;kernel_rfl,k+1,rfl,xH,by subst e1 e3;rfl,by subst e1 e3 hKB;rw[←vu];rfl⟩
    ·have t6:=ez xH
     obtain rfl:k=more:=aa
     have hpe:=A7 (a:=a) (b:=b) (c:=c) (more:=k) (i:=i)
     rw[hpe]
     rw[e1,e3]
     conv=>whnf
     (repeat((first|refine aM t6 ?_|refine⟨_,[],[(61,⟨36,true,.one [.aN 25 5 0 (c+k)]⟩)],[],kQ rfl (aL.get (t:=188) rfl) rfl (aL.get (t:=36) rfl) rfl rfl rfl rfl aF,aJ,cV rfl,an, ?_⟩|refine⟨_,[(61,⟨36,true,.one [.aN 25 5 0 (c+k)]⟩)],[(62,_)],[],oq (kn:=62) rfl rfl rfl (aj rfl) (aj rfl) (aL.get (t:=188) rfl) rfl (aL.get (t:=188) rfl) rfl (aL.get (t:=36) rfl) (List.mem_cons_self ..) rfl Nat.one_pos rfl rfl aF aF,dv rfl,cV rfl,an, ?_⟩|refine⟨_,[(1002,_),(61,⟨36,true,.one [.aN 25 5 0 (c+k)]⟩)],[(62,_)],[(1002,_)],p6 (kn:=62) rfl rfl rfl (aj rfl) (aj rfl) (aL.get (t:=188) rfl) rfl (aL.get (t:=188) rfl) rfl (aL.get (t:=36) rfl) (List.mem_cons_self ..) (List.mem_cons_of_mem _ (List.mem_cons_self ..)) (by rfl) rfl Nat.one_pos rfl (by rfl) rfl aF aF,fW rfl rfl,cV rfl,dp (List.mem_cons_self ..) rfl rfl rfl, ?_⟩|rw[t6]|rw[s5]|rw[Nat.zero_add]);conv=>whnf))
     subst e1 e3
     exact⟨_,σ,[1,2,3,7,17,18],KE,Nat.sub_lt_sub_left aA (Nat.lt_succ_self _),by subst hσ hKE;kernel_rfl,_,rfl,aA,by subst hσ;rfl,by subst hσ hKE;rfl⟩
  ·obtain rfl:i=r:=aa
   subst e1
   conv=>whnf
   (repeat(first|(refine af rfl rfl ?_;conv=>whnf)))
   exact⟨aq.refl _,by repeat(first|exact get_nil|refine dL rfl ?_),get_nil⟩
theorem CW {r c:Nat} (more:Nat) (a:List Rat) (b:Mx) (g:FuncId) (p:Pred) (hr:r≤6) (Dl:1≤r) (ha:jq r c a) (hc:c≤40) (hm:more≤40)
  (hb:∀i k,i<r→k<more→ab Tryz.prog g ([]++([iv (i:Nat),iv (k:Nat)]++[.atom p])) [] (.frac (b i k)) [] []):
  ab Tryz.prog 221 [mA r c a,iv more,.clo g [] [.atom p]] [] (.ptr 1001 0 0 0) (Rf r c (c+more) (ic a c b)) []:=by
 have t0:IntKind.i64.wrap ((c:Int)+(more:Int))=((c+more:Nat):Int):=by rw[wrap_i64 aa aa];omega
 have k0:ab Tryz.prog 18 [iv 1] [] (.frac 1) [] []:=ju 1 aF aF
 rcases(show r=1∨r=2∨r=3∨r=4∨r=5∨r=6 by omega)with e1|e1|e1|e1|e1|e1
 all_goals first|omega|skip
 all_goals
  rw[e1]
  refine p0 (Z:=[3]) aL bJ Tryz.func221 rfl aB (fG.of rfl rfl rfl rfl rfl rfl rfl rfl rfl rfl rfl) rfl (bh.id rfl) ?_
  intro W0 w0 ρ0 hE
  conv=>whnf
  (repeat((first|refine aw aB ?_|refine aS (by assumption) ?_|refine ak Q6 ?_|refine ak Q9 ?_);conv=>whnf))
  refine ai hE (fun k=>cond (Nat.beq k 15) 1001 k) [1,2,3,7,17,18] [15] (fun m' fr hp=>∃i:Nat,m'=r - i∧i≤r∧fr=[(1,iv more),(2,.clo g [] [.atom p]),(3,bG (mC r c a)),(7,.ptr 1001 0 0 0),(17,iv r),(18,iv i)]∧hp=ZW c (c+more) (ic a c b) i) r ?_ ?_ ?_
  ·kernel_rfl
  ·exact⟨0,rfl,Nat.zero_le _,by subst e1;rfl,rfl⟩
  rintro m' _ _ ⟨i,rfl,hi,rfl,rfl⟩
  by_cases aA:i<r
  ·have hid:i=0∨i=1∨i=2∨i=3∨i=4∨i=5:=aa
   obtain⟨t3,t4,t5⟩:=yM (i:=i) (c:=c) aa aa
   have hl:=cE aA ha.n
   have xF:=sK (more:=more) b aA ha.n
   have qe:(i+1)*c≤a.length:=by rw[ha.n];exact Nat.mul_le_mul_right c aA
   obtain⟨KB,hKB⟩:∃K,K=25::ksB i:=⟨_,rfl⟩
   obtain⟨KE,hKE⟩:∃K,K=(1001::62::uz i)++[25]:=⟨_,rfl⟩
   obtain⟨σ,hσ⟩:∃f:Nat→Nat,f=fun q=>cond (Nat.beq q 62) 1002 (cond (Nat.beq q 25) (3010+i) q):=⟨_,rfl⟩
   rcases hid with e3|e3|e3|e3|e3|e3
   all_goals first|omega|skip
   all_goals
    have s3:=t3
    have s4:=t4
    have s5:=t5
    have yQ:=hl
    have hX:List.take ((i+1)*c - i*c) (List.drop (i*c) a)=cj a c i:=by rw[Nat.succ_mul,Nat.add_sub_cancel_left]
    have LD:=qe
    rw[e3]at s3 s4 s5 yQ LD hX
    rw[e1,e3]
    conv=>whnf
    (repeat(first|(refine ag rfl rfl ?_;conv=>whnf)|(refine ay Q3 ?_;conv=>whnf)|(refine ak Q6 ?_;conv=>whnf)|(refine ak Q9 ?_;conv=>whnf)|(refine ak Qx ?_;conv=>whnf)|(refine⟨_,[(25,hZ (List.replicate (c+more) 0))],[],[(25,hZ (cj a c _++List.replicate more 0))],xw (c:=c) (n:=c+more) (m:=c) (i:=0) (k:=25) rfl rfl rfl (aj rfl) (aj rfl) (p7 _) (aL.get (t:=36) rfl) rfl (aL.get (t:=52) rfl) (List.mem_cons_self ..) rfl rfl (by simp[eR]) (by rw[List.length_map];exact yQ.symm) (by show 0+c≤List.length _;omega) (Nat.min_eq_left (Nat.le_add_right _ _)).symm (xx yQ),dv rfl,ar,dp (List.mem_cons_self ..) rfl rfl rfl, ?_⟩;conv=>whnf)|(rw[t0];conv=>whnf)|(rw[s3];conv=>whnf)|(rw[s4];conv=>whnf)|(rw[s5];conv=>whnf)|(rw[hX];conv=>whnf)|(rw[Int.toNat_natCast];conv=>whnf)|(rw[Nat.zero_add];conv=>whnf)))
    refine ai hE (fun k=>k) [1,2,3,7,8,9,17,18,40,41] KB (fun m'' fr hp=>∃k:Nat,m''=more - k∧k≤more∧fr=[(1,iv more),(2,.clo g [] [.atom p]),(3,bG (mC r c a)),(7,.ptr 1001 0 0 0),(8,iv i),(9,.aN 25 5 0 (c+more)),(17,iv r),(18,iv i),(40,iv more),(41,iv k)]∧hp=(25,hZ (y7 (c+more) (rD a c b i k)))::ZW c (c+more) (ic a c b) i) more ?_ ?_ ?_
    ·subst e1 e3 hKB;kernel_rfl
    ·exact⟨0,rfl,Nat.zero_le _,by subst e1 e3;rfl,by rw[←xF];subst e1 e3 hKB;rfl⟩
    rintro m'' _ _ ⟨k,rfl,hk,rfl,rfl⟩
    have hz:=dm (c+more) (rD a c b i k)
    by_cases xH:k<more
    ·have t6:=dX xH
     have t7:=bA (i:=k) aa
     have t8:IntKind.i64.wrap ((c:Int)+(k:Int))=((c+k:Nat):Int):=by rw[wrap_i64 aa aa];omega
     have kb:=hb i k aA xH
     have vu:=A6 (a:=a) (b:=b) (c:=c) (i:=i) xH
     rw[e3]at hz kb
     rw[e1,e3]
     conv=>whnf
     (repeat((first|refine aw aB ?_|refine aX Q3 ?_|refine ay Q3 ?_|refine aS (by assumption) ?_|refine aE t6 ?_|refine ak Q6 ?_|refine ak Q9 ?_|rw[t6]|rw[t7]|rw[t8]|rw[Int.toNat_natCast]|rw[Nat.zero_add]);conv=>whnf))
     exact⟨_,fun k=>k,[1,2,3,7,8,9,17,18,40,41],KB,Nat.sub_lt_sub_left xH (Nat.lt_succ_self _),by subst e1 e3 hKB;kernel_rfl,k+1,rfl,xH,by subst e1 e3;rfl,by subst e1 e3 hKB;rw[←vu];rfl⟩
    ·have t6:=ez xH
     obtain rfl:k=more:=aa
     have hpe:=A7 (a:=a) (b:=b) (c:=c) (more:=k) (i:=i)
     rw[hpe]
     rw[e1,e3]
     conv=>whnf
     (repeat((first|refine aM t6 ?_|refine⟨_,[],[(61,⟨36,true,.one [.aN 25 5 0 (c+k)]⟩)],[],kQ rfl (aL.get (t:=188) rfl) rfl (aL.get (t:=36) rfl) rfl rfl rfl rfl aF,aJ,cV rfl,an, ?_⟩|refine⟨_,[(61,⟨36,true,.one [.aN 25 5 0 (c+k)]⟩)],[(62,_)],[],oq (kn:=62) rfl rfl rfl (aj rfl) (aj rfl) (aL.get (t:=188) rfl) rfl (aL.get (t:=188) rfl) rfl (aL.get (t:=36) rfl) (List.mem_cons_self ..) rfl Nat.one_pos rfl rfl aF aF,dv rfl,cV rfl,an, ?_⟩|refine⟨_,[(1002,_),(61,⟨36,true,.one [.aN 25 5 0 (c+k)]⟩)],[(62,_)],[(1002,_)],p6 (kn:=62) rfl rfl rfl (aj rfl) (aj rfl) (aL.get (t:=188) rfl) rfl (aL.get (t:=188) rfl) rfl (aL.get (t:=36) rfl) (List.mem_cons_self ..) (List.mem_cons_of_mem _ (List.mem_cons_self ..)) (by rfl) rfl Nat.one_pos rfl (by rfl) rfl aF aF,fW rfl rfl,cV rfl,dp (List.mem_cons_self ..) rfl rfl rfl, ?_⟩|rw[t6]|rw[s5]|rw[Nat.zero_add]);conv=>whnf))
     subst e1 e3
     exact⟨_,σ,[1,2,3,7,17,18],KE,Nat.sub_lt_sub_left aA (Nat.lt_succ_self _),by subst hσ hKE;kernel_rfl,_,rfl,aA,by subst hσ;rfl,by subst hσ hKE;rfl⟩
  ·obtain rfl:i=r:=aa
   subst e1
   conv=>whnf
   (repeat(first|(refine af rfl rfl ?_;conv=>whnf)))
   exact⟨aq.refl _,by repeat(first|exact get_nil|refine dL rfl ?_),get_nil⟩
theorem LF {r c:Nat} (more:Nat) (a:List Rat) (b:Mx) (g:FuncId) (p q:Pred) (hr:r≤6) (Dl:1≤r) (ha:jq r c a) (hc:c≤40) (hm:more≤40)
  (hb:∀i k,i<r→k<more→ab Tryz.prog g ([]++([iv (i:Nat),iv (k:Nat)]++[.atom p,.atom q])) [] (.frac (b i k)) [] []):
  ab Tryz.prog 221 [mA r c a,iv more,.clo g [] [.atom p,.atom q]] [] (.ptr 1001 0 0 0) (Rf r c (c+more) (ic a c b)) []:=by
 have t0:IntKind.i64.wrap ((c:Int)+(more:Int))=((c+more:Nat):Int):=by rw[wrap_i64 aa aa];omega
 have k0:ab Tryz.prog 18 [iv 1] [] (.frac 1) [] []:=ju 1 aF aF
 rcases(show r=1∨r=2∨r=3∨r=4∨r=5∨r=6 by omega)with e1|e1|e1|e1|e1|e1
 all_goals first|omega|skip
 all_goals
  rw[e1]
  refine p0 (Z:=[3]) aL bJ Tryz.func221 rfl aB (fG.of rfl rfl rfl rfl rfl rfl rfl rfl rfl rfl rfl) rfl (bh.id rfl) ?_
  intro W0 w0 ρ0 hE
  conv=>whnf
  (repeat((first|refine aw aB ?_|refine aS (by assumption) ?_|refine ak Q6 ?_|refine ak Q9 ?_);conv=>whnf))
  refine ai hE (fun k=>cond (Nat.beq k 15) 1001 k) [1,2,3,7,17,18] [15] (fun m' fr hp=>∃i:Nat,m'=r - i∧i≤r∧fr=[(1,iv more),(2,.clo g [] [.atom p,.atom q]),(3,bG (mC r c a)),(7,.ptr 1001 0 0 0),(17,iv r),(18,iv i)]∧hp=ZW c (c+more) (ic a c b) i) r ?_ ?_ ?_
  ·kernel_rfl
  ·exact⟨0,rfl,Nat.zero_le _,by subst e1;rfl,rfl⟩
  rintro m' _ _ ⟨i,rfl,hi,rfl,rfl⟩
  by_cases aA:i<r
  ·have hid:i=0∨i=1∨i=2∨i=3∨i=4∨i=5:=aa
   obtain⟨t3,t4,t5⟩:=yM (i:=i) (c:=c) aa aa
   have hl:=cE aA ha.n
   have xF:=sK (more:=more) b aA ha.n
   have qe:(i+1)*c≤a.length:=by rw[ha.n];exact Nat.mul_le_mul_right c aA
   obtain⟨KB,hKB⟩:∃K,K=25::ksB i:=⟨_,rfl⟩
   obtain⟨KE,hKE⟩:∃K,K=(1001::62::uz i)++[25]:=⟨_,rfl⟩
   obtain⟨σ,hσ⟩:∃f:Nat→Nat,f=fun q=>cond (Nat.beq q 62) 1002 (cond (Nat.beq q 25) (3010+i) q):=⟨_,rfl⟩
   rcases hid with e3|e3|e3|e3|e3|e3
   all_goals first|omega|skip
   all_goals
    have s3:=t3
    have s4:=t4
    have s5:=t5
    have yQ:=hl
    have hX:List.take ((i+1)*c - i*c) (List.drop (i*c) a)=cj a c i:=by rw[Nat.succ_mul,Nat.add_sub_cancel_left]
    have LD:=qe
    rw[e3]at s3 s4 s5 yQ LD hX
    rw[e1,e3]
    conv=>whnf
    (repeat(first|(refine ag rfl rfl ?_;conv=>whnf)|(refine ay Q3 ?_;conv=>whnf)|(refine ak Q6 ?_;conv=>whnf)|(refine ak Q9 ?_;conv=>whnf)|(refine ak Qx ?_;conv=>whnf)|(refine⟨_,[(25,hZ (List.replicate (c+more) 0))],[],[(25,hZ (cj a c _++List.replicate more 0))],xw (c:=c) (n:=c+more) (m:=c) (i:=0) (k:=25) rfl rfl rfl (aj rfl) (aj rfl) (p7 _) (aL.get (t:=36) rfl) rfl (aL.get (t:=52) rfl) (List.mem_cons_self ..) rfl rfl (by simp[eR]) (by rw[List.length_map];exact yQ.symm) (by show 0+c≤List.length _;omega) (Nat.min_eq_left (Nat.le_add_right _ _)).symm (xx yQ),dv rfl,ar,dp (List.mem_cons_self ..) rfl rfl rfl, ?_⟩;conv=>whnf)|(rw[t0];conv=>whnf)|(rw[s3];conv=>whnf)|(rw[s4];conv=>whnf)|(rw[s5];conv=>whnf)|(rw[hX];conv=>whnf)|(rw[Int.toNat_natCast];conv=>whnf)|(rw[Nat.zero_add];conv=>whnf)))
    refine ai hE (fun k=>k) [1,2,3,7,8,9,17,18,40,41] KB (fun m'' fr hp=>∃k:Nat,m''=more - k∧k≤more∧fr=[(1,iv more),(2,.clo g [] [.atom p,.atom q]),(3,bG (mC r c a)),(7,.ptr 1001 0 0 0),(8,iv i),(9,.aN 25 5 0 (c+more)),(17,iv r),(18,iv i),(40,iv more),(41,iv k)]∧hp=(25,hZ (y7 (c+more) (rD a c b i k)))::ZW c (c+more) (ic a c b) i) more ?_ ?_ ?_
    ·subst e1 e3 hKB;kernel_rfl
    ·exact⟨0,rfl,Nat.zero_le _,by subst e1 e3;rfl,by rw[←xF];subst e1 e3 hKB;rfl⟩
    rintro m'' _ _ ⟨k,rfl,hk,rfl,rfl⟩
    have hz:=dm (c+more) (rD a c b i k)
    by_cases xH:k<more
    ·have t6:=dX xH
     have t7:=bA (i:=k) aa
     have t8:IntKind.i64.wrap ((c:Int)+(k:Int))=((c+k:Nat):Int):=by rw[wrap_i64 aa aa];omega
     have kb:=hb i k aA xH
     have vu:=A6 (a:=a) (b:=b) (c:=c) (i:=i) xH
     rw[e3]at hz kb
     rw[e1,e3]
     conv=>whnf
     (repeat((first|refine aw aB ?_|refine aX Q3 ?_|refine ay Q3 ?_|refine aS (by assumption) ?_|refine aE t6 ?_|refine ak Q6 ?_|refine ak Q9 ?_|rw[t6]|rw[t7]|rw[t8]|rw[Int.toNat_natCast]|rw[Nat.zero_add]);conv=>whnf))
     exact⟨_,fun k=>k,[1,2,3,7,8,9,17,18,40,41],KB,Nat.sub_lt_sub_left xH (Nat.lt_succ_self _),by subst e1 e3 hKB;kernel_rfl,k+1,rfl,xH,by subst e1 e3;rfl,by subst e1 e3 hKB;rw[←vu];rfl⟩
    ·have t6:=ez xH
     obtain rfl:k=more:=aa
     have hpe:=A7 (a:=a) (b:=b) (c:=c) (more:=k) (i:=i)
     rw[hpe]
     rw[e1,e3]
     conv=>whnf
     (repeat((first|refine aM t6 ?_|refine⟨_,[],[(61,⟨36,true,.one [.aN 25 5 0 (c+k)]⟩)],[],kQ rfl (aL.get (t:=188) rfl) rfl (aL.get (t:=36) rfl) rfl rfl rfl rfl aF,aJ,cV rfl,an, ?_⟩|refine⟨_,[(61,⟨36,true,.one [.aN 25 5 0 (c+k)]⟩)],[(62,_)],[],oq (kn:=62) rfl rfl rfl (aj rfl) (aj rfl) (aL.get (t:=188) rfl) rfl (aL.get (t:=188) rfl) rfl (aL.get (t:=36) rfl) (List.mem_cons_self ..) rfl Nat.one_pos rfl rfl aF aF,dv rfl,cV rfl,an, ?_⟩|refine⟨_,[(1002,_),(61,⟨36,true,.one [.aN 25 5 0 (c+k)]⟩)],[(62,_)],[(1002,_)],p6 (kn:=62) rfl rfl rfl (aj rfl) (aj rfl) (aL.get (t:=188) rfl) rfl (aL.get (t:=188) rfl) rfl (aL.get (t:=36) rfl) (List.mem_cons_self ..) (List.mem_cons_of_mem _ (List.mem_cons_self ..)) (by rfl) rfl Nat.one_pos rfl (by rfl) rfl aF aF,fW rfl rfl,cV rfl,dp (List.mem_cons_self ..) rfl rfl rfl, ?_⟩|rw[t6]|rw[s5]|rw[Nat.zero_add]);conv=>whnf))
     subst e1 e3
     exact⟨_,σ,[1,2,3,7,17,18],KE,Nat.sub_lt_sub_left aA (Nat.lt_succ_self _),by subst hσ hKE;kernel_rfl,_,rfl,aA,by subst hσ;rfl,by subst hσ hKE;rfl⟩
  ·obtain rfl:i=r:=aa
   subst e1
   conv=>whnf
   (repeat(first|(refine af rfl rfl ?_;conv=>whnf)))
   exact⟨aq.refl _,by repeat(first|exact get_nil|refine dL rfl ?_),get_nil⟩
end Go.Proofs.YtfpagioknjjacaaGreatDoor
