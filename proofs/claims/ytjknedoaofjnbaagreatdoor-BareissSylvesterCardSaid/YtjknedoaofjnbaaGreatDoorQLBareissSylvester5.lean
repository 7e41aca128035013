/- The texts Oe, Og, Oj, Oi, Ok, Ol, Om, On, Oo, Ou, Ov, Op, Ow, Ox. -/
import Derived.Test.YtjknedoaofjnbaaGreatDoorQLBareissSylvester4
namespace Go.Proofs.YtjknedoaofjnbaaGreatDoor
open Go.Sx
set_option linter.unusedSimpArgs false
set_option linter.unusedVariables false
set_option maxRecDepth 100000
set_option maxHeartbeats 4000000
theorem piv_or (a:List Int) (c r:Nat):(∀i,i<r→elz a c i 0=0)∨∃i,i<r∧elz a c i 0≠0∧∀j,j<i→elz a c j 0=0:=by
 induction r with
 |zero=>exact .inl fun i hi=>by omega
 |succ r ih=>
  rcases ih with h|⟨i,h1,h2⟩
  ·by_cases g:elz a c r 0=0
   ·refine .inl fun i hi=> ?_
    by_cases e:i=r
    ·rw[e,g]
    ·exact h i (by omega)
   ·exact .inr ⟨r,by omega,g,h⟩
  ·exact .inr ⟨i,by omega,h2⟩
structure StOK (n s B:Nat) (A0:Mz) (a:List Int) (b:Int) (w:Nat):Prop where
 le:s≤n
 ex:∃A:Mz,a=mkz (n - s) (n - s) (bmZ s A)∧b=detZ s A∧b≠0∧detZ n A0=sgZ w*detZ n A
 z:Zm (B*4^s) a
 zb:zs b≤B*4^s
 w:w≤s
theorem StOK.start {n B:Nat} {a:List Int} (ha:a.length=n*n) (hB:2≤B) (h:Zm B a):StOK n 0 B (elz a n) a 1 0 where
 le:=Nat.zero_le _
 ex:=⟨elz a n,by rw[←mkz_self ha,Nat.sub_zero];exact mkz_congr fun i k hi hk=>by rw[bmZ_zero,mkz_el hi hk],rfl,by decide,by rw[sgZ,Int.one_mul]⟩
 z:=by rw[Nat.pow_zero,Nat.mul_one];exact h
 zb:=by rw[zs_1];omega
 w:=Nat.le_refl _
theorem StOK.fin {n B:Nat} {A0:Mz} {a:List Int} {b:Int} {w:Nat} (h:StOK n n B A0 a b w):detZ n A0=if w % 2=1 then -b else b:=by
 obtain⟨A,_,rfl,_,e⟩:=h.ex
 rw[e,sgZ_mod]
 split<;>omega
theorem StOK.none {n s B:Nat} {A0:Mz} {a:List Int} {b:Int} {w:Nat} (h:StOK n s B A0 a b w) (hs:s<n) (h0:∀i,i<n - s→elz a (n - s) i 0=0):detZ n A0=0:=by
 obtain⟨A,rfl,rfl,hb,e⟩:=h.ex
 rw[e,bmZ_sing hb hs fun i hi=>by have:=h0 i (by omega);rwa [mkz_el (by omega) (by omega)]at this,Int.mul_zero]
theorem StOK.turn {n s B:Nat} {A0:Mz} {a:List Int} {b:Int} {w j:Nat} (h:StOK n s B A0 a b w) (hj:s+j<n):
  ∃w',w'=(if 0<j then w+1 else w)∧(∃A:Mz,mkz (n - s) (n - s) (swapZ (elz a (n - s)) 0 j)=mkz (n - s) (n - s) (bmZ s A)∧b=detZ s A∧b≠0∧detZ n A0=sgZ w'*detZ n A)∧Zm (B*4^s) (mkz (n - s) (n - s) (swapZ (elz a (n - s)) 0 j)):=by
 obtain⟨A,ha,hb,hb0,e⟩:=h.ex
 have hl:a.length=(n - s)*(n - s):=by rw[ha,mkz_len]
 refine⟨_,rfl,⟨swapZ A s (s+j), ?_, ?_,hb0, ?_⟩, ?_⟩
 ·refine mkz_congr fun p q hp hq=> ?_
  rw[bmZ_swap]
  have e2:∀p,p<n - s→elz a (n - s) p q=bmZ s A p q:=fun p hp=>by rw[ha,mkz_el hp hq]
  unfold swapZ
  by_cases h1:p=0
  ·rw[if_pos h1,if_pos h1,e2 j (by omega)]
  ·rw[if_neg h1,if_neg h1]
   by_cases h2:p=j
   ·rw[if_pos h2,if_pos h2,e2 0 (by omega)]
   ·rw[if_neg h2,if_neg h2,e2 p hp]
 ·rw[detZ_swap_lead,hb]
 ·by_cases g:0<j
  ·rw[if_pos g,detZ_swap A (by omega) hj (by omega),sgZ,e,Int.neg_mul_neg]
  ·rw[if_neg g,show s+j=s by omega,swapZ_self,e]
 ·refine Zm_mk fun p q hp hq=> ?_
  unfold swapZ
  split
  ·exact elz_zm h.z hl (by omega) hq
  ·split
   ·exact elz_zm h.z hl (by omega) hq
   ·exact elz_zm h.z hl hp hq
theorem StOK.next {n s B:Nat} {A0:Mz} {a:List Int} {b:Int} {w:Nat} (hs:s<n) (hw:w≤s+1) (hz:Zm (B*4^s) a) (hx:∃A:Mz,a=mkz (n - s) (n - s) (bmZ s A)∧b=detZ s A∧b≠0∧detZ n A0=sgZ w*detZ n A) (h0:elz a (n - s) 0 0≠0):
  StOK n (s+1) B A0 (nxt (n - (s+1)) (n - (s+1)) a b) (elz a (n - s) 0 0) w:=by
 obtain⟨A,ha,hb,hb0,e⟩:=hx
 have hl:a.length=(n - s)*(n - s):=by rw[ha,mkz_len]
 have hn:n - s=n - (s+1)+1:=by omega
 have e2:∀p q,p<n - s→q<n - s→elz a (n - s) p q=bmZ s A p q:=fun p q hp hq=>by rw[ha,mkz_el hp hq]
 have hpow:B*4^(s+1)=4*(B*4^s):=by rw[Nat.pow_succ];rw[←Nat.mul_assoc,Nat.mul_comm]
 refine⟨hs,⟨A, ?_, ?_,h0,e⟩, ?_, ?_,hw⟩
 ·refine mkz_congr fun i k hi hk=> ?_
  rw[crZ,←hn,e2 0 0 (by omega) (by omega),e2 (i+1) (k+1) (by omega) (by omega),e2 (i+1) 0 (by omega) (by omega),e2 0 (k+1) (by omega) (by omega),hb]
  exact bmZ_div (by rwa [hb]at hb0) i k
 ·rw[e2 0 0 (by omega) (by omega),bmZ_first]
 ·rw[hpow]
  refine Zm_mk fun i k hi hk=>Nat.le_trans (zs_div _ _) ?_
  exact crZ_zs hz (by rw[hl,hn]) hi hk
 ·rw[hpow]
  have:=elz_zm hz hl (i:=0) (k:=0) (by omega) (by omega);omega
end Go.Proofs.YtjknedoaofjnbaaGreatDoor
namespace Go.Proofs.YtjknedoaofjnbaaGreatDoor
open Go.Sx
set_option linter.unusedSimpArgs false
set_option linter.unusedVariables false
set_option maxRecDepth 100000
set_option maxHeartbeats 40000000
abbrev zIB:Blk:=⟨51,true,.one [.int 0]⟩
theorem b_det {n B:Nat} {a:List Int} (ha:OKZ n n a) (hB:2≤B) (za:Zm B a) (hn:n≤40) (hb:2*(B*4^n)≤1073741824):CallOK Tryz.prog 134 [wA n n a] [] (.int (detZ n (elz a n))) [] []:=by
 have k0:=b_begin n n a
 have hs0:=StOK.start ha.n hB za
 generalize elz a n=A0 at*
 refine callV (Z:=[1]) tabOK mixedOK Tryz.func134 rfl (by kernel_rfl) rfl rfl (by kernel_rfl) rfl ?_
 intro W0 w0 ρ0 hE
 conv=>whnf
 (repeat(first|(refine g_c (by assumption) ?_;conv=>whnf)|(refine g_o (op_loadA rfl (ev_ok rfl) (tgt rfl) rfl (Nat.succ_ne_zero _) rfl) ?_;conv=>whnf)))
 refine SW_loopN hE (fun k=>k) [2,3] [2,3] (fun m fr hp=>∃(s:Nat) (a:List Int) (b:Int) (w:Nat),s+m=n∧StOK n s B A0 a b w∧fr=[(2,.ptr 2 0 0 0),(3,.ptr 3 0 0 0)]∧
  hp=[(2,zIB),(3,bS m m a b w)]) n ?_ ?_ ?_
 ·kernel_rfl
 ·exact⟨0,a,1,0,Nat.zero_add n,hs0,rfl,rfl⟩
 clear hs0 ha za k0
 rintro m _ _ ⟨s,a,b,w,hm,hst,rfl,rfl⟩
 conv=>whnf
 cases m with
 |zero=>
  have t1:decide (((0:Nat):Int)>0)=false:=by decide
  obtain rfl:s=n:=hm
  have e:=hst.fin
  have hw:=hst.w
  have e3:((w:Nat):Int).tmod 2=(w:Int) % 2:=Int.tmod_eq_emod_of_nonneg (Int.natCast_nonneg _)
  by_cases hodd:w % 2=1
  ·rw[if_pos hodd]at e
   rw[e]
   have k1:=c_Neg b
   have t2:(((w:Nat):Int).tmod 2==1)=true:=by rw[e3];exact beq_iff_eq.2 (by omega)
   (repeat((first|refine step_w1 rfl rfl ?_|refine step_w2 rfl rfl ?_|refine step_oN (by first|omega|decide|(simp only[tl0,dlen,List.length_replicate,List.length_set,List.length_map,List.length_zipWith,List.length_take,List.length_append,List.length_cons,List.length_nil];omega)) ?_|refine g_c (by assumption) ?_|rw[t1]|rw[t2]);conv=>whnf));(first|exact Recast.refl _|exact Frz.recast (Recast.refl _) rfl|(refine Frz.one rfl rfl ?_;skip)|(refine Frz.tup ?_;skip))
  ·rw[if_neg hodd]at e
   rw[e]
   have t2:(((w:Nat):Int).tmod 2==1)=false:=by rw[e3];exact beq_eq_false_iff_ne.2 (by omega)
   (repeat((first|refine step_w2 rfl rfl ?_|refine step_oN (by first|omega|decide|(simp only[tl0,dlen,List.length_replicate,List.length_set,List.length_map,List.length_zipWith,List.length_take,List.length_append,List.length_cons,List.length_nil];omega)) ?_|rw[t1]|rw[t2]);conv=>whnf));(first|exact Recast.refl _|exact Frz.recast (Recast.refl _) rfl|(refine Frz.one rfl rfl ?_;skip)|(refine Frz.tup ?_;skip))
 |succ k=>
  have t1:decide (((k+1:Nat):Int)>0)=true:=decide_eq_true (by omega)
  have hns:n - s=k+1:=by omega
  have hok:OKZ (k+1) (k+1) a:=⟨by omega,by omega,by obtain⟨A,e,_⟩:=hst.ex;rw[e,mkz_len,hns]⟩
  rcases piv_or a (k+1) (k+1)with h0|⟨j,hj,hj0,hjb⟩
  ·have k1:=b_turned_no (b:=b) (s:=w) hok h0
   have e:=hst.none (by omega) (by rw[hns];exact h0)
   rw[e]
   (repeat(first|(refine step_w1 rfl rfl ?_;conv=>whnf)|(refine g_c (by assumption) ?_;conv=>whnf)|(rw[t1];conv=>whnf)));(first|exact Recast.refl _|exact Frz.recast (Recast.refl _) rfl|(refine Frz.one rfl rfl ?_;skip)|(refine Frz.tup ?_;skip))
  ·have hpow:B*4^s*4≤B*4^n:=by
    have:B*4^(s+1)≤B*4^n:=Nat.mul_le_mul_left B (Nat.pow_le_pow_right (by decide) (by omega))
    rwa [Nat.pow_succ,←Nat.mul_assoc]at this
   have hzb:=hst.zb
   have hw:=hst.w
   have k1:=b_turned (b:=b) (s:=(w:Nat)) hok hj hjb hj0 (by omega)
   obtain⟨w',ew,hx,hz⟩:=hst.turn (j:=j) (by omega)
   rw[hns]at hx hz
   rw[show(if 0<j then((w:Nat):Int)+1 else(w:Nat))=((w':Nat):Int)from by rw[ew];split<;>simp]at k1
   have hok':OKZ (k+1) (k+1) (mkz (k+1) (k+1) (swapZ (elz a (k+1)) 0 j)):=OKZ.mk' (by omega) (by omega) _
   have h00:elz (mkz (k+1) (k+1) (swapZ (elz a (k+1)) 0 j)) (k+1) 0 0≠0:=by
    rw[mkz_el (by omega) (by omega)];exact hj0
   have hw':w'≤s+1:=by rw[ew];split<;>omega
   generalize mkz (k+1) (k+1) (swapZ (elz a (k+1)) 0 j)=a' at*
   have k2:=b_next (b:=b) (s:=(w':Nat)) hok' hz (by omega)
   have hnx:=StOK.next (B:=B) (A0:=A0) (a:=a') (b:=b) (w:=w') (s:=s) (n:=n) (by omega) hw' hz (by rw[hns];exact hx) (by rw[hns];exact h00)
   rw[hns,show n - (s+1)=k by omega]at hnx
   clear hst hx hz hok hok' hpow hzb
   (repeat((first|refine step_w1 rfl rfl ?_|refine step_w2 rfl rfl ?_|refine g_c (by assumption) ?_|rw[t1]|rw[Nat.zero_add]);conv=>whnf))
   exact⟨k,fun k=>k,[2,3],[2,3],by omega,by kernel_rfl,s+1,_,_,w',by omega,hnx,rfl,rfl⟩
end Go.Proofs.YtjknedoaofjnbaaGreatDoor
namespace Go.Proofs.YtjknedoaofjnbaaGreatDoor
open Go.Sx
set_option linter.unusedSimpArgs false
set_option linter.unusedVariables false
set_option maxRecDepth 100000
set_option maxHeartbeats 40000000
theorem b_over64 (F:Int→Int) (g:FuncId) (l:List Int) (hl:l.length<1099511627776) (hf:∀i,i<l.length→CallOK Tryz.prog g ([]++([iv (l.getD i 0)]++[])) [] (.int (F (l.getD i 0))) [] []):
  CallOK Tryz.prog 182 [ivec .i64 l,.clo g [] []] [] (zvec (l.map F)) [] []:=by
 have hz:(l.map F).length=l.length:=List.length_map _
 refine callF (Z:=[]) tabOK mixedOK Tryz.func182 rfl (by kernel_rfl) (by first|rfl|(simp[keylessL,keyless,keylessL_map, *];done)) (by first|rfl|(simp[keylessL,keyless,keylessL_map, *];done)) (by kernel_rfl) rfl ?_
 intro w0 ρ0 hE
 conv=>whnf
 (repeat(first|(refine step_oA (by first|omega|decide|(simp only[tl0,dlen,List.length_replicate,List.length_set,List.length_map,List.length_zipWith,List.length_take,List.length_append,List.length_cons,List.length_nil];omega)) ?_;conv=>whnf)|(refine g_o (op_lenM rfl rfl rfl (ev_ok rfl) (tgt rfl) rfl) ?_;conv=>whnf)|(rw[Int.toNat_natCast];conv=>whnf)))
 refine SW_loopN hE (fun k=>k) [1,4,5,11,12,13] [10] (fun m fr hp=>∃i,m=l.length - i∧i≤l.length∧fr=[(1,.clo g [] []),(4,.val (.slice none 0 0)),(5,.slc 10 3 0 l.length),(11,ivec .i64 l),(12,iv (l.length:Nat)),(13,iv (i:Nat))]∧
  hp=[(10,zfil (l.map F) l.length i)]) l.length ?_ ?_ ?_
 ·kernel_rfl
 ·exact⟨0,rfl,Nat.zero_le _,rfl,by rw[zfil,List.take_zero];rfl⟩
 rintro m _ _ ⟨i,rfl,hi,rfl,rfl⟩
 conv=>whnf
 have hlen:=zfil_len hi hz
 by_cases hlt:i<l.length
 ·have t1:=dlt hlt
  have t2:=winc (i:=i) (by omega)
  have t3:=zfil_get hlt hz
  have k1:=hf i hlt
  rw[←map_getD (f:=F) (d:=0) (e:=0) hlt]at k1
  (repeat((first|refine step_oL (by first|omega|decide|(simp only[tl0,dlen,List.length_replicate,List.length_set,List.length_map,List.length_zipWith,List.length_take,List.length_append,List.length_cons,List.length_nil];omega)) ?_|refine step_oA (by first|omega|decide|(simp only[tl0,dlen,List.length_replicate,List.length_set,List.length_map,List.length_zipWith,List.length_take,List.length_append,List.length_cons,List.length_nil];omega)) ?_|refine g_c (by assumption) ?_|refine tst_tt t1 ?_|refine g_o (op_loadA rfl (ev_ok rfl) (tgt rfl) rfl (Nat.succ_ne_zero _) rfl) ?_|refine g_o (op_indexN (α:=Int) (d:=0) rfl (ev_ok rfl) (ev_ok rfl) (tgt rfl) rfl (tgt rfl) rfl (by omega)) ?_|rw[t1]|rw[t3]|rw[t2]|rw[Int.toNat_natCast]|rw[Nat.zero_add]);conv=>whnf))
  refine⟨l.length - (i+1),fun k=>k,[1,4,5,11,12,13],[10],by omega,by kernel_rfl,i+1,rfl,hlt,rfl, ?_⟩
  rw[zfil,←zfil_set hlt hz]
  rfl
 ·have t1:=dge hlt
  have hI:i=l.length:=by omega
  subst hI
  rw[zfil_all hz]
  (repeat(first|(refine tst_ff t1 ?_;conv=>whnf)));(first|exact Recast.refl _|exact Frz.recast (Recast.refl _) rfl|(refine Frz.one rfl rfl ?_;(repeat(first|(refine FrzC.seq rfl (by first|rfl|(apply keylessL_map;intro _;rfl)) ?_;(first|rfl|omega|(simp<;>fail)|(simp<;>omega))))))|(refine Frz.tup ?_;skip))
theorem b_over1 (F:Int→Int) (g:FuncId) (p:Pred) (l:List Int) (hl:l.length<1099511627776) (hf:∀i,i<l.length→CallOK Tryz.prog g ([]++([iv (l.getD i 0)]++[.atom p])) [] (.int (F (l.getD i 0))) [] []):
  CallOK Tryz.prog 147 [ivec .i64 l,.clo g [] [.atom p]] [] (zvec (l.map F)) [] []:=by
 have hz:(l.map F).length=l.length:=List.length_map _
 refine callF (Z:=[]) tabOK mixedOK Tryz.func147 rfl (by kernel_rfl) (by first|rfl|(simp[keylessL,keyless,keylessL_map, *];done)) (by first|rfl|(simp[keylessL,keyless,keylessL_map, *];done)) (by kernel_rfl) rfl ?_
 intro w0 ρ0 hE
 conv=>whnf
 (repeat(first|(refine step_oA (by first|omega|decide|(simp only[tl0,dlen,List.length_replicate,List.length_set,List.length_map,List.length_zipWith,List.length_take,List.length_append,List.length_cons,List.length_nil];omega)) ?_;conv=>whnf)|(refine g_o (op_lenM rfl rfl rfl (ev_ok rfl) (tgt rfl) rfl) ?_;conv=>whnf)|(rw[Int.toNat_natCast];conv=>whnf)))
 refine SW_loopN hE (fun k=>k) [1,4,5,11,12,13] [10] (fun m fr hp=>∃i,m=l.length - i∧i≤l.length∧fr=[(1,.clo g [] [.atom p]),(4,.val (.slice none 0 0)),(5,.slc 10 3 0 l.length),(11,ivec .i64 l),(12,iv (l.length:Nat)),(13,iv (i:Nat))]∧
  hp=[(10,zfil (l.map F) l.length i)]) l.length ?_ ?_ ?_
 ·kernel_rfl
 ·exact⟨0,rfl,Nat.zero_le _,rfl,by rw[zfil,List.take_zero];rfl⟩
 rintro m _ _ ⟨i,rfl,hi,rfl,rfl⟩
 conv=>whnf
 have hlen:=zfil_len hi hz
 by_cases hlt:i<l.length
 ·have t1:=dlt hlt
  have t2:=winc (i:=i) (by omega)
  have t3:=zfil_get hlt hz
  have k1:=hf i hlt
  rw[←map_getD (f:=F) (d:=0) (e:=0) hlt]at k1
  (repeat((first|refine step_oL (by first|omega|decide|(simp only[tl0,dlen,List.length_replicate,List.length_set,List.length_map,List.length_zipWith,List.length_take,List.length_append,List.length_cons,List.length_nil];omega)) ?_|refine step_oA (by first|omega|decide|(simp only[tl0,dlen,List.length_replicate,List.length_set,List.length_map,List.length_zipWith,List.length_take,List.length_append,List.length_cons,List.length_nil];omega)) ?_|refine g_c (by assumption) ?_|refine tst_tt t1 ?_|refine g_o (op_loadA rfl (ev_ok rfl) (tgt rfl) rfl (Nat.succ_ne_zero _) rfl) ?_|refine g_o (op_indexN (α:=Int) (d:=0) rfl (ev_ok rfl) (ev_ok rfl) (tgt rfl) rfl (tgt rfl) rfl (by omega)) ?_|rw[t1]|rw[t3]|rw[t2]|rw[Int.toNat_natCast]|rw[Nat.zero_add]);conv=>whnf))
  refine⟨l.length - (i+1),fun k=>k,[1,4,5,11,12,13],[10],by omega,by kernel_rfl,i+1,rfl,hlt,rfl, ?_⟩
  rw[zfil,←zfil_set hlt hz]
  rfl
 ·have t1:=dge hlt
  have hI:i=l.length:=by omega
  subst hI
  rw[zfil_all hz]
  (repeat(first|(refine tst_ff t1 ?_;conv=>whnf)));(first|exact Recast.refl _|exact Frz.recast (Recast.refl _) rfl|(refine Frz.one rfl rfl ?_;(repeat(first|(refine FrzC.seq rfl (by first|rfl|(apply keylessL_map;intro _;rfl)) ?_;(first|rfl|omega|(simp<;>fail)|(simp<;>omega))))))|(refine Frz.tup ?_;skip))
theorem b_over2 (F:Int→Int) (g:FuncId) (p q:Pred) (l:List Int) (hl:l.length<1099511627776) (hf:∀i,i<l.length→CallOK Tryz.prog g ([]++([iv (l.getD i 0)]++[.atom p,.atom q])) [] (.int (F (l.getD i 0))) [] []):
  CallOK Tryz.prog 147 [ivec .i64 l,.clo g [] [.atom p,.atom q]] [] (zvec (l.map F)) [] []:=by
 have hz:(l.map F).length=l.length:=List.length_map _
 refine callF (Z:=[]) tabOK mixedOK Tryz.func147 rfl (by kernel_rfl) (by first|rfl|(simp[keylessL,keyless,keylessL_map, *];done)) (by first|rfl|(simp[keylessL,keyless,keylessL_map, *];done)) (by kernel_rfl) rfl ?_
 intro w0 ρ0 hE
 conv=>whnf
 (repeat(first|(refine step_oA (by first|omega|decide|(simp only[tl0,dlen,List.length_replicate,List.length_set,List.length_map,List.length_zipWith,List.length_take,List.length_append,List.length_cons,List.length_nil];omega)) ?_;conv=>whnf)|(refine g_o (op_lenM rfl rfl rfl (ev_ok rfl) (tgt rfl) rfl) ?_;conv=>whnf)|(rw[Int.toNat_natCast];conv=>whnf)))
 refine SW_loopN hE (fun k=>k) [1,4,5,11,12,13] [10] (fun m fr hp=>∃i,m=l.length - i∧i≤l.length∧fr=[(1,.clo g [] [.atom p,.atom q]),(4,.val (.slice none 0 0)),(5,.slc 10 3 0 l.length),(11,ivec .i64 l),(12,iv (l.length:Nat)),(13,iv (i:Nat))]∧
  hp=[(10,zfil (l.map F) l.length i)]) l.length ?_ ?_ ?_
 ·kernel_rfl
 ·exact⟨0,rfl,Nat.zero_le _,rfl,by rw[zfil,List.take_zero];rfl⟩
 rintro m _ _ ⟨i,rfl,hi,rfl,rfl⟩
 conv=>whnf
 have hlen:=zfil_len hi hz
 by_cases hlt:i<l.length
 ·have t1:=dlt hlt
  have t2:=winc (i:=i) (by omega)
  have t3:=zfil_get hlt hz
  have k1:=hf i hlt
  rw[←map_getD (f:=F) (d:=0) (e:=0) hlt]at k1
  (repeat((first|refine step_oL (by first|omega|decide|(simp only[tl0,dlen,List.length_replicate,List.length_set,List.length_map,List.length_zipWith,List.length_take,List.length_append,List.length_cons,List.length_nil];omega)) ?_|refine step_oA (by first|omega|decide|(simp only[tl0,dlen,List.length_replicate,List.length_set,List.length_map,List.length_zipWith,List.length_take,List.length_append,List.length_cons,List.length_nil];omega)) ?_|refine g_c (by assumption) ?_|refine tst_tt t1 ?_|refine g_o (op_loadA rfl (ev_ok rfl) (tgt rfl) rfl (Nat.succ_ne_zero _) rfl) ?_|refine g_o (op_indexN (α:=Int) (d:=0) rfl (ev_ok rfl) (ev_ok rfl) (tgt rfl) rfl (tgt rfl) rfl (by omega)) ?_|rw[t1]|rw[t3]|rw[t2]|rw[Int.toNat_natCast]|rw[Nat.zero_add]);conv=>whnf))
  refine⟨l.length - (i+1),fun k=>k,[1,4,5,11,12,13],[10],by omega,by kernel_rfl,i+1,rfl,hlt,rfl, ?_⟩
  rw[zfil,←zfil_set hlt hz]
  rfl
 ·have t1:=dge hlt
  have hI:i=l.length:=by omega
  subst hI
  rw[zfil_all hz]
  (repeat(first|(refine tst_ff t1 ?_;conv=>whnf)));(first|exact Recast.refl _|exact Frz.recast (Recast.refl _) rfl|(refine Frz.one rfl rfl ?_;(repeat(first|(refine FrzC.seq rfl (by first|rfl|(apply keylessL_map;intro _;rfl)) ?_;(first|rfl|omega|(simp<;>fail)|(simp<;>omega))))))|(refine Frz.tup ?_;skip))
theorem b_Of {r c:Nat} {l:List Int} (hr:r≤2048) (hc:c≤2048) (hl:l.length=r*c) (h:∀i,i<l.length→ -9223372036854775808≤l.getD i 0∧l.getD i 0<9223372036854775808):
  CallOK Tryz.prog 123 [iv r,iv c,ivec .i64 l] [] (.tup [wA r c l,iv 0]) [] []:=by
 have hb:l.length<1099511627776:=by have:r*c≤2048*2048:=Nat.mul_le_mul hr hc;omega
 have k1:=b_over64 (fun x=>x) 109 l hb (fun i hi=>c_iOf _ (h i hi).1 (h i hi).2)
 rw[List.map_id']at k1
 have k2:=b_Check r c l hb (fun i hi=>Nat.le_trans (zs_i64 (h i hi).1 (h i hi).2) (by decide))
 rw[check_ok hr hc hl]at k2
 refine callV (Z:=[]) tabOK mixedOK Tryz.func123 rfl (by kernel_rfl) rfl rfl (by kernel_rfl) rfl ?_
 intro W0 w0 ρ0 hE
 conv=>whnf
 (repeat(first|(refine step_w2 rfl rfl ?_;conv=>whnf)|(refine g_c (by assumption) ?_;conv=>whnf)));(first|exact Recast.refl _|exact Frz.recast (Recast.refl _) rfl|(refine Frz.one rfl rfl ?_;skip)|(refine Frz.tup ?_;skip))
theorem b_Text (r c:Int) (l:List Int) (hl:l.length<1099511627776) (h:∀i,i<l.length→zs (l.getD i 0)≤536870912) {t:ByteArray} (ht:CallOK Tryz.prog 29 [mA r c (ofInts l)] [] (.val (.string t)) [] []):
  CallOK Tryz.prog 124 [wA r c l] [] (.val (.string t)) [] []:=by
 have k1:=b_mat r c l hl h
 refine callV (Z:=[]) tabOK mixedOK Tryz.func124 rfl (by kernel_rfl) rfl rfl (by kernel_rfl) rfl ?_
 intro W0 w0 ρ0 hE
 conv=>whnf
 (repeat(first|(refine g_c (by assumption) ?_;conv=>whnf)));(first|exact Recast.refl _|exact Frz.recast (Recast.refl _) rfl|(refine Frz.one rfl rfl ?_;skip)|(refine Frz.tup ?_;skip))
def pZ (l:List Int):Int:=l.foldl (·*·) 1
theorem pZ_take {l:List Int} {i:Nat} (hi:i<l.length):pZ (l.take (i+1))=pZ (l.take i)*l.getD i 0:=by
 rw[pZ,List.take_add_one,List.getElem?_eq_getElem hi,List.foldl_append,List.getD_eq_getElem?_getD,List.getElem?_eq_getElem hi];rfl
theorem pZ_zs {l:List Int} {B:Nat} (h:Zm B l):∀i,i≤l.length→zs (pZ (l.take i))≤2+i*B
 |0,_=>by rw[List.take_zero,pZ,List.foldl_nil,zs_1];omega
 |i+1,hi=>by
  have h1:=pZ_zs h i (by omega)
  have h2:=h i (by omega)
  have:=zs_mul (pZ (l.take i)) (l.getD i 0)
  rw[pZ_take (by omega),Nat.succ_mul];omega
theorem b_product {l:List Int} {B:Nat} (hz:Zm B l) (hl:l.length<1099511627776) (hb:2+(l.length+1)*B≤1073741824):CallOK Tryz.prog 187 [zvec l] [] (.int (pZ l)) [] []:=by
 have k0:=c_iOf 1 (by decide) (by decide)
 refine callV (Z:=[]) tabOK mixedOK Tryz.func187 rfl (by kernel_rfl) rfl rfl (by kernel_rfl) rfl ?_
 intro W0 w0 ρ0 hE
 conv=>whnf
 (repeat(first|(refine g_c (by assumption) ?_;conv=>whnf)|(refine g_o (op_lenM rfl rfl rfl (ev_ok rfl) (tgt rfl) rfl) ?_;conv=>whnf)))
 refine SW_loopN hE (fun k=>k) [2,3,7,8,9] [2,3] (fun m fr hp=>∃i,m=l.length - i∧i≤l.length∧fr=[(2,.ptr 2 0 0 0),(3,.ptr 3 0 0 0),(7,zvec l),(8,iv (l.length:Nat)),(9,iv (i:Nat))]∧
  hp=[(2,zIB),(3,⟨51,true,.one [.int (pZ (l.take i))]⟩)]) l.length ?_ ?_ ?_
 ·kernel_rfl
 ·exact⟨0,rfl,Nat.zero_le _,rfl,rfl⟩
 clear k0
 rintro m _ _ ⟨i,rfl,hi,rfl,rfl⟩
 conv=>whnf
 by_cases hlt:i<l.length
 ·have t1:=dlt hlt
  have t2:=winc (i:=i) (by omega)
  have h1:=pZ_zs hz i hi
  have h2:=hz i hlt
  have h3:i*B≤l.length*B:=Nat.mul_le_mul_right B hi
  rw[Nat.succ_mul]at hb
  have k1:=zz_Mul (pZ (l.take i)) (l.getD i 0) (by omega)
  (repeat((first|refine g_c (by assumption) ?_|refine tst_tt t1 ?_|refine g_o (op_loadA rfl (ev_ok rfl) (tgt rfl) rfl (Nat.succ_ne_zero _) rfl) ?_|refine g_o (op_indexN (α:=Int) (d:=0) rfl (ev_ok rfl) (ev_ok rfl) (tgt rfl) rfl (tgt rfl) rfl (by omega)) ?_|rw[t1]|rw[t2]);conv=>whnf))
  exact⟨l.length - (i+1),fun k=>k,[2,3,7,8,9],[2,3],by omega,by kernel_rfl,i+1,rfl,hlt,rfl,by rw[pZ_take hlt];rfl⟩
 ·have t1:=dge hlt
  rw[List.take_of_length_le (by omega)]
  (repeat(first|(refine tst_ff t1 ?_;conv=>whnf)));(first|exact Recast.refl _|exact Frz.recast (Recast.refl _) rfl|(refine Frz.one rfl rfl ?_;skip)|(refine Frz.tup ?_;skip))
def rowZ (a:List Int) (c i:Nat):Int:=sumZ c fun k=>((elz a c i k).natAbs:Int)
theorem sumZ_zs {f:Nat→Int} {B:Nat}:∀n,(∀i,i<n→zs (f i)≤B)→zs (sumZ n f)≤1+n*B
 |0,_=>by rw[sumZ,zs_zero];omega
 |n+1,h=>by
  have h1:=sumZ_zs n (fun i hi=>h i (by omega))
  have h2:=h n (by omega)
  have:=zs_add (sumZ n f) (f n)
  rw[sumZ,Nat.succ_mul];omega
theorem b_Bound1 {r c B:Nat} {a:List Int} (ha:OKZ r c a) (za:Zm B a) (hb:1+(c+1)*B≤1073741824) {i:Nat} (hi:i<r):
  CallOK Tryz.prog 188 ([]++([iv (i:Nat)]++[ptrA (wC r c a)])) [] (.int (rowZ a c i)) [] []:=by
 have hc:=ha.c
 refine callV (Z:=[]) tabOK mixedOK Tryz.func188 rfl (by kernel_rfl) rfl rfl (by kernel_rfl) rfl ?_
 intro W0 w0 ρ0 hE
 conv=>whnf
 (repeat(first|(refine g_o (op_loadA rfl (ev_ok rfl) (tgt rfl) rfl (Nat.succ_ne_zero _) rfl) ?_;conv=>whnf)|(refine g_o (op_fieldA rfl (ev_ok rfl) (tgt rfl) rfl rfl (Nat.succ_ne_zero _) rfl) ?_;conv=>whnf)))
 refine SW_loopN hE (fun k=>k) [0,1,3,6,7] [3] (fun m fr hp=>∃k:Nat,m=c - k∧k≤c∧fr=[(0,iv (i:Nat)),(1,ptrA (wC r c a)),(3,.ptr 3 0 0 0),(6,iv c),(7,iv (k:Nat))]∧
  hp=[(3,⟨51,true,.one [.int (sumZ k fun k=>((elz a c i k).natAbs:Int))]⟩)]) c ?_ ?_ ?_
 ·kernel_rfl
 ·exact⟨0,rfl,Nat.zero_le _,rfl,rfl⟩
 rintro m _ _ ⟨k,rfl,hk,rfl,rfl⟩
 conv=>whnf
 by_cases hlt:k<c
 ·have t1:=dlt hlt
  have t2:=winc (i:=k) (by omega)
  have k1:=b_at ha hi hlt
  have k2:=c_Abs (elz a c i k)
  have k3:=c_From false (elz a c i k).natAbs
  have h1:=sumZ_zs (f:=fun k=>((elz a c i k).natAbs:Int)) (B:=B) k (fun j hj=>by rw[zs_abs];exact elz_zm za ha.n hi (by omega))
  have h2:=elz_zm za ha.n hi hlt
  have h3:k*B≤c*B:=Nat.mul_le_mul_right B hk
  rw[Nat.succ_mul]at hb
  rw[show signed false (elz a c i k).natAbs=((elz a c i k).natAbs:Int)from rfl]at k3
  have k4:=zz_Add (sumZ k fun k=>((elz a c i k).natAbs:Int)) ((elz a c i k).natAbs:Int) (by rw[zs_abs];omega)
  (repeat((first|refine step_i (by kernel_rfl) ?_|refine g_c (by assumption) ?_|refine tst_tt t1 ?_|refine g_o (op_loadA rfl (ev_ok rfl) (tgt rfl) rfl (Nat.succ_ne_zero _) rfl) ?_|rw[t1]|rw[t2]);conv=>whnf))
  exact⟨c - (k+1),fun k=>k,[0,1,3,6,7],[3],by omega,by kernel_rfl,k+1,rfl,hlt,rfl,rfl⟩
 ·have t1:=dge hlt
  obtain rfl:k=c:=by omega
  (repeat(first|(refine tst_ff t1 ?_;conv=>whnf)));(first|exact Recast.refl _|exact Frz.recast (Recast.refl _) rfl|(refine Frz.one rfl rfl ?_;skip)|(refine Frz.tup ?_;skip))
theorem b_Bound {r c B:Nat} {a:List Int} (ha:OKZ r c a) (za:Zm B a) (hB:B≤536870912) (hb:2+(r+1)*(1+(c+1)*B)≤1073741824):
  CallOK Tryz.prog 126 [wA r c a] [] (.tup [.int (pZ ((upN r).map fun x=>rowZ a c x.toNat)),iv 0]) [] []:=by
 have hr:=ha.r
 have hc:=ha.c
 have hcb:1+(c+1)*B≤1073741824:=by
  have:1*(1+(c+1)*B)≤(r+1)*(1+(c+1)*B):=Nat.mul_le_mul_right _ (by omega)
  omega
 have k0:=b_Check r c a (by have:=ha.n;have:r*c≤2048*2048:=Nat.mul_le_mul hr hc;omega) (fun i hi=>Nat.le_trans (za i hi) hB)
 rw[check_ok hr hc ha.n]at k0
 have k1:=(b_upToV r [] hr (by simp)).wk (args:=[iv r,.val (.slice none 0 0)]) (by repeat(first|exact WkL.nil|refine WkL.cons ?_ ?_|exact Wk.nil|exact Wk.refl|refine Wk.agg ?_))
 rw[show upL r []=upN r from List.append_nil _]at k1
 have hu:∀i,i<(upN r).length→(upN r).getD i 0=i:=fun i hi=>by
  rw[upN_len]at hi
  have:=upL_at (l:=[]) hi
  rwa [show upL r []=upN r from List.append_nil _]at this
 have k2:=b_over1 (fun x=>rowZ a c x.toNat) 188 (ptrP (wC r c a)) (upN r) (by rw[upN_len];omega) (fun i hi=>by
  rw[hu i hi];rw[upN_len]at hi
  exact b_Bound1 ha za hcb hi)
 have hzm:Zm (1+(c+1)*B) ((upN r).map fun x=>rowZ a c x.toNat):=by
  intro p hp
  rw[List.length_map]at hp
  rw[map_getD (d:=0) hp,hu p hp]
  rw[upN_len]at hp
  have:=sumZ_zs (f:=fun k=>((elz a c p k).natAbs:Int)) (B:=B) c (fun j hj=>by rw[zs_abs];exact elz_zm za ha.n hp hj)
  exact Nat.le_trans this (Nat.add_le_add_left (Nat.mul_le_mul_right B (Nat.le_succ c)) 1)
 have k3:=b_product hzm (by rw[List.length_map,upN_len];omega) (by rw[List.length_map,upN_len];exact hb)
 refine callV (Z:=[1]) tabOK mixedOK Tryz.func126 rfl (by kernel_rfl) rfl rfl (by kernel_rfl) rfl ?_
 intro W0 w0 ρ0 hE
 conv=>whnf
 (repeat((first|refine step_w2 rfl rfl ?_|refine g_c (by assumption) ?_|rw[bne_self_eq_false]|refine g_o (op_loadA rfl (ev_ok rfl) (tgt rfl) rfl (Nat.succ_ne_zero _) rfl) ?_|refine g_o (op_fieldA rfl (ev_ok rfl) (tgt rfl) rfl rfl (Nat.succ_ne_zero _) rfl) ?_|refine g_o (op_makeFunc rfl rfl rfl) ?_);conv=>whnf));(first|exact Recast.refl _|exact Frz.recast (Recast.refl _) rfl|(refine Frz.one rfl rfl ?_;skip)|(refine Frz.tup ?_;skip))
end Go.Proofs.YtjknedoaofjnbaaGreatDoor
namespace Go.Proofs.YtjknedoaofjnbaaGreatDoor
open Go.Sx
set_option linter.unusedSimpArgs false
set_option linter.unusedVariables false
set_option maxRecDepth 100000
set_option maxHeartbeats 40000000
theorem upL_to {s i x:Nat} (hx:x<s+1):((upL s [((s+i:Nat):Int)]).getD x 0).toNat=at1 s i x:=by
 unfold at1
 by_cases h:x<s
 ·rw[upL_at h,if_pos h];omega
 ·obtain rfl:x=s:=by omega
  rw[upL_last,if_neg h];omega
theorem upL_in {s i r:Nat} (hi:s+i<r):∀x,x<(upL s [((s+i:Nat):Int)]).length→0≤(upL s [((s+i:Nat):Int)]).getD x 0∧(upL s [((s+i:Nat):Int)]).getD x 0<r:=by
 intro x hx
 rw[upL_len]at hx
 by_cases h:x<s
 ·rw[upL_at h];omega
 ·obtain rfl:x=s:=by simp at hx;omega
  rw[upL_last];omega
theorem Zm_el {a:List Int} {r c B:Nat} (za:Zm B a) (ha:a.length=r*c) {m n:Nat} {f g:Nat→Nat} (hf:∀i,i<m→f i<r) (hg:∀i,i<n→g i<c):Zm B (mkz m n fun i k=>elz a c (f i) (g k)):=
 Zm_mk fun i k hi hk=>elz_zm za ha (hf i hi) (hg k hk)
theorem b_Stage1 {r c s B:Nat} {a:List Int} (ha:OKZ r c a) (za:Zm B a) (hB:2≤B) (hs:s<40) (hb:2*(B*4^(s+1))≤1073741824) {i k:Nat} (hi:s+i<r) (hk:s+k<c):
  CallOK Tryz.prog 139 ([]++([iv (i:Nat),iv (k:Nat)]++[ptrA (wC r c a),ptrA [iv s]])) [] (.int (bmZ s (elz a c) i k)) [] []:=by
 have hr:=ha.r
 have hc:=ha.c
 have k1:=b_upToV s [((s+i:Nat):Int)] (by omega) (by simp)
 have k2:=b_upToV s [((s+k:Nat):Int)] (by omega) (by simp)
 have k3:=b_part ha (upL_in hi) (upL_in hk) (by rw[upL_len];simp;omega) (by rw[upL_len];simp;omega)
 have e:∀x,(upL s [((s+x:Nat):Int)]).length=s+1:=fun x=>by rw[upL_len];rfl
 rw[e,e]at k3
 have k4:=b_det (n:=s+1) (B:=B) (a:=mkz (s+1) (s+1) fun x y=>elz a c ((upL s [((s+i:Nat):Int)]).getD x 0).toNat ((upL s [((s+k:Nat):Int)]).getD y 0).toNat) (OKZ.mk' (by omega) (by omega) _) hB
  (Zm_el za ha.n (fun x hx=>by rw[upL_to hx];unfold at1;split<;>omega) (fun x hx=>by rw[upL_to hx];unfold at1;split<;>omega)) (by omega) hb
 have ed:detZ (s+1) (elz (mkz (s+1) (s+1) fun x y=>elz a c ((upL s [((s+i:Nat):Int)]).getD x 0).toNat ((upL s [((s+k:Nat):Int)]).getD y 0).toNat) (s+1))=bmZ s (elz a c) i k:=
  detZ_congr fun x y hx hy=>by rw[mkz_el hx hy,upL_to hx,upL_to hy]
 rw[ed]at k4
 have w1:IntKind.i64.wrap ((s:Int)+(i:Int))=((s+i:Nat):Int):=by rw[wrap_i64 (by omega) (by omega)];omega
 have w2:IntKind.i64.wrap ((s:Int)+(k:Int))=((s+k:Nat):Int):=by rw[wrap_i64 (by omega) (by omega)];omega
 refine callV (Z:=[12,18]) tabOK mixedOK Tryz.func139 rfl (by kernel_rfl) rfl rfl (by kernel_rfl) rfl ?_
 intro W0 w0 ρ0 hE
 conv=>whnf
 (repeat((first|refine step_i (by kernel_rfl) ?_|refine g_c (by assumption) ?_|refine g_o (op_loadA rfl (ev_ok rfl) (tgt rfl) rfl (Nat.succ_ne_zero _) rfl) ?_|rw[w1]|rw[w2]);conv=>whnf));(first|exact Recast.refl _|exact Frz.recast (Recast.refl _) rfl|(refine Frz.one rfl rfl ?_;skip)|(refine Frz.tup ?_;skip))
abbrev stM (r c s:Nat) (a:List Int):List Int:=mkz (r - s) (c - s) (bmZ s (elz a c))
theorem b_Stage {r c s B:Nat} {a:List Int} (ha:OKZ r c a) (za:Zm B a) (hB:2≤B) (hs:s<40) (hb:2*(B*4^(s+1))≤1073741824) (hr':s≤r) (hc':s≤c):
  CallOK Tryz.prog 66 [wA r c a,iv s] [] (.tup [wA (r - s:Nat) (c - s:Nat) (stM r c s a),iv 0]) [] []:=by
 have hr:=ha.r
 have hc:=ha.c
 have hBb:B≤B*4^(s+1):=Nat.le_mul_of_pos_right B (Nat.pow_pos (by decide))
 have k0:=b_Check r c a (by have:=ha.n;have:r*c≤2048*2048:=Nat.mul_le_mul hr hc;omega) (fun i hi=>Nat.le_trans (za i hi) (by omega))
 rw[check_ok hr hc ha.n]at k0
 have k1:=b_begin r c a
 have k5:=b_made2 (r:=r - s) (c:=c - s) (by omega) (by omega) (bmZ s (elz a c)) 139 (ptrP (wC r c a)) (ptrP [iv s]) (fun i k hi hk=>b_Stage1 ha za hB hs hb (by omega) (by omega))
 have k6:=b_madeF (r:=r - s) (c:=c - s) (by omega) (by omega) (bmZ s (elz a c)) 137 ((r - s:Nat):Int) ((c - s:Nat):Int) (stM r c s a) (fun i k hi hk=>by
   have:=b_at (OKZ.mk' (r:=r - s) (c:=c - s) (by omega) (by omega) (bmZ s (elz a c))) hi hk
   rwa [mkz_el hi hk]at this)
 have t1:decide ((s:Int)<0)=false:=decide_eq_false (by omega)
 have t2:decide ((s:Int)>if (c:Int)<(r:Int)then(c:Int)else(r:Int))=false:=decide_eq_false (by split<;>omega)
 refine callV (Z:=[2,3]) tabOK mixedOK Tryz.func66 rfl (by kernel_rfl) rfl rfl (by kernel_rfl) rfl ?_
 intro W0 w0 ρ0 hE
 conv=>whnf
 (repeat((first|refine step_w1 rfl rfl ?_|refine step_w2 rfl rfl ?_|refine g_c (by assumption) ?_|refine g_o (op_pickF rfl (ev_ok rfl) (ev_ok rfl)) ?_|rw[bne_self_eq_false]|refine tst_ff t2 ?_|refine g_o (op_loadA rfl (ev_ok rfl) (tgt rfl) rfl (Nat.succ_ne_zero _) rfl) ?_|refine g_o (op_fieldA rfl (ev_ok rfl) (tgt rfl) rfl rfl (Nat.succ_ne_zero _) rfl) ?_|rw[t1]|rw[t2]);conv=>whnf))
 refine SW_loopN hE (fun k=>k) [2,3,4,5,7,29,30] [4,7] (fun m fr hp=>∃(i R C:Nat),m=s - i∧i≤s∧i+R=r∧i+C=c∧(∀j,j≤i→detZ j (elz a c)≠0)∧Zm (B*4^i) (mkz R C (bmZ i (elz a c)))∧zs (detZ i (elz a c))≤B*4^i∧
  fr=[(2,ptrA (wC r c a)),(3,ptrA [iv s]),(4,.ptr 4 0 0 0),(5,iv 0),(7,.ptr 7 0 0 0),(29,iv s),(30,iv (i:Nat))]∧
  hp=[(4,zW),(7,bS R C (mkz R C (bmZ i (elz a c))) (detZ i (elz a c)) 0)]) s ?_ ?_ ?_
 ·kernel_rfl
 ·have e:mkz r c (bmZ 0 (elz a c))=a:=mkz_ext ha.n fun i k hi hk=>bmZ_zero _ _ _
  refine⟨0,r,c,rfl,Nat.zero_le _,Nat.zero_add _,Nat.zero_add _,(fun j hj=>by rw[show j=0 by omega];exact(show(1:Int)≠0 by decide)), ?_, ?_,rfl, ?_⟩
  ·rw[e,Nat.pow_zero,Nat.mul_one];exact za
  ·rw[show detZ 0 (elz a c)=1 from rfl,zs_1];omega
  ·rw[e];rfl
 clear k1 k0
 rintro m _ _ ⟨i,R,C,rfl,hi,hR,hC,hne,hz,hzb,rfl,rfl⟩
 conv=>whnf
 by_cases hlt:i<s
 ·have t3:=dlt hlt
  have t4:=winc (i:=i) (by omega)
  obtain⟨R,rfl⟩:∃R',R=R'+1:=⟨R - 1,by omega⟩
  obtain⟨C,rfl⟩:∃C',C=C'+1:=⟨C - 1,by omega⟩
  have hok:OKZ (R+1) (C+1) (mkz (R+1) (C+1) (bmZ i (elz a c))):=OKZ.mk' (by omega) (by omega) _
  have k1:=b_at hok (i:=0) (k:=0) (by omega) (by omega)
  rw[mkz_el (by omega) (by omega),bmZ_first]at k1
  have k2:=c_Sign (detZ (i+1) (elz a c))
  by_cases h0:detZ (i+1) (elz a c)=0
  ·rw[h0]at k1
   have k2:=c_Sign 0
   have w1:IntKind.i64.wrap ((r:Int) - (s:Int))=((r - s:Nat):Int):=by rw[wrap_i64 (by omega) (by omega)];omega
   have w2:IntKind.i64.wrap ((c:Int) - (s:Int))=((c - s:Nat):Int):=by rw[wrap_i64 (by omega) (by omega)];omega
   (repeat((first|refine step_w1 rfl rfl ?_|refine g_c (by assumption) ?_|refine tst_tt t3 ?_|refine g_o (op_loadA rfl (ev_ok rfl) (tgt rfl) rfl (Nat.succ_ne_zero _) rfl) ?_|refine g_o (op_fieldA rfl (ev_ok rfl) (tgt rfl) rfl rfl (Nat.succ_ne_zero _) rfl) ?_|refine g_o (op_makeFunc rfl rfl rfl) ?_|rw[t3]|rw[w1]|rw[w2]);conv=>whnf));(first|exact Recast.refl _|exact Frz.recast (Recast.refl _) rfl|(refine Frz.one rfl rfl ?_;skip)|(refine Frz.tup ?_;skip))
  ·have t5:((detZ (i+1) (elz a c)).sign==0)=false:=beq_eq_false_iff_ne.2 fun e=>h0 (Int.sign_eq_zero_iff_zero.1 e)
   have hpow:B*4^i*4≤B*4^s:=by
    have:B*4^(i+1)≤B*4^s:=Nat.mul_le_mul_left B (Nat.pow_le_pow_right (by decide) (by omega))
    rwa [Nat.pow_succ,←Nat.mul_assoc]at this
   have hp4:B*4^(s+1)=B*4^s*4:=by rw[Nat.pow_succ,Nat.mul_assoc]
   have hp5:B*4^(i+1)=B*4^i*4:=by rw[Nat.pow_succ,Nat.mul_assoc]
   have k3:=b_next (b:=detZ i (elz a c)) (s:=0) hok hz (by omega)
   have en:nxt R C (mkz (R+1) (C+1) (bmZ i (elz a c))) (detZ i (elz a c))=mkz R C (bmZ (i+1) (elz a c)):=mkz_congr fun p q hp hq=>by
    rw[crZ,mkz_el (by omega) (by omega),mkz_el (by omega) (by omega),mkz_el (by omega) (by omega),mkz_el (by omega) (by omega)]
    exact bmZ_div (hne i (Nat.le_refl _)) p q
   have hz':Zm (B*4^(i+1)) (mkz R C (bmZ (i+1) (elz a c))):=by
    rw[←en,hp5]
    exact Zm_mk fun p q hp hq=>Nat.le_trans (zs_div _ _) (by have:=crZ_zs hz hok.n hp hq;omega)
   have hzb':zs (detZ (i+1) (elz a c))≤B*4^(i+1):=by
    have:=elz_zm hz hok.n (i:=0) (k:=0) (by omega) (by omega)
    rw[mkz_el (by omega) (by omega),bmZ_first]at this;omega
   rw[en,mkz_el (by omega) (by omega),bmZ_first]at k3
   have w3:IntKind.i64.wrap ((s:Int) - 1)=((s - 1:Nat):Int):=by rw[wrap_i64 (by omega) (by omega)];omega
   by_cases hlast:i=s - 1
   ·have t6:((i:Int)==((s - 1:Nat):Int))=true:=by rw[hlast];exact beq_self_eq_true _
    obtain rfl:R=r - s:=by omega
    obtain rfl:C=c - s:=by omega
    rw[show i+1=s by omega]at*
    (repeat((first|refine g_c (by assumption) ?_|refine tst_tt t3 ?_|refine tst_ff t5 ?_|refine tst_tt t6 ?_|refine g_o (op_loadA rfl (ev_ok rfl) (tgt rfl) rfl (Nat.succ_ne_zero _) rfl) ?_|refine g_o (op_makeFunc rfl rfl rfl) ?_|rw[t3]|rw[t5]|rw[w3]);conv=>whnf));(first|exact Recast.refl _|exact Frz.recast (Recast.refl _) rfl|(refine Frz.one rfl rfl ?_;skip)|(refine Frz.tup ?_;skip))
   ·have t6:((i:Int)==((s - 1:Nat):Int))=false:=beq_eq_false_iff_ne.2 (by omega)
    (repeat((first|refine g_c (by assumption) ?_|refine tst_tt t3 ?_|refine tst_ff t5 ?_|refine tst_ff t6 ?_|refine g_o (op_loadA rfl (ev_ok rfl) (tgt rfl) rfl (Nat.succ_ne_zero _) rfl) ?_|rw[t3]|rw[t5]|rw[w3]|rw[t6]|rw[t4]|rw[Nat.zero_add]);conv=>whnf))
    exact⟨s - (i+1),fun k=>k,[2,3,4,5,7,29,30],[4,7],by omega,by kernel_rfl,i+1,R,C,rfl,hlt,by omega,by omega,(fun j hj=>by
     by_cases e:j=i+1
     ·rw[e];exact h0
     ·exact hne j (by omega)),hz',hzb',rfl,rfl⟩
 ·have t3:=dge hlt
  obtain rfl:i=s:=by omega
  obtain rfl:R=r - i:=by omega
  obtain rfl:C=c - i:=by omega
  (repeat(first|(refine g_c (by assumption) ?_;conv=>whnf)|(refine tst_ff t3 ?_;conv=>whnf)|(refine g_o (op_makeFunc rfl rfl rfl) ?_;conv=>whnf)));(first|exact Recast.refl _|exact Frz.recast (Recast.refl _) rfl|(refine Frz.one rfl rfl ?_;skip)|(refine Frz.tup ?_;skip))
end Go.Proofs.YtjknedoaofjnbaaGreatDoor
namespace Go.Sx
set_option linter.unusedSimpArgs false
set_option linter.unusedVariables false
section
variable {P:Program} {o:Oper} {ft:List (Nat×SV)} {fk:List (Nat×Blk)}
theorem op_clear1 {t e:TypeId} {x:Operand} {xs':Array Operand} {ts:Array TypeId} {ti te:TI} {k i:Nat} {ty:TypeId} {kd:IntKind} {xs:List Int} (ho:o.op= .call ⟨.builtin .clear,xs',ts⟩) (hxs:xs'= #[x]) (hts:ts= #[t])
  (hx:EvOK ft x (.slc k 1 i 1)) (ht:TOK P t ti) (hk:ti.kind= .slc e) (he:TOK P e te) (hz:te.zero=[.val (.int kd 0)]) (hf:(k,⟨ty,true,.ints kd xs⟩)∈fk) (hi:i<xs.length):
  OpOK P o ft fk .any [] [(k,⟨ty,true,.ints kd (xs.set i 0)⟩)]:=
 ok_value fun ρ a w hpre=>by
  obtain⟨z,hz1,hz2⟩:=he.zeroValue
  have hz3:z.cells= #[.int kd 0]:=by
   apply Array.ext'
   rw[hz2,hz];rfl
  have hzc:(Builtin.zeroCells #[Value.int kd 0] 1).toList=[.int kd 0]:=by simp[Builtin.zeroCells]
  have hu:=ht.kind;rw[hk]at hu
  rcases has_slc (hx ρ a hpre.hft)with⟨b,t',cap,h1,h2,h3,h4⟩|⟨h0,_⟩
  ·rcases hpre.hfk k _ hf with g0|⟨b',n',vs,ex,g1,g2,g3,g4,g5⟩|⟨g1,_⟩
   ·cases g0
   ·rw[h1]at g1
    cases g1
    simp only[DataC]at g3
    rw[Data.obj_cells rfl]at g2
    have g2:w.heap[b]? =some (.cells (vs++ex).toArray ty (0,0)):=g2
    have hvl:vs.length=xs.length:=by rw[g3,List.length_map]
    have hsc:=run_storeCells_at (P:=P) b i ty [.int kd 0] 0 (vs++ex).toArray w g2 (by simp;omega) (fun v hv=>by simp at hv;subst hv;rfl)
    have hrow:((vs++ex).toArray.toList.take (i+0)++[Value.int kd 0]++(vs++ex).toArray.toList.drop (i+0+[Value.int kd 0].length))=(xs.set i 0).map (.int kd)++ex:=by
     rw[g3,List.map_set,List.set_eq_take_append_cons_drop,if_pos (by rw[List.length_map];exact hi)]
     simp only[Nat.add_zero,List.length_singleton]
     rw[List.take_append_of_le_length (by rw[List.length_map];omega),List.drop_append_of_le_length (by rw[List.length_map];omega)]
     simp
    rw[hrow]at hsc
    rw[Nat.mul_one]at h4
    refine⟨.tuple #[],w.setRow b ((xs.set i 0).map (Value.int kd)++ex).toArray,ρ, ?_, ?_⟩
    ·simp[execOp,ho,hxs,hts,resolve,invoke,builtin,Builtin.clear_,run_underlying hu,h4,hz1,hz3,hzc,hsc]
    ·refine⟨.refl ρ,trivial,fun _ _=>rfl,⟨rfl,rfl,rfl,by simp[World.setRow],fun i hi hn=> ?_⟩,fun j bj hj=> ?_,(fun j c c' h1 h2 h3 h4=> ?_),(fun _ _ _ h=>by cases h),(fun _ _ _ _ _ _ h=>by cases h),fun b o h=>.inl h⟩
     ·refine heap_setRow_other fun hib=>hn ⟨k,_,t',List.mem_cons_self .., ?_⟩
      rw[hib];exact h1
     ·rcases hj with hj|hj
      ·simp only[List.mem_singleton,Prod.mk.injEq]at hj
       obtain⟨rfl,rfl⟩:=hj
       refine .inr (.inl ⟨b,t',_,ex,h1,by rw[Data.obj_cells rfl];exact heap_setRow_same g2,rfl, ?_,g5⟩)
       rw[←g4];simp[hvl]
      ·cases hj
     ·simp only[List.mem_singleton,Prod.mk.injEq]at h1 h2
      obtain⟨_,rfl⟩:=h1
      obtain⟨_,rfl⟩:=h2
      rw[h3]at h4;cases h4
   ·rw[h1]at g1;cases g1
  ·omega
end
end Go.Sx
namespace Go.Proofs.YtjknedoaofjnbaaGreatDoor
open Go.Sx
set_option linter.unusedSimpArgs false
set_option linter.unusedVariables false
set_option maxRecDepth 100000
set_option maxHeartbeats 40000000
theorem upN_at {n i:Nat} (hi:i<n):(upN n).getD i 0=i:=by simp[upN,List.getD_eq_getElem?_getD,hi]
def dlS (n j m:Nat):List Int:=(List.range n).map fun p:Nat=>if j≤p∧p<m then(p:Int)+1 else p
theorem dlS_len (n j m:Nat):(dlS n j m).length=n:=by simp[dlS]
theorem dlS_at {n j m p:Nat} (hp:p<n):(dlS n j m).getD p 0=if j≤p∧p<m then(p:Int)+1 else p:=by
 simp[dlS,List.getD_eq_getElem?_getD,hp]
theorem dlS_start (n j:Nat):dlS n j j=upN n:=by
 refine zec_ext (dlS_len ..) (upN_len _) fun p hp=> ?_
 rw[dlS_at hp,upN_at hp,if_neg (by omega)]
theorem dlS_set {n j m:Nat} (hm:m<n) (hj:j≤m):(dlS n j m).set m ((m:Int)+1)=dlS n j (m+1):=by
 refine zec_ext (by rw[List.length_set,dlS_len]) (dlS_len ..) fun p hp=> ?_
 rw[dlS_at hp,List.getD_eq_getElem?_getD,List.getElem?_set]
 by_cases e:m=p
 ·subst e;rw[if_pos rfl,if_pos (by rw[dlS_len];exact hm),if_pos (by omega)];rfl
 ·rw[if_neg e,←List.getD_eq_getElem?_getD,dlS_at hp]
  by_cases g:j≤p∧p<m
  ·rw[if_pos g,if_pos (by omega)]
  ·rw[if_neg g,if_neg (by omega)]
abbrev butN (n j:Nat):List Int:=(List.range (n - 1)).map fun p:Nat=>((sk j p:Nat):Int)
theorem butN_len (n j:Nat):(butN n j).length=n - 1:=by simp
theorem butN_at {n j p:Nat} (hp:p<n - 1):(butN n j).getD p 0=(sk j p:Nat):=by
 simp[butN,List.getD_eq_getElem?_getD,hp]
theorem dlS_but (n j:Nat) (hj:j<n):((dlS n j (n - 1)).set (n - 1) 0).take (n - 1)=butN n j:=by
 refine zec_ext (by rw[List.length_take,List.length_set,dlS_len];omega) (butN_len ..) fun p hp=> ?_
 rw[butN_at hp,List.getD_eq_getElem?_getD,List.getElem?_take,if_pos hp,List.getElem?_set_ne (by omega),←List.getD_eq_getElem?_getD,dlS_at (by omega)]
 unfold sk
 by_cases g:p<j
 ·rw[if_neg (by omega),if_pos g]
 ·rw[if_pos (by omega),if_neg g];omega
theorem b_isN (x j:Nat) (h:x<100000) (h2:j<100000):CallOK Tryz.prog 186 ([]++([iv (x:Nat)]++[ptrA [iv j]])) [] (.val (.bool (decide (x=j)))) [] []:=by
 have e:((x:Int)==(j:Int))=decide (x=j):=by
  by_cases h:x=j
  ·rw[h,decide_eq_true rfl];exact beq_self_eq_true _
  ·rw[decide_eq_false h];exact beq_eq_false_iff_ne.2 (by omega)
 rw[←e]
 refine callV (Z:=[]) tabOK mixedOK Tryz.func186 rfl (by kernel_rfl) rfl rfl (by kernel_rfl) rfl ?_
 intro W0 w0 ρ0 hE
 conv=>whnf
 (repeat(first|(refine g_o (op_loadA rfl (ev_ok rfl) (tgt rfl) rfl (Nat.succ_ne_zero _) rfl) ?_;conv=>whnf)));(first|exact Recast.refl _|exact Frz.recast (Recast.refl _) rfl|(refine Frz.one rfl rfl ?_;skip)|(refine Frz.tup ?_;skip))
theorem b_Index {n j:Nat} (hj:j<n) (hn:n≤2048) (K:Nat):CallOK Tryz.prog 178 [.slc K 1 0 n,.clo 186 [] [ptrA [iv j]]] [(K,iblkM (upN n))] (iv (j:Nat)) [] []:=by
 refine CallOK.anyWr ?_
 refine callK (Z:=[]) tabOK mixedOK Tryz.func178 rfl (by kernel_rfl) (args:=[.slc 1001 1 0 n,.clo 186 [] [ptrA [iv j]]]) (fk:=[(1001,⟨3,false,.ints .i64 (upN n)⟩)]) (c:=iv (j:Nat)) (new:=[]) (upd:=[]) (ShapeOK.of rfl rfl rfl rfl rfl rfl rfl rfl rfl rfl rfl) rfl (fun _=>K) (NamesOK.ro rfl) ?_
 intro W0 w0 ρ0 hE
 conv=>whnf
 skip
 refine SW_loopN hE (fun k=>k) [0,1,7,8] [1001] (fun m fr hp=>∃i:Nat,m=n - i∧i≤j∧fr=[(0,.slc 1001 1 0 n),(1,.clo 186 [] [ptrA [iv j]]),(7,iv n),(8,iv (i:Nat))]∧hp=[(1001,⟨3,false,.ints .i64 (upN n)⟩)]) n ?_ ?_ ?_
 ·kernel_rfl
 ·exact⟨0,rfl,Nat.zero_le _,rfl,rfl⟩
 rintro m _ _ ⟨i,rfl,hi,rfl,rfl⟩
 conv=>whnf
 have t1:=dlt (show i<n by omega)
 have t2:=winc (i:=i) (by omega)
 have g1:=upN_at (show i<n by omega)
 have lq:=upN_len n
 have k1:=b_isN i j (by omega) (by omega)
 by_cases e:i=j
 ·subst e
  rw[decide_eq_true rfl]at k1
  (repeat((first|refine step_w1 rfl rfl ?_|refine step_oL (by first|omega|decide|(simp only[tl0,dlen,List.length_replicate,List.length_set,List.length_map,List.length_zipWith,List.length_take,List.length_append,List.length_cons,List.length_nil];omega)) ?_|refine step_oA (by first|omega|decide|(simp only[tl0,dlen,List.length_replicate,List.length_set,List.length_map,List.length_zipWith,List.length_take,List.length_append,List.length_cons,List.length_nil];omega)) ?_|refine g_c (by assumption) ?_|refine tst_tt t1 ?_|rw[t1]|rw[g1]|rw[Int.toNat_natCast]|rw[Nat.zero_add]);conv=>whnf))
  exact⟨Recast.refl _,(fun _ _ h=>by cases h),(fun _ _ h=>by cases h)⟩
 ·rw[decide_eq_false e]at k1
  (repeat((first|refine step_w2 rfl rfl ?_|refine step_oL (by first|omega|decide|(simp only[tl0,dlen,List.length_replicate,List.length_set,List.length_map,List.length_zipWith,List.length_take,List.length_append,List.length_cons,List.length_nil];omega)) ?_|refine step_oA (by first|omega|decide|(simp only[tl0,dlen,List.length_replicate,List.length_set,List.length_map,List.length_zipWith,List.length_take,List.length_append,List.length_cons,List.length_nil];omega)) ?_|refine g_c (by assumption) ?_|refine tst_tt t1 ?_|rw[t1]|rw[g1]|rw[t2]|rw[Int.toNat_natCast]|rw[Nat.zero_add]);conv=>whnf))
  exact⟨n - (i+1),fun k=>k,[0,1,7,8],[1001],by omega,by kernel_rfl,i+1,rfl,by omega,rfl,rfl⟩
theorem b_Delete {n j:Nat} (hj:j<n) (hn:n≤2048) (K:Nat):CallOK Tryz.prog 185 [.slc K 1 0 n,.clo 186 [] [ptrA [iv j]]] [(K,iblkM (upN n))] (.slc K 1 0 (n - 1)) [] [(K,iblkM ((dlS n j (n - 1)).set (n - 1) 0))]:=by
 refine callK (Z:=[]) tabOK mixedOK Tryz.func185 rfl (by kernel_rfl) (args:=[.slc 1001 1 0 n,.clo 186 [] [ptrA [iv j]]]) (fk:=[(1001,iblkM (upN n))]) (c:=.slc 1001 1 0 (n - 1)) (new:=[]) (upd:=[(1001,iblkM ((dlS n j (n - 1)).set (n - 1) 0))]) (ShapeOK.of rfl rfl rfl rfl rfl rfl rfl rfl rfl rfl rfl) rfl (fun _=>K) NamesOK.upd ?_
 have k0:=b_Index hj hn 1001
 have t0:((j:Int)== -1)=false:=beq_eq_false_iff_ne.2 (by omega)
 have t9:=winc (i:=j) (by omega)
 intro W0 w0 ρ0 hE
 conv=>whnf
 (repeat(first|(refine step_w2 rfl rfl ?_;conv=>whnf)|(refine g_c1 (by assumption) rfl ?_;conv=>whnf)|(rw[t0];conv=>whnf)))
 refine SW_loopN hE (fun k=>k) [0,1,5,6] [1001] (fun m fr hp=>∃i:Nat,m=n - (i+1)∧j≤i∧i<n∧fr=[(0,.slc 1001 1 0 n),(1,.clo 186 [] [ptrA [iv j]]),(5,iv (i:Nat)),(6,iv (i+1:Nat))]∧hp=[(1001,iblkM (dlS n j i))]) (n - (j+1)) ?_ ?_ ?_
 ·kernel_rfl
 ·exact⟨j,rfl,Nat.le_refl _,hj,by rw[←t9];rfl,by rw[dlS_start];rfl⟩
 clear k0
 rintro m _ _ ⟨i,rfl,hji,hi,rfl,rfl⟩
 conv=>whnf
 have lq:=dlS_len n j i
 by_cases hlt:i+1<n
 ·have t1:decide (((i+1:Nat):Int)<(n:Int))=true:=decide_eq_true (by omega)
  have t2:=winc (i:=i) (by omega)
  have t3:=winc (i:=i+1) (by omega)
  have g1:(dlS n j i).getD (i+1) 0=((i+1:Nat):Int):=by rw[dlS_at hlt,if_neg (by omega)]
  have k1:=b_isN (i+1) j (by omega) (by omega)
  rw[decide_eq_false (by omega)]at k1
  (repeat((first|refine step_w1 rfl rfl ?_|refine step_oL (by first|omega|decide|(simp only[tl0,dlen,List.length_replicate,List.length_set,List.length_map,List.length_zipWith,List.length_take,List.length_append,List.length_cons,List.length_nil];omega)) ?_|refine step_oA (by first|omega|decide|(simp only[tl0,dlen,List.length_replicate,List.length_set,List.length_map,List.length_zipWith,List.length_take,List.length_append,List.length_cons,List.length_nil];omega)) ?_|refine g_c (by assumption) ?_|refine tst_tt t1 ?_|rw[t1]|rw[g1]|rw[t2]|rw[t3]|rw[Int.toNat_natCast]|rw[Nat.zero_add]);conv=>whnf))
  refine⟨n - (i+1+1),fun k=>k,[0,1,5,6],[1001],by omega,by kernel_rfl,i+1,rfl,by omega,hlt,rfl, ?_⟩
  rw[←dlS_set hi hji]
  rfl
 ·have t1:decide (((i+1:Nat):Int)<(n:Int))=false:=decide_eq_false (by omega)
  obtain rfl:i=n - 1:=by omega
  have e1:((n:Int) - ((n - 1:Nat):Int)).toNat=1:=by omega
  have e2:(((n - 1:Nat):Int)).toNat=n - 1:=by omega
  have lq2:((dlS n j (n - 1)).set (n - 1) 0).length=n:=by rw[List.length_set,dlS_len]
  (repeat((first|refine step_oA (by first|omega|decide|(simp only[tl0,dlen,List.length_replicate,List.length_set,List.length_map,List.length_zipWith,List.length_take,List.length_append,List.length_cons,List.length_nil];omega)) ?_|refine tst_ff t1 ?_|refine⟨.any,[(1001,iblkM (dlS n j (n - 1)))],[],[(1001,iblkM ((dlS n j (n - 1)).set (n - 1) 0))],op_clear1 rfl rfl rfl (ev_ok rfl) (tabOK.get (t:=29) rfl) rfl (tabOK.get (t:=3) rfl) rfl (List.mem_cons_self ..) (by omega),one_fk rfl,nil_new,one_upd (List.mem_cons_self ..) rfl rfl rfl, ?_⟩|rw[t1]|rw[e1]|rw[e2]|rw[Nat.zero_add]);conv=>whnf))
  exact⟨by rw[show((n - 1:Nat):Int) - 0=((n - 1:Nat):Int)from Int.sub_zero _,e2];exact Recast.refl _,(fun _ _ h=>by cases h),(fun k b h=>by simp only[List.mem_singleton,Prod.mk.injEq]at h;obtain⟨rfl,rfl⟩:=h;rfl)⟩
theorem b_but {r c:Nat} (a:List Int) {j:Nat} (hj:j<r) (hr:r≤2048):CallOK Tryz.prog 184 ([]++([iv (j:Nat)]++[ptrA (wC r c a)])) [] (ivec .i64 (butN r j)) [] []:=by
 have k1:=(b_upToM r [] hr (by simp)).wk (args:=[iv r,.val (.slice none 0 0)]) (by repeat(first|exact WkL.nil|refine WkL.cons ?_ ?_|exact Wk.nil|exact Wk.refl|refine Wk.agg ?_))
 rw[show upL r []=upN r from List.append_nil _]at k1
 have k2:=b_Delete hj hr 2001
 refine callF (Z:=[2]) tabOK mixedOK Tryz.func184 rfl (by kernel_rfl) (by first|rfl|(simp[keylessL,keyless,keylessL_map, *];done)) (by first|rfl|(simp[keylessL,keyless,keylessL_map, *];done)) (by kernel_rfl) rfl ?_
 intro w0 ρ0 hE
 conv=>whnf
 (repeat((first|refine g_cn (by assumption) rfl ?_|refine g_c1u (by assumption) rfl rfl ?_|refine g_o (op_loadA rfl (ev_ok rfl) (tgt rfl) rfl (Nat.succ_ne_zero _) rfl) ?_|refine g_o (op_fieldA rfl (ev_ok rfl) (tgt rfl) rfl rfl (Nat.succ_ne_zero _) rfl) ?_|refine g_o (op_makeFunc rfl rfl rfl) ?_);conv=>whnf))
 rw[←dlS_but r j hj]
 refine Frz.one rfl rfl ?_
 have:=FrzC.slc (k:=2001) (w:=1) (i:=0) (n:=r - 1) (ty:=3) (d:=.ints .i64 ((dlS r j (r - 1)).set (r - 1) 0)) (xs:=((dlS r j (r - 1)).set (r - 1) 0).map fun x=>.val (.int .i64 x)) (hp:=[(2001,iblkM ((dlS r j (r - 1)).set (r - 1) 0))]) rfl rfl rfl (keylessL_map (fun _=>rfl) _) (by simp[dlS_len])
 rw[cutL,List.drop_zero,Nat.zero_add,Nat.sub_zero,←List.map_take]at this
 exact this
def adjZ (n:Nat) (A:Mz):Mz:=fun i k=>sgZ (i+k)*detZ (n - 1) fun a b=>A (sk k a) (sk i b)
theorem butN_in {n j:Nat}:∀x,x<(butN n j).length→0≤(butN n j).getD x 0∧(butN n j).getD x 0<n:=by
 intro x hx
 rw[butN_len]at hx
 rw[butN_at hx]
 have:=sk_lt (k:=j) hx
 omega
theorem b_Adj1 {n B:Nat} {a:List Int} (ha:OKZ n n a) (za:Zm B a) (hB:2≤B) (hn:n≤40) (hb:2*(B*4^n)≤1073741824) {i k:Nat} (hi:i<n) (hk:k<n):
  CallOK Tryz.prog 183 ([]++([iv (i:Nat),iv (k:Nat)]++[ptrA (wC n n a)])) [] (.int (adjZ n (elz a n) i k)) [] []:=by
 have k1:=b_but (c:=n) a hk (by omega)
 have k2:=b_but (c:=n) a hi (by omega)
 have k3:=b_part ha (p:=butN n k) (q:=butN n i) butN_in butN_in (by rw[butN_len];omega) (by rw[butN_len];omega)
 rw[butN_len,butN_len]at k3
 have hpow:B*4^(n - 1)≤B*4^n:=Nat.mul_le_mul_left B (Nat.pow_le_pow_right (by decide) (by omega))
 have k4:=b_det (n:=n - 1) (B:=B) (a:=mkz (n - 1) (n - 1) fun x y=>elz a n ((butN n k).getD x 0).toNat ((butN n i).getD y 0).toNat) (OKZ.mk' (by omega) (by omega) _) hB
  (Zm_el za ha.n (fun x hx=>by rw[butN_at hx];have:=sk_lt (k:=k) hx;omega) (fun x hx=>by rw[butN_at hx];have:=sk_lt (k:=i) hx;omega)) (by omega) (by omega)
 have ed:detZ (n - 1) (elz (mkz (n - 1) (n - 1) fun x y=>elz a n ((butN n k).getD x 0).toNat ((butN n i).getD y 0).toNat) (n - 1))=detZ (n - 1) fun x y=>elz a n (sk k x) (sk i y):=
  detZ_congr fun x y hx hy=>by rw[mkz_el hx hy,butN_at hx,butN_at hy];rfl
 rw[ed]at k4
 have w1:IntKind.i64.wrap ((i:Int)+(k:Int))=((i+k:Nat):Int):=by rw[wrap_i64 (by omega) (by omega)];omega
 have e3:((i+k:Nat):Int).tmod 2=((i+k:Nat):Int) % 2:=Int.tmod_eq_emod_of_nonneg (Int.natCast_nonneg _)
 rw[adjZ,sgZ_mod]
 generalize (detZ (n - 1) fun x y=>elz a n (sk k x) (sk i y))=D at*
 by_cases hodd:(i+k) % 2=1
 ·have t2:(((i+k:Nat):Int).tmod 2==1)=true:=by rw[e3];exact beq_iff_eq.2 (by omega)
  have k5:=c_Neg D
  rw[if_pos hodd,Int.neg_one_mul]
  refine callV (Z:=[]) tabOK mixedOK Tryz.func183 rfl (by kernel_rfl) rfl rfl (by kernel_rfl) rfl ?_
  intro W0 w0 ρ0 hE
  conv=>whnf
  (repeat((first|refine step_i (by kernel_rfl) ?_|refine step_oN (by first|omega|decide|(simp only[tl0,dlen,List.length_replicate,List.length_set,List.length_map,List.length_zipWith,List.length_take,List.length_append,List.length_cons,List.length_nil];omega)) ?_|refine g_c (by assumption) ?_|refine tst_tt t2 ?_|refine g_o (op_loadA rfl (ev_ok rfl) (tgt rfl) rfl (Nat.succ_ne_zero _) rfl) ?_|refine g_o (op_makeFunc rfl rfl rfl) ?_|rw[w1]);conv=>whnf));(first|exact Recast.refl _|exact Frz.recast (Recast.refl _) rfl|(refine Frz.one rfl rfl ?_;skip)|(refine Frz.tup ?_;skip))
 ·have t2:(((i+k:Nat):Int).tmod 2==1)=false:=by rw[e3];exact beq_eq_false_iff_ne.2 (by omega)
  rw[if_neg hodd,Int.one_mul]
  refine callV (Z:=[]) tabOK mixedOK Tryz.func183 rfl (by kernel_rfl) rfl rfl (by kernel_rfl) rfl ?_
  intro W0 w0 ρ0 hE
  conv=>whnf
  (repeat((first|refine step_i (by kernel_rfl) ?_|refine step_oN (by first|omega|decide|(simp only[tl0,dlen,List.length_replicate,List.length_set,List.length_map,List.length_zipWith,List.length_take,List.length_append,List.length_cons,List.length_nil];omega)) ?_|refine g_c (by assumption) ?_|refine tst_ff t2 ?_|refine g_o (op_loadA rfl (ev_ok rfl) (tgt rfl) rfl (Nat.succ_ne_zero _) rfl) ?_|refine g_o (op_makeFunc rfl rfl rfl) ?_|rw[w1]);conv=>whnf));(first|exact Recast.refl _|exact Frz.recast (Recast.refl _) rfl|(refine Frz.one rfl rfl ?_;skip)|(refine Frz.tup ?_;skip))
theorem b_Adjugate {n B:Nat} {a:List Int} (ha:OKZ n n a) (za:Zm B a) (hB:2≤B) (hB2:B≤536870912) (hn:n≤40) (hb:2*(B*4^n)≤1073741824):
  CallOK Tryz.prog 125 [wA n n a] [] (.tup [wA n n (mkz n n (adjZ n (elz a n))),iv 0]) [] []:=by
 have k0:=b_square n n a (by have:=ha.n;have:n*n≤40*40:=Nat.mul_le_mul hn hn;omega) (fun i hi=>Nat.le_trans (za i hi) hB2)
 rw[check_ok ha.r ha.c ha.n,if_pos rfl,if_pos rfl]at k0
 have k1:=b_made1 (r:=n) (c:=n) (by omega) (by omega) (adjZ n (elz a n)) 183 (ptrP (wC n n a)) (fun i k hi hk=>b_Adj1 ha za hB hn hb hi hk)
 refine callV (Z:=[1]) tabOK mixedOK Tryz.func125 rfl (by kernel_rfl) rfl rfl (by kernel_rfl) rfl ?_
 intro W0 w0 ρ0 hE
 conv=>whnf
 (repeat((first|refine step_w2 rfl rfl ?_|refine g_c (by assumption) ?_|rw[bne_self_eq_false]|refine g_o (op_loadA rfl (ev_ok rfl) (tgt rfl) rfl (Nat.succ_ne_zero _) rfl) ?_|refine g_o (op_fieldA rfl (ev_ok rfl) (tgt rfl) rfl rfl (Nat.succ_ne_zero _) rfl) ?_|refine g_o (op_makeFunc rfl rfl rfl) ?_);conv=>whnf));(first|exact Recast.refl _|exact Frz.recast (Recast.refl _) rfl|(refine Frz.one rfl rfl ?_;skip)|(refine Frz.tup ?_;skip))
end Go.Proofs.YtjknedoaofjnbaaGreatDoor
namespace Go.Proofs.YtjknedoaofjnbaaGreatDoor
open Go.Sx
set_option linter.unusedSimpArgs false
set_option linter.unusedVariables false
set_option maxRecDepth 100000
set_option maxHeartbeats 40000000
def mlS (all:Nat) (x:Rat):Nat:=all*(x.den/Nat.gcd all x.den)
def mlF (l:List Rat):Nat:=l.foldl mlS 1
theorem mlF_take {l:List Rat} {i:Nat} (hi:i<l.length):mlF (l.take (i+1))=mlS (mlF (l.take i)) (l.getD i 0):=by
 rw[mlF,List.take_add_one,List.getElem?_eq_getElem hi,List.foldl_append,List.getD_eq_getElem?_getD,List.getElem?_eq_getElem hi];rfl
theorem mlS_pos {a:Nat} {x:Rat} (ha:0<a):0<mlS a x:=by
 unfold mlS
 exact Nat.mul_pos ha (Nat.div_pos (Nat.le_of_dvd x.den_pos (Nat.gcd_dvd_right _ _)) (Nat.gcd_pos_of_pos_left _ ha))
theorem mlF_pos:∀(l:List Rat) (a:Nat),0<a→0<l.foldl mlS a
 |[],_,h=>h
 |x::l,a,h=>mlF_pos l _ (mlS_pos h)
theorem den_fs (x:Rat):sz x.den+1≤fs x:=by have:=fsz_den x;unfold fs;omega
theorem mlF_sz {l:List Rat} {B:Nat} (h:Sm B l):∀i,i≤l.length→sz (mlF (l.take i))≤1+i*B
 |0,_=>by rw[List.take_zero,mlF,List.foldl_nil,sz_one];omega
 |i+1,hi=>by
  have h1:=mlF_sz h i (by omega)
  have h2:=h i (by omega)
  have h3:=den_fs (l.getD i 0)
  have h4:=sz_mul (mlF (l.take i)) ((l.getD i 0).den/Nat.gcd (mlF (l.take i)) (l.getD i 0).den)
  have h5:=sz_div (l.getD i 0).den (Nat.gcd (mlF (l.take i)) (l.getD i 0).den)
  rw[mlF_take (by omega),mlS,Nat.succ_mul];omega
theorem b_multiple {l:List Rat} {B:Nat} (hz:Sm B l) (hl:l.length<1099511627776) (hb:1+(l.length+1)*B≤1073741824):CallOK Tryz.prog 127 [fvec l] [] (.nat (mlF l)) [] []:=by
 have k0:=c_nOf 1 (by decide)
 refine callV (Z:=[]) tabOK mixedOK Tryz.func127 rfl (by kernel_rfl) rfl rfl (by kernel_rfl) rfl ?_
 intro W0 w0 ρ0 hE
 conv=>whnf
 (repeat(first|(refine g_c (by assumption) ?_;conv=>whnf)|(refine g_o (op_lenM rfl rfl rfl (ev_ok rfl) (tgt rfl) rfl) ?_;conv=>whnf)))
 refine SW_loopN hE (fun k=>k) [2,3,11,12,13] [2,3] (fun m fr hp=>∃i,m=l.length - i∧i≤l.length∧fr=[(2,.ptr 2 0 0 0),(3,.ptr 3 0 0 0),(11,fvec l),(12,iv (l.length:Nat)),(13,iv (i:Nat))]∧
  hp=[(2,⟨47,true,.one [.nat 0]⟩),(3,⟨47,true,.one [.nat (mlF (l.take i))]⟩)]) l.length ?_ ?_ ?_
 ·kernel_rfl
 ·exact⟨0,rfl,Nat.zero_le _,rfl,rfl⟩
 clear k0
 rintro m _ _ ⟨i,rfl,hi,rfl,rfl⟩
 conv=>whnf
 by_cases hlt:i<l.length
 ·have t1:=dlt hlt
  have t2:=winc (i:=i) (by omega)
  have h1:=mlF_sz hz i hi
  have h2:=hz i hlt
  have h3:i*B≤l.length*B:=Nat.mul_le_mul_right B hi
  rw[Nat.succ_mul]at hb
  have h4:=den_fs (l.getD i 0)
  have h0:0<mlF (l.take i):=mlF_pos _ _ (by decide)
  have hg:Nat.gcd (mlF (l.take i)) (l.getD i 0).den≠0:=Nat.pos_iff_ne_zero.1 (Nat.gcd_pos_of_pos_left _ h0)
  have h5:=sz_gcd_l (b:=(l.getD i 0).den) (Nat.pos_iff_ne_zero.1 h0)
  have h6:=sz_div (l.getD i 0).den (Nat.gcd (mlF (l.take i)) (l.getD i 0).den)
  have k1:=c_Den natBig (l.getD i 0) (by omega)
  have k2:=natBig.gcd (mlF (l.take i)) (l.getD i 0).den (by omega) (by omega)
  have k3:=natBig.div (l.getD i 0).den (Nat.gcd (mlF (l.take i)) (l.getD i 0).den) (by omega) (by omega) hg
  have k4:=natBig.mul (mlF (l.take i)) ((l.getD i 0).den/Nat.gcd (mlF (l.take i)) (l.getD i 0).den) (by omega)
  clear h1 h2 h3 h4 h5 h6
  (repeat((first|refine step_w1 rfl rfl ?_|refine step_i (by kernel_rfl) ?_|refine g_c (by assumption) ?_|refine g_o (op_indexN (α:=Rat) (d:=0) rfl (ev_ok rfl) (ev_ok rfl) (tgt rfl) rfl (tgt rfl) rfl (by omega)) ?_|refine g_o (op_loadA rfl (ev_ok rfl) (tgt rfl) rfl (Nat.succ_ne_zero _) rfl) ?_|rw[t1]|rw[t2]);conv=>whnf))
  exact⟨l.length - (i+1),fun k=>k,[2,3,11,12,13],[2,3],by omega,by kernel_rfl,i+1,rfl,hlt,rfl,by rw[mlF_take hlt];rfl⟩
 ·have t1:=dge hlt
  rw[List.take_of_length_le (by omega)]
  (repeat(first|(refine step_w2 rfl rfl ?_;conv=>whnf)|(rw[t1];conv=>whnf)));(first|exact Recast.refl _|exact Frz.recast (Recast.refl _) rfl|(refine Frz.one rfl rfl ?_;skip)|(refine Frz.tup ?_;skip))
abbrev byL (r c:Nat) (a:List Rat):List Nat:=(List.range r).map fun i=>mlF (rowL a c i)
abbrev clZ (r c:Nat) (a:List Rat):List Int:=mkz r c fun i k=>(el a c i k*(mlF (rowL a c i):Rat)).num
theorem byL_len (r c:Nat) (a:List Rat):(byL r c a).length=r:=by simp
theorem byL_at {r c i:Nat} (a:List Rat) (hi:i<r):(byL r c a).getD i 0=mlF (rowL a c i):=by simp[List.getD_eq_getElem?_getD,hi]
abbrev nvec (l:List Nat):SV:=mvec 2 .nat l
abbrev nfil (l:List Nat) (n i:Nat):Blk:=⟨47,true,.seq 2 ((l.map SV.nat).take i++List.replicate (n - i) (SV.nat 0))⟩
theorem b_Clear {r c B:Nat} {a:List Rat} (ha:OKM r c a) (sa:Sm B a) (hB:2≤B) (hb:4+(c+3)*B≤536870912):
  CallOK Tryz.prog 55 [mA r c a] [] (.tup [wA r c (clZ r c a),nvec (byL r c a),iv 0]) [] []:=by
 have hr:=ha.r
 have hc:=ha.c
 have hn:=ha.n
 have hrc:r*c≤2048*2048:=Nat.mul_le_mul hr hc
 have k0:=m_Check0 ha
 refine callF (Z:=[1]) tabOK mixedOK Tryz.func55 rfl (by kernel_rfl) (by first|rfl|(simp[keylessL,keyless,keylessL_map, *];done)) (by first|rfl|(simp[keylessL,keyless,keylessL_map, *];done)) (by kernel_rfl) rfl ?_
 intro w0 ρ0 hE
 conv=>whnf
 (repeat((first|refine step_w2 rfl rfl ?_|refine step_i (by kernel_rfl) ?_|refine step_oA (by first|omega|decide|(simp only[tl0,dlen,List.length_replicate,List.length_set,List.length_map,List.length_zipWith,List.length_take,List.length_append,List.length_cons,List.length_nil];omega)) ?_|refine g_c (by assumption) ?_|rw[bne_self_eq_false]|refine g_o (op_lenM rfl rfl rfl (ev_ok rfl) (tgt rfl) rfl) ?_|refine g_o (op_loadA rfl (ev_ok rfl) (tgt rfl) rfl (Nat.succ_ne_zero _) rfl) ?_|refine g_o (op_fieldA rfl (ev_ok rfl) (tgt rfl) rfl rfl (Nat.succ_ne_zero _) rfl) ?_|rw[Int.toNat_natCast]);conv=>whnf))
 have lz:(clZ r c a).length=a.length:=by rw[mkz_len,hn]
 have ly:=byL_len r c a
 have lz2:((clZ r c a).map SV.int).length=a.length:=by rw[List.length_map,lz]
 have ly2:((byL r c a).map SV.nat).length=r:=by rw[List.length_map,ly]
 refine SW_loopN hE (fun k=>k) [1,2,3,4,6,7,31,32] [2,6,25,29] (fun m fr hp=>∃i:Nat,m=r - i∧i≤r∧fr=[(1,ptrA (mC r c a)),(2,.ptr 2 0 0 0),(3,.val (.slice none 0 0)),(4,iv 0),(6,.ptr 6 0 0 0),(7,.slc 29 2 0 r),(31,iv r),(32,iv (i:Nat))]∧
  hp=[(2,zW),(6,⟨112,true,.one [iv r,iv c,.slc 25 3 0 a.length]⟩),(25,zfil (clZ r c a) a.length (i*c)),(29,nfil (byL r c a) r i)]) r ?_ ?_ ?_
 ·kernel_rfl
 ·exact⟨0,rfl,Nat.zero_le _,rfl,by rw[Nat.zero_mul,zfil,nfil,List.take_zero,List.take_zero];rfl⟩
 clear k0
 rintro m _ _ ⟨i,rfl,hi,rfl,rfl⟩
 conv=>whnf
 by_cases hlt:i<r
 ·have t2:=dlt hlt
  have t3:=winc (i:=i) (by omega)
  have hic:(i+1)*c≤r*c:=Nat.mul_le_mul_right c hlt
  obtain⟨w1,w2,w3⟩:=row_w (i:=i) (c:=c) (by omega) hc
  have hle:i*c≤(i+1)*c:=Nat.mul_le_mul_right c (by omega)
  have lrow:=rowL_len hlt hn
  have srow:Sm B (rowL a c i):=fun p hp=>by
   rw[lrow]at hp
   rw[rowL_get hp];exact el_sm sa hn hlt hp
  have k1:=b_multiple srow (by omega) (by rw[lrow];have:=Nat.mul_le_mul_right B (show c+1≤c+3 by omega);omega)
  have g1:(((byL r c a).map SV.nat).take i++List.replicate (r - i) (SV.nat 0)).getD i SV.any= .nat 0:=fill_get hlt ly2
  have lny:=fill_len (d:=SV.nat 0) hi ly2
  have e1:(i+1)*c - i*c=c:=by rw[Nat.succ_mul];omega
  have e2:((byL r c a).map SV.nat).getD i (SV.nat 0)= .nat (mlF (rowL a c i)):=by rw[map_getD (d:=0) (by omega),byL_at a hlt]
  have hsy:=fill_set (d:=SV.nat 0) (e:=SV.nat 0) hlt ly2
  rw[e2]at hsy
  (repeat((first|refine step_w1 rfl rfl ?_|refine step_oL (by first|omega|decide|(simp only[tl0,dlen,List.length_replicate,List.length_set,List.length_map,List.length_zipWith,List.length_take,List.length_append,List.length_cons,List.length_nil];omega)) ?_|refine step_oA (by first|omega|decide|(simp only[tl0,dlen,List.length_replicate,List.length_set,List.length_map,List.length_zipWith,List.length_take,List.length_append,List.length_cons,List.length_nil];omega)) ?_|refine g_c (by assumption) ?_|refine g_o (op_lenM rfl rfl rfl (ev_ok rfl) (tgt rfl) rfl) ?_|refine g_o (op_loadA rfl (ev_ok rfl) (tgt rfl) rfl (Nat.succ_ne_zero _) rfl) ?_|refine g_o (op_fieldA rfl (ev_ok rfl) (tgt rfl) rfl rfl (Nat.succ_ne_zero _) rfl) ?_|refine g_o (op_sliceM rfl (ev_ok rfl) (bound_spec rfl) (bound_spec rfl) (.inl rfl) (tgt rfl) rfl (tgt rfl) rfl (by omega)) ?_|rw[t2]|rw[w1]|rw[w3]|rw[w2]|rw[e1]|rw[g1]|rw[hsy]|rw[Int.toNat_natCast]|rw[Nat.zero_add]);conv=>whnf))
  refine SW_loopN hE (fun k=>k) [1,2,3,4,6,7,8,9,31,32,52,53,54] [2,6,25,29] (fun m fr hp=>∃k:Nat,m=c - k∧k≤c∧fr=[(1,ptrA (mC r c a)),(2,.ptr 2 0 0 0),(3,.val (.slice none 0 0)),(4,iv 0),(6,.ptr 6 0 0 0),(7,.slc 29 2 0 r),(8,iv (i:Nat)),(9,fvec (rowL a c i)),(31,iv r),(32,iv (i:Nat)),(52,fvec (rowL a c i)),(53,iv ((rowL a c i).length:Nat)),(54,iv (k:Nat))]∧
   hp=[(2,zW),(6,⟨112,true,.one [iv r,iv c,.slc 25 3 0 a.length]⟩),(25,zfil (clZ r c a) a.length (i*c+k)),(29,nfil (byL r c a) r (i+1))]) c ?_ ?_ ?_
  ·kernel_rfl
  ·exact⟨0,rfl,Nat.zero_le _,rfl,rfl⟩
  clear k1
  rintro m _ _ ⟨k,rfl,hk,rfl,rfl⟩
  conv=>whnf
  by_cases hlk:k<c
  ·have t4:=dlt (show k<(rowL a c i).length by omega)
   have t5:=winc (i:=k) (by omega)
   obtain⟨w4,w5⟩:=idx_w (i:=i) (k:=k) (c:=c) (by omega) hc (by omega)
   rw[Nat.succ_mul]at hic
   have hx:i*c+k<a.length:=by omega
   have hkr:k<(rowL a c i).length:=by omega
   have hlen:=zfil_len (l:=clZ r c a) (show i*c+k≤a.length by omega) lz
   have t6:=zfil_get (l:=clZ r c a) (show i*c+k<a.length by omega) lz
   have lny2:=fill_len (d:=SV.nat 0) (show i+1≤r by omega) ly2
   have g2:(((byL r c a).map SV.nat).take (i+1)++List.replicate (r - (i+1)) (SV.nat 0)).getD i SV.any= .nat (mlF (rowL a c i)):=by
    rw[List.getD_eq_getElem?_getD,List.getElem?_append_left (by rw[List.length_take,ly2];omega),List.getElem?_take,if_pos (by omega),←List.getD_eq_getElem?_getD,map_getD (d:=0) (by omega),byL_at a hlt]
   have hgr:(rowL a c i).getD k 0=el a c i k:=rowL_get hlk
   have hfs:fs (el a c i k)≤B:=el_sm sa hn hlt hlk
   have hml:sz (mlF (rowL a c i))≤1+c*B:=by
    have:=mlF_sz srow c (by omega)
    rwa [List.take_of_length_le (by omega)]at this
   have hcb:(c+3)*B=c*B+3*B:=Nat.add_mul c 3 B
   have k2:=c_From false (mlF (rowL a c i))
   rw[show signed false (mlF (rowL a c i))=((mlF (rowL a c i):Nat):Int)from rfl]at k2
   have hzs:zs ((mlF (rowL a c i):Nat):Int)≤2+c*B:=by unfold zs;rw[Int.natAbs_natCast];omega
   have hfz:=fs_zs ((mlF (rowL a c i):Nat):Int)
   have k3:=b_frac ((mlF (rowL a c i):Nat):Int) (by omega)
   have k4:=f_Mul (el a c i k) (((mlF (rowL a c i):Nat):Int):Rat) (by omega)
   have k5:=c_Num (el a c i k*(((mlF (rowL a c i):Nat):Int):Rat))
   have hel:elz (clZ r c a) c i k=(el a c i k*(((mlF (rowL a c i):Nat):Int):Rat)).num:=by rw[mkz_el hlt hlk];rfl
   rw[←hel]at k5
   rw[←hgr]at k4 k5
   clear hgr hfs hml hcb hzs hfz hic hle
   (repeat((first|refine step_w1 rfl rfl ?_|refine step_i (by kernel_rfl) ?_|refine step_oL (by first|omega|decide|(simp only[tl0,dlen,List.length_replicate,List.length_set,List.length_map,List.length_zipWith,List.length_take,List.length_append,List.length_cons,List.length_nil];omega)) ?_|refine step_oA (by first|omega|decide|(simp only[tl0,dlen,List.length_replicate,List.length_set,List.length_map,List.length_zipWith,List.length_take,List.length_append,List.length_cons,List.length_nil];omega)) ?_|refine g_c (by assumption) ?_|refine g_o (op_indexN (α:=Rat) (d:=0) rfl (ev_ok rfl) (ev_ok rfl) (tgt rfl) rfl (tgt rfl) rfl (by omega)) ?_|refine g_o (op_loadA rfl (ev_ok rfl) (tgt rfl) rfl (Nat.succ_ne_zero _) rfl) ?_|refine g_o (op_fieldA rfl (ev_ok rfl) (tgt rfl) rfl rfl (Nat.succ_ne_zero _) rfl) ?_|rw[t4]|rw[w4]|rw[w5]|rw[t6]|rw[g2]|rw[t5]|rw[Int.toNat_natCast]|rw[Nat.zero_add]);conv=>whnf))
   refine⟨c - (k+1),fun k=>k,[1,2,3,4,6,7,8,9,31,32,52,53,54],[2,6,25,29],by omega,by kernel_rfl,k+1,rfl,hlk,rfl, ?_⟩
   rw[show i*c+(k+1)=i*c+k+1 from rfl,zfil,←zfil_set (show i*c+k<a.length by omega) lz]
   rfl
  ·have t4:=dge (show ¬k<(rowL a c i).length by omega)
   obtain rfl:k=c:=by omega
   (repeat(first|(refine step_w2 rfl rfl ?_;conv=>whnf)|(rw[t4];conv=>whnf)|(rw[t3];conv=>whnf)))
   refine⟨r - (i+1),fun k=>k,[1,2,3,4,6,7,31,32],[2,6,25,29],by omega,by kernel_rfl,i+1,rfl,hlt,rfl, ?_⟩
   rw[Nat.succ_mul]
   rfl
 ·have t2:=dge hlt
  obtain rfl:i=r:=by omega
  rw[←hn,zfil_all lz,nfil,fill_all ly2]
  (repeat(first|(refine step_w2 rfl rfl ?_;conv=>whnf)|(rw[t2];conv=>whnf)))
  (first|exact Recast.refl _|exact Frz.recast (Recast.refl _) rfl|(refine Frz.one rfl rfl ?_;skip)|(refine Frz.tup ?_;(repeat(first|exact FrzC.keyless rfl|exact FrzL.nil|refine FrzL.cons ?_ ?_|refine FrzC.agg ?_|(refine FrzC.seq rfl (by first|rfl|(apply keylessL_map;intro _;rfl)) ?_;(first|rfl|omega|(simp<;>fail)|(simp<;>omega)))))))
end Go.Proofs.YtjknedoaofjnbaaGreatDoor
namespace Go.Proofs.YtjknedoaofjnbaaGreatDoor
open Go.Sx
set_option linter.unusedSimpArgs false
set_option linter.unusedVariables false
set_option maxRecDepth 100000
set_option maxHeartbeats 40000000
theorem b_Det {n B:Nat} {a:List Int} (ha:OKZ n n a) (za:Zm B a) (hB:2≤B) (hB2:B≤536870912) (hn:n≤40) (hb:2*(B*4^n)≤1073741824):
  CallOK Tryz.prog 63 [wA n n a] [] (.tup [.int (detZ n (elz a n)),iv 0]) [] []:=by
 have k0:=b_square n n a (by have:=ha.n;have:n*n≤40*40:=Nat.mul_le_mul hn hn;omega) (fun i hi=>Nat.le_trans (za i hi) hB2)
 rw[check_ok ha.r ha.c ha.n,if_pos rfl,if_pos rfl]at k0
 have k1:=b_det ha hB za hn hb
 refine callV (Z:=[1]) tabOK mixedOK Tryz.func63 rfl (by kernel_rfl) rfl rfl (by kernel_rfl) rfl ?_
 intro W0 w0 ρ0 hE
 conv=>whnf
 (repeat((first|refine step_w2 rfl rfl ?_|refine g_c (by assumption) ?_|rw[bne_self_eq_false]|refine g_o (op_loadA rfl (ev_ok rfl) (tgt rfl) rfl (Nat.succ_ne_zero _) rfl) ?_);conv=>whnf));(first|exact Recast.refl _|exact Frz.recast (Recast.refl _) rfl|(refine Frz.one rfl rfl ?_;skip)|(refine Frz.tup ?_;skip))
def crM (n:Nat) (a b:List Int) (c:Nat):Mz:=fun i k=>if k=c then b.getD i 0 else elz a n i k
theorem b_Cr11 {n:Nat} {a b:List Int} (ha:OKZ n n a) (hb:b.length=n) {c i k:Nat} (hi:i<n) (hk:k<n):
  CallOK Tryz.prog 149 ([]++([iv (i:Nat),iv (k:Nat)]++[ptrA [iv c],ptrA [zvec b],ptrA (wC n n a)])) [] (.int (crM n a b c i k)) [] []:=by
 have k1:=b_at ha hi hk
 unfold crM
 by_cases h:k=c
 ·have t1:((k:Int)==(c:Int))=true:=by rw[h];exact beq_self_eq_true _
  rw[if_pos h]
  refine callV (Z:=[]) tabOK mixedOK Tryz.func149 rfl (by kernel_rfl) rfl rfl (by kernel_rfl) rfl ?_
  intro W0 w0 ρ0 hE
  conv=>whnf
  (repeat(first|(refine tst_tt t1 ?_;conv=>whnf)|(refine g_o (op_loadA rfl (ev_ok rfl) (tgt rfl) rfl (Nat.succ_ne_zero _) rfl) ?_;conv=>whnf)|(refine g_o (op_indexN (α:=Int) (d:=0) rfl (ev_ok rfl) (ev_ok rfl) (tgt rfl) rfl (tgt rfl) rfl (by omega)) ?_;conv=>whnf)));(first|exact Recast.refl _|exact Frz.recast (Recast.refl _) rfl|(refine Frz.one rfl rfl ?_;skip)|(refine Frz.tup ?_;skip))
 ·have t1:((k:Int)==(c:Int))=false:=beq_eq_false_iff_ne.2 (by omega)
  rw[if_neg h]
  refine callV (Z:=[]) tabOK mixedOK Tryz.func149 rfl (by kernel_rfl) rfl rfl (by kernel_rfl) rfl ?_
  intro W0 w0 ρ0 hE
  conv=>whnf
  (repeat(first|(refine g_c (by assumption) ?_;conv=>whnf)|(refine tst_ff t1 ?_;conv=>whnf)|(refine g_o (op_loadA rfl (ev_ok rfl) (tgt rfl) rfl (Nat.succ_ne_zero _) rfl) ?_;conv=>whnf)));(first|exact Recast.refl _|exact Frz.recast (Recast.refl _) rfl|(refine Frz.one rfl rfl ?_;skip)|(refine Frz.tup ?_;skip))
theorem crM_zs {n B:Nat} {a b:List Int} (ha:OKZ n n a) (za:Zm B a) (hb:b.length=n) (zb:Zm B b) (c:Nat):Zm B (mkz n n (crM n a b c)):=
 Zm_mk fun i k hi hk=>by
  unfold crM
  split
  ·exact zb i (by omega)
  ·exact elz_zm za ha.n hi hk
theorem b_Cr1 {n B:Nat} {a b:List Int} (ha:OKZ n n a) (za:Zm B a) (hl:b.length=n) (zb:Zm B b) (hB:2≤B) (hn:n≤40) (hb:2*(B*4^n)≤1073741824) (c:Nat):
  CallOK Tryz.prog 148 ([]++([iv (c:Nat)]++[ptrA (wC n n a),ptrA [zvec b]])) [] (.int (detZ n (crM n a b c))) [] []:=by
 have k1:=b_made3 (r:=n) (c:=n) (by omega) (by omega) (crM n a b c) 149 (ptrP [iv c]) (ptrP [zvec b]) (ptrP (wC n n a)) (fun i k hi hk=>b_Cr11 ha hl hi hk)
 have k2:=b_det (OKZ.mk' (r:=n) (c:=n) (by omega) (by omega) (crM n a b c)) hB (crM_zs ha za hl zb c) hn hb
 rw[show detZ n (elz (mkz n n (crM n a b c)) n)=detZ n (crM n a b c)from detZ_congr fun i k hi hk=>mkz_el hi hk]at k2
 refine callV (Z:=[3]) tabOK mixedOK Tryz.func148 rfl (by kernel_rfl) rfl rfl (by kernel_rfl) rfl ?_
 intro W0 w0 ρ0 hE
 conv=>whnf
 (repeat((first|refine g_c (by assumption) ?_|refine g_o (op_loadA rfl (ev_ok rfl) (tgt rfl) rfl (Nat.succ_ne_zero _) rfl) ?_|refine g_o (op_fieldA rfl (ev_ok rfl) (tgt rfl) rfl rfl (Nat.succ_ne_zero _) rfl) ?_|refine g_o (op_makeFunc rfl rfl rfl) ?_);conv=>whnf));(first|exact Recast.refl _|exact Frz.recast (Recast.refl _) rfl|(refine Frz.one rfl rfl ?_;skip)|(refine Frz.tup ?_;skip))
abbrev crL (n:Nat) (a b:List Int):List Int:=(upN n).map fun x=>detZ n (crM n a b x.toNat)
theorem b_Cramer {n B:Nat} {a b:List Int} (ha:OKZ n n a) (za:Zm B a) (hl:b.length=n) (zb:Zm B b) (hB:2≤B) (hB2:B≤536870912) (hn:n≤40) (hb:2*(B*4^n)≤1073741824):
  CallOK Tryz.prog 71 [wA n n a,zvec b] [] (if detZ n (elz a n)=0 then .tup [.int 0,zvec [],iv 6]else .tup [.int (detZ n (elz a n)),zvec (crL n a b),iv 0]) [] []:=by
 have k0:=b_square n n a (by have:=ha.n;have:n*n≤40*40:=Nat.mul_le_mul hn hn;omega) (fun i hi=>Nat.le_trans (za i hi) hB2)
 rw[check_ok ha.r ha.c ha.n,if_pos rfl,if_pos rfl]at k0
 have k1:=b_det ha hB za hn hb
 have t1:((b.length:Int) != (n:Int))=false:=by rw[hl];exact bne_self_eq_false _
 by_cases h0:detZ n (elz a n)=0
 ·rw[if_pos h0]
  rw[h0]at k1
  have k2:=c_Sign 0
  refine callF (Z:=[2,3]) tabOK mixedOK Tryz.func71 rfl (by kernel_rfl) (by first|rfl|(simp[keylessL,keyless,keylessL_map, *];done)) (by first|rfl|(simp[keylessL,keyless,keylessL_map, *];done)) (by kernel_rfl) rfl ?_
  intro w0 ρ0 hE
  conv=>whnf
  (repeat((first|refine step_w1 rfl rfl ?_|refine step_w2 rfl rfl ?_|refine g_c (by assumption) ?_|rw[bne_self_eq_false]|refine tst_ff t1 ?_|refine g_o (op_lenM rfl rfl rfl (ev_ok rfl) (tgt rfl) rfl) ?_|refine g_o (op_loadA rfl (ev_ok rfl) (tgt rfl) rfl (Nat.succ_ne_zero _) rfl) ?_|refine g_o (op_fieldA rfl (ev_ok rfl) (tgt rfl) rfl rfl (Nat.succ_ne_zero _) rfl) ?_);conv=>whnf));(first|exact Recast.refl _|exact Frz.recast (Recast.refl _) rfl|(refine Frz.one rfl rfl ?_;skip)|(refine Frz.tup ?_;(repeat(first|exact FrzC.keyless rfl|exact FrzL.nil|refine FrzL.cons ?_ ?_|exact FrzC.nilS))))
 ·rw[if_neg h0]
  have k2:=c_Sign (detZ n (elz a n))
  have t2:((detZ n (elz a n)).sign==0)=false:=beq_eq_false_iff_ne.2 fun e=>h0 (Int.sign_eq_zero_iff_zero.1 e)
  have k3:=(b_upToV n [] (by omega) (by simp)).wk (args:=[iv n,.val (.slice none 0 0)]) (by repeat(first|exact WkL.nil|refine WkL.cons ?_ ?_|exact Wk.nil|exact Wk.refl|refine Wk.agg ?_))
  rw[show upL n []=upN n from List.append_nil _]at k3
  have k4:=b_over2 (fun x=>detZ n (crM n a b x.toNat)) 148 (ptrP (wC n n a)) (ptrP [zvec b]) (upN n) (by rw[upN_len];omega) (fun i hi=>by
   rw[upN_len]at hi
   rw[upN_at hi]
   exact b_Cr1 ha za hl zb hB hn hb i)
  refine callV (Z:=[2,3]) tabOK mixedOK Tryz.func71 rfl (by kernel_rfl) rfl rfl (by kernel_rfl) rfl ?_
  intro W0 w0 ρ0 hE
  conv=>whnf
  (repeat((first|refine step_w2 rfl rfl ?_|refine g_c (by assumption) ?_|rw[bne_self_eq_false]|refine tst_ff t1 ?_|refine tst_ff t2 ?_|refine g_o (op_lenM rfl rfl rfl (ev_ok rfl) (tgt rfl) rfl) ?_|refine g_o (op_loadA rfl (ev_ok rfl) (tgt rfl) rfl (Nat.succ_ne_zero _) rfl) ?_|refine g_o (op_fieldA rfl (ev_ok rfl) (tgt rfl) rfl rfl (Nat.succ_ne_zero _) rfl) ?_|refine g_o (op_makeFunc rfl rfl rfl) ?_);conv=>whnf));(first|exact Recast.refl _|exact Frz.recast (Recast.refl _) rfl|(refine Frz.one rfl rfl ?_;skip)|(refine Frz.tup ?_;skip))
end Go.Proofs.YtjknedoaofjnbaaGreatDoor
namespace Go.Proofs.YtjknedoaofjnbaaGreatDoor
open Go.Sx
set_option linter.unusedSimpArgs false
set_option linter.unusedVariables false
set_option maxRecDepth 100000
set_option maxHeartbeats 40000000
theorem zq_guard:Tryz.prog.eqGuardType Tryz.prog.depth 51=false:=by kernel_rfl
theorem zq_same (a b:Int):eqTy tab good 10 51 (intCells a) (intCells b)=some (decide (a=b)):=by
 have e:eqTy tab good 10 51 (intCells a) (intCells b)=some (((((low a.natAbs==low b.natAbs)&&(((big a.natAbs).toList==(big b.natAbs).toList)&&true))&&true)&&((decide (a<0)==decide (b<0))&&true))):=rfl
 rw[e]
 simp only[Bool.and_true]
 rw[nat_eq_iff]
 congr 1
 rw[Bool.eq_iff_iff]
 simp only[Bool.and_eq_true,decide_eq_true_eq,beq_iff_eq,decide_eq_decide]
 constructor
 ·rintro⟨h3,h4⟩
  omega
 ·rintro rfl;exact⟨rfl,Iff.rfl⟩
theorem nq_guard:Tryz.prog.eqGuardType Tryz.prog.depth 47=false:=by kernel_rfl
theorem nq_same (a b:Nat):eqTy tab good 10 47 (natCells a) (natCells b)=some (decide (a=b)):=by
 have e:eqTy tab good 10 47 (natCells a) (natCells b)=some (((low a==low b)&&(((big a).toList==(big b).toList)&&true))):=rfl
 rw[e]
 simp only[Bool.and_true]
 rw[nat_eq_iff]
abbrev Y9:List Int:=[2,0,1,1,3,2,1,1,4]
abbrev Y4:List Int:=[1,2,3,4]
abbrev Q4:List Rat:=[1/2,1/3,1,2]
theorem l_works15:CallOK Tryz.prog 54 [] [] (.val (.bool true)) [] []:=by
 have hW:OKZ 3 3 Y9:=⟨by decide,by decide,rfl⟩
 have zW:Zm 20 Y9:=by unfold Zm;decide+kernel
 have h4:OKZ 2 2 Y4:=⟨by decide,by decide,rfl⟩
 have z4:Zm 20 Y4:=by unfold Zm;decide+kernel
 have o1:=b_Of (r:=3) (c:=3) (l:=Y9) (by decide) (by decide) rfl (by decide)
 have o2:=b_Stage (s:=1) hW zW (by decide) (by decide) (by decide) (by decide) (by decide)
 have o3:=b_Stage (s:=2) hW zW (by decide) (by decide) (by decide) (by decide) (by decide)
 have o4:=b_Det hW zW (by decide) (by decide) (by decide) (by decide)
 have o5:=b_Cramer hW zW (b:=[3,6,6]) rfl (by unfold Zm;decide+kernel) (by decide) (by decide) (by decide) (by decide)
 have e0:detZ 3 (elz Y9 3)=18:=by decide+kernel
 rw[e0]at o4
 rw[e0,if_neg (by decide),show crL 3 Y9 [3,6,6]=[18,18,18]from by decide+kernel]at o5
 rw[show stM 3 3 1 Y9=[6,3,2,7]from by decide+kernel]at o2
 rw[show stM 3 3 2 Y9=[18]from by decide+kernel]at o3
 replace o2:CallOK Tryz.prog 66 [wA 3 3 Y9,iv 1] [] (.tup [wA 2 2 [6,3,2,7],iv 0]) [] []:=o2
 replace o3:CallOK Tryz.prog 66 [wA 3 3 Y9,iv 2] [] (.tup [wA 1 1 [18],iv 0]) [] []:=o3
 have t1:=b_Text 2 2 [6,3,2,7] (by decide) (by decide+kernel) (m_Text (r:=2) (c:=2) (B:=20) (a:=ofInts [6,3,2,7]) ⟨by decide,by decide,rfl⟩ (by unfold Sm;decide+kernel) (by decide))
 have t2:=b_Text 1 1 [18] (by decide) (by decide+kernel) (m_Text (r:=1) (c:=1) (B:=20) (a:=ofInts [18]) ⟨by decide,by decide,rfl⟩ (by unfold Sm;decide+kernel) (by decide))
 have i3:=c_iOf 3 (by decide) (by decide)
 have i6:=c_iOf 6 (by decide) (by decide)
 have i18:=c_iOf 18 (by decide) (by decide)
 have i21:=c_iOf 21 (by decide) (by decide)
 have o6:=b_Of (r:=2) (c:=2) (l:=Y4) (by decide) (by decide) rfl (by decide)
 have o7:=b_Adjugate h4 z4 (by decide) (by decide) (by decide) (by decide)
 rw[show mkz 2 2 (adjZ 2 (elz Y4 2))=[4, -2, -3,1]from by decide+kernel]at o7
 have t3:=b_Text 2 2 [4, -2, -3,1] (by decide) (by decide+kernel) (m_Text (r:=2) (c:=2) (B:=20) (a:=ofInts [4, -2, -3,1]) ⟨by decide,by decide,rfl⟩ (by unfold Sm;decide+kernel) (by decide))
 have o8:=b_Bound h4 z4 (by decide) (by decide)
 rw[show pZ ((upN 2).map fun x=>rowZ Y4 2 x.toNat)=21 from by decide+kernel]at o8
 have f1:=c_fOf natBig 1 2 (by decide+kernel) (by decide) (by decide) (by decide) (by decide) (by decide)
 have f2:=c_fOf natBig 1 3 (by decide+kernel) (by decide) (by decide) (by decide) (by decide) (by decide)
 have f3:=c_fInt 1 (by decide) (by decide)
 have f4:=c_fInt 2 (by decide) (by decide)
 have o9:=b_Clear (r:=2) (c:=2) (B:=20) (a:=Q4) ⟨by decide,by decide,rfl⟩ (by unfold Sm;decide+kernel) (by decide) (by decide)
 rw[show clZ 2 2 Q4=[3,2,1,2]from by decide+kernel,show byL 2 2 Q4=[6,1]from by decide+kernel]at o9
 have t4:=b_Text 2 2 [3,2,1,2] (by decide) (by decide+kernel) (m_Text (r:=2) (c:=2) (B:=20) (a:=ofInts [3,2,1,2]) ⟨by decide,by decide,rfl⟩ (by unfold Sm;decide+kernel) (by decide))
 have n6:=c_nOf 6 (by decide)
 have n1:=c_nOf 1 (by decide)
 have q1:(!(tM 2 2 (ofInts [6,3,2,7])).toList==(ByteArray.mk #[91,54,32,51,93,32,91,50,32,55,93]).toList)=false:=by decide+kernel
 have q2:(!(tM 1 1 (ofInts [18])).toList==(ByteArray.mk #[91,49,56,93]).toList)=false:=by decide+kernel
 have q3:((tM 2 2 (ofInts [4, -2, -3,1])).toList==(ByteArray.mk #[91,52,32,45,50,93,32,91,45,51,32,49,93]).toList)=true:=by decide+kernel
 have q4:((tM 2 2 (ofInts [3,2,1,2])).toList==(ByteArray.mk #[91,51,32,50,93,32,91,49,32,50,93]).toList)=true:=by decide+kernel
 refine callV (Z:=[26,50,120,147]) tabOK mixedOK Tryz.func54 rfl (by kernel_rfl) rfl rfl (by kernel_rfl) rfl ?_
 intro W0 w0 ρ0 hE
 conv=>whnf
 (repeat((first|refine step_w1 rfl rfl ?_|refine step_w2 rfl rfl ?_|refine step_i (by kernel_rfl) ?_|refine g_c (by assumption) ?_|refine g_o (op_pickT rfl (ev_ok rfl) (ev_ok rfl)) ?_|refine g_o (op_pickF rfl (ev_ok rfl) (ev_ok rfl)) ?_|rw[beq_self_eq_true]|rw[bne_self_eq_false]|refine tst_tt q3 ?_|refine tst_tt q4 ?_|refine g_o (op_lenM rfl rfl rfl (ev_ok rfl) (tgt rfl) rfl) ?_|refine g_o (op_loadA rfl (ev_ok rfl) (tgt rfl) rfl (Nat.succ_ne_zero _) rfl) ?_|refine g_o (op_indexA rfl (ev_ok rfl) (ev_ok rfl) (tgt rfl) rfl (tgt rfl) rfl (by omega) (by first|decide|(simp;done)|omega) rfl) ?_|refine⟨_,op_eqAgg tabOK goodOK rfl (ev_ok rfl) (ev_ok rfl) rfl rfl rfl rfl (zq_same _ _) zq_guard, ?_⟩|refine⟨_,op_neAgg tabOK goodOK rfl (ev_ok rfl) (ev_ok rfl) rfl rfl rfl rfl (zq_same _ _) zq_guard, ?_⟩|refine⟨_,op_eqAgg tabOK goodOK rfl (ev_ok rfl) (ev_ok rfl) rfl rfl rfl rfl (nq_same _ _) nq_guard, ?_⟩|rw[q1]|rw[q2]|rw[q3]|rw[q4]);conv=>whnf))
 exact fun _ _ h=>h
end Go.Proofs.YtjknedoaofjnbaaGreatDoor
namespace Go.Proofs.YtjknedoaofjnbaaGreatDoor
open Go.Sx
set_option linter.unusedSimpArgs false
set_option linter.unusedVariables false
set_option maxRecDepth 100000
set_option maxHeartbeats 40000000
abbrev WW:=Int×Int×List Int
abbrev wQ:WW→SV:=ag3 (iel .u8) (iel .u8) (ivec .i64)
abbrev nilW:WW:=(0,0,[])
def wOK (m:WW):Prop:=(0≤m.1∧m.1<256)∧(0≤m.2.1∧m.2.1<256)∧m.2.2.length≤maxLen∧∀x∈m.2.2, -9223372036854775808≤x∧x<9223372036854775808
def zLw (l:List Int) (n:Nat):List Int:=(List.range n).map fun p=>l.getD p 0
theorem zLw_len (l:List Int) (n:Nat):(zLw l n).length=n:=by simp[zLw]
theorem zLw_get {l:List Int} {n p:Nat} (h:p<n):(zLw l n).getD p 0=l.getD p 0:=by simp[zLw,List.getD_eq_getElem?_getD,h]
theorem i64_at {l:List Int} (h:∀x∈l, -9223372036854775808≤x∧x<9223372036854775808) (p:Nat): -9223372036854775808≤l.getD p 0∧l.getD p 0<9223372036854775808:=by
 by_cases hp:p<l.length
 ·exact h _ (getD_mem hp)
 ·rw[List.getD_eq_getElem?_getD,List.getElem?_eq_none (by omega)];exact⟨by decide,by decide⟩
theorem Zm_zLw {l:List Int} (h:∀x∈l, -9223372036854775808≤x∧x<9223372036854775808) (n:Nat):Zm 65 (zLw l n):=by
 intro p hp
 rw[zLw_len]at hp
 rw[zLw_get hp];obtain⟨a,b⟩:=i64_at h p;exact zs_i64 a b
theorem OKZ_zLw (l:List Int) {r c:Nat} (hr:r≤2048) (hc:c≤2048):OKZ r c (zLw l (r*c)):=⟨hr,hc,zLw_len ..⟩
theorem c_fewW (ms:List WW) (h:ms.length<1000) (hl:∀m∈ms,m.2.2.length≤maxLen):CallOK Tryz.prog 64 [mvec 3 wQ ms] [] (.val (.bool (ms.all fun m=>decide (m.2.2.length≤40)))) [] []:=by
 refine callV (Z:=[]) tabOK mixedOK Tryz.func64 rfl (by kernel_rfl) rfl rfl (by kernel_rfl) rfl ?_
 intro W0 w0 ρ0 hE
 conv=>whnf
 skip
 refine SW_loopN hE (fun k=>k) [0,3] [] (fun m fr hp=>∃i:Nat,m=ms.length - i∧i≤ms.length∧(∀j,j<i→decide ((ms.getD j nilW).2.2.length≤40)=true)∧fr=[(0,mvec 3 wQ ms),(3,iv (i:Nat))]∧hp=[]) ms.length ?_ ?_ ?_
 ·kernel_rfl
 ·exact⟨0,rfl,Nat.zero_le _,(fun j hj=>by omega),rfl,rfl⟩
 rintro m _ _ ⟨i,rfl,hi,hs,rfl,rfl⟩
 conv=>whnf
 by_cases hlt:i<ms.length
 ·have t1:=dlt hlt
  have t2:=winc (i:=i) (by omega)
  by_cases hL:(ms.getD i nilW).2.2.length≤40
  ·have t3:decide (((ms.getD i nilW).2.2.length:Int)>40)=false:=decide_eq_false (by omega)
   (repeat((first|refine tst_tt t1 ?_|refine tst_ff t3 ?_|refine g_o (op_lenM rfl rfl rfl (ev_ok rfl) (tgt rfl) rfl) ?_|refine g_o (op_loadA rfl (ev_ok rfl) (tgt rfl) rfl (Nat.succ_ne_zero _) rfl) ?_|refine g_o (op_fieldA rfl (ev_ok rfl) (tgt rfl) rfl rfl (Nat.succ_ne_zero _) rfl) ?_|refine g_o (op_indexN (α:=WW) (d:=nilW) rfl (ev_ok rfl) (ev_ok rfl) (tgt rfl) rfl (tgt rfl) rfl (by omega)) ?_|rw[t1]|rw[t3]|rw[t2]);conv=>whnf))
   refine⟨ms.length - (i+1),fun k=>k,[0,3],[],by omega,by kernel_rfl,i+1,rfl,hlt, ?_,rfl,rfl⟩
   intro j hj
   by_cases hji:j=i
   ·rw[hji];exact decide_eq_true hL
   ·exact hs j (by omega)
  ·have t3:decide (((ms.getD i nilW).2.2.length:Int)>40)=true:=decide_eq_true (by omega)
   have e:(ms.all fun m=>decide (m.2.2.length≤40))=false:=all_no (d:=nilW) hlt (decide_eq_false hL)
   rw[e]
   (repeat((first|refine tst_tt t1 ?_|refine tst_tt t3 ?_|refine g_o (op_lenM rfl rfl rfl (ev_ok rfl) (tgt rfl) rfl) ?_|refine g_o (op_loadA rfl (ev_ok rfl) (tgt rfl) rfl (Nat.succ_ne_zero _) rfl) ?_|refine g_o (op_fieldA rfl (ev_ok rfl) (tgt rfl) rfl rfl (Nat.succ_ne_zero _) rfl) ?_|refine g_o (op_indexN (α:=WW) (d:=nilW) rfl (ev_ok rfl) (ev_ok rfl) (tgt rfl) rfl (tgt rfl) rfl (by omega)) ?_);conv=>whnf));(first|exact Recast.refl _|exact Frz.recast (Recast.refl _) rfl|(refine Frz.one rfl rfl ?_;skip)|(refine Frz.tup ?_;skip))
 ·have t1:=dge hlt
  obtain rfl:i=ms.length:=by omega
  have e:(ms.all fun m=>decide (m.2.2.length≤40))=true:=all_at nilW hs
  rw[e]
  (repeat(first|(refine tst_ff t1 ?_;conv=>whnf)|(refine g_o (op_lenM rfl rfl rfl (ev_ok rfl) (tgt rfl) rfl) ?_;conv=>whnf)));(first|exact Recast.refl _|exact Frz.recast (Recast.refl _) rfl|(refine Frz.one rfl rfl ?_;skip)|(refine Frz.tup ?_;skip))
theorem c_WOf (m:WW) (hm:wOK m) {r c:Nat} (hr:r≤100) (hc:c≤100):CallOK Tryz.prog 65 [wQ m,iv r,iv c] [] (wA r c (zLw m.2.2 (r*c))) [] []:=by
 obtain⟨A,B,l⟩:=m
 obtain⟨_,_,hl,hq⟩:=hm
 replace hl:l.length≤maxLen:=hl
 have hz:=zLw_len l (r*c)
 have hz2:((zLw l (r*c)).map SV.int).length=r*c:=by rw[List.length_map,hz]
 have hN:r*c≤100*100:=Nat.mul_le_mul hr hc
 have t0:IntKind.i64.wrap ((r:Int)*(c:Int))=((r*c:Nat):Int):=by rw[←Int.natCast_mul,wrap_i64 (by omega) (by omega)]
 generalize r*c=N at*
 refine callF (Z:=[3]) tabOK mixedOK Tryz.func65 rfl (by kernel_rfl) (by first|rfl|(simp[keylessL,keyless,keylessL_map, *];done)) (by first|rfl|(simp[keylessL,keyless,keylessL_map, *];done)) (by kernel_rfl) rfl ?_
 intro w0 ρ0 hE
 conv=>whnf
 skip
 refine SWx_adoptB (j:=7) (k:=2001) (s:=3) (p:=2) (blk:=zB3 []) rfl rfl rfl rfl rfl ?_
 refine SW_loopS hE (fun k=>k) [1,2,3,6,7,8] [6,7,2001] (fun m fr hp=>∃i:Nat,m=N - i∧i≤N∧fr=[(1,iv r),(2,iv c),(3,ptrA [iel .u8 A,iel .u8 B,ivec .i64 l]),(6,.ptr 6 0 0 0),(7,.ptr 7 0 0 0),(8,iv (i:Nat))]∧
  hp=[(6,zW),(7,⟨112,true,.one [iv r,iv c,.slc 2001 3 0 i]⟩),(2001,⟨51,true,.seq 3 (((zLw l N).map SV.int).take i)⟩)]) N ?_ ?_ ?_
 ·kernel_rfl
 ·exact⟨0,rfl,Nat.zero_le _,rfl,rfl⟩
 rintro m _ _ ⟨i,rfl,hi,rfl,rfl⟩
 have hlt0:(((zLw l N).map SV.int).take i).length=i:=by rw[List.length_take];omega
 by_cases hlt:i<N
 ·have t1:=dlt hlt
  have t2:=winc (i:=i) (by omega)
  obtain⟨b1,b2⟩:=i64_at hq i
  have o1:=c_iOf (l.getD i 0) b1 b2
  have e1:=app_one (d:=SV.int 0) (show i<((zLw l N).map SV.int).length by omega)
  rw[map_getD (d:=0) (by omega),zLw_get hlt]at e1
  refine SWx.of hE ?_
  conv=>whnf
  by_cases hil:i<l.length
  ·have t3:=dlt hil
   (repeat((first|refine step_i (by kernel_rfl) ?_|refine step_oA (by first|omega|decide|(simp only[tl0,dlen,List.length_replicate,List.length_set,List.length_map,List.length_zipWith,List.length_take,List.length_append,List.length_cons,List.length_nil];omega)) ?_|refine g_c (by assumption) ?_|refine tst_tt t1 ?_|refine tst_tt t3 ?_|refine g_o (op_lenM rfl rfl rfl (ev_ok rfl) (tgt rfl) rfl) ?_|refine g_o (op_loadA rfl (ev_ok rfl) (tgt rfl) rfl (Nat.succ_ne_zero _) rfl) ?_|refine g_o (op_indexN (α:=Int) (d:=0) rfl (ev_ok rfl) (ev_ok rfl) (tgt rfl) rfl (tgt rfl) rfl (by omega)) ?_|refine g_o (op_fieldA rfl (ev_ok rfl) (tgt rfl) rfl rfl (Nat.succ_ne_zero _) rfl) ?_|rw[t0]|rw[t1]|rw[t3]|rw[t2]|rw[Nat.zero_add]);conv=>whnf))
   refine⟨N - (i+1),renBy [(35,2001)],[1,2,3,6,7,8],[6,7,35],by omega,by kernel_rfl,i+1,rfl,hlt,rfl, ?_⟩
   rw[e1];rfl
  ·have t3:=dge hil
   have e2:l.getD i 0=0:=by rw[List.getD_eq_getElem?_getD,List.getElem?_eq_none (by omega)];rfl
   rw[e2]at o1 e1
   (repeat((first|refine step_i (by kernel_rfl) ?_|refine step_oA (by first|omega|decide|(simp only[tl0,dlen,List.length_replicate,List.length_set,List.length_map,List.length_zipWith,List.length_take,List.length_append,List.length_cons,List.length_nil];omega)) ?_|refine g_c (by assumption) ?_|refine tst_tt t1 ?_|refine tst_ff t3 ?_|refine g_o (op_lenM rfl rfl rfl (ev_ok rfl) (tgt rfl) rfl) ?_|refine g_o (op_loadA rfl (ev_ok rfl) (tgt rfl) rfl (Nat.succ_ne_zero _) rfl) ?_|refine g_o (op_fieldA rfl (ev_ok rfl) (tgt rfl) rfl rfl (Nat.succ_ne_zero _) rfl) ?_|rw[t0]|rw[t1]|rw[t3]|rw[t2]|rw[Nat.zero_add]);conv=>whnf))
   refine⟨N - (i+1),renBy [(35,2001)],[1,2,3,6,7,8],[6,7,35],by omega,by kernel_rfl,i+1,rfl,hlt,rfl, ?_⟩
   rw[e1];rfl
 ·have t1:=dge hlt
  obtain rfl:i=N:=by omega
  rw[List.take_of_length_le (by omega)]
  refine SWx.of hE ?_
  conv=>whnf
  (repeat(first|(refine tst_ff t1 ?_;conv=>whnf)|(rw[t0];conv=>whnf)))
  (first|exact Recast.refl _|exact Frz.recast (Recast.refl _) rfl|(refine Frz.one rfl rfl ?_;(repeat(first|exact FrzC.keyless rfl|exact FrzL.nil|refine FrzL.cons ?_ ?_|refine FrzC.agg ?_|(refine FrzC.seq rfl (by first|rfl|(apply keylessL_map;intro _;rfl)) ?_;(first|rfl|omega|(simp<;>fail)|(simp<;>omega))))))|(refine Frz.tup ?_;skip))
abbrev WWf (m:WW):Prop:=((Lit.int .u8 m.1).wf=true)∧((Lit.int .u8 m.2.1).wf=true)∧(m.2.2.length≤maxLen∧∀x∈m.2.2,(Lit.int .i64 x).wf=true)
theorem wOK_of {m:WW} (w:WWf m):wOK m:=⟨wf_u8 w.1,wf_u8 w.2.1,w.2.2.1,fun x h=>wf_i64 (w.2.2.2 x h)⟩
end Go.Proofs.YtjknedoaofjnbaaGreatDoor
namespace Go.Proofs.YtjknedoaofjnbaaGreatDoor
open Go.Sx
set_option linter.unusedSimpArgs false
set_option linter.unusedVariables false
set_option maxRecDepth 100000
set_option maxHeartbeats 40000000
end Go.Proofs.YtjknedoaofjnbaaGreatDoor
namespace Go.Proofs.YtjknedoaofjnbaaGreatDoor
open Go.Sx
set_option linter.unusedSimpArgs false
set_option linter.unusedVariables false
set_option maxRecDepth 100000
set_option maxHeartbeats 40000000
end Go.Proofs.YtjknedoaofjnbaaGreatDoor
namespace Go.Proofs.YtjknedoaofjnbaaGreatDoor
open Go.Sx
set_option linter.unusedSimpArgs false
set_option linter.unusedVariables false
set_option maxRecDepth 100000
set_option maxHeartbeats 40000000
theorem pow6 {k:Nat} (h:k<6):2*(65*4^k)≤1073741824:=by
 have:4^k≤4^6:=Nat.pow_le_pow_right (by decide) (by omega)
 omega
end Go.Proofs.YtjknedoaofjnbaaGreatDoor
namespace Go.Proofs.YtjknedoaofjnbaaGreatDoor
open Go.Sx
set_option linter.unusedSimpArgs false
set_option linter.unusedVariables false
set_option maxRecDepth 100000
set_option maxHeartbeats 40000000
theorem ofInts_len (l:List Int):(ofInts l).length=l.length:=by simp[ofInts]
theorem ofInts_at {l:List Int} {i:Nat} (h:i<l.length):(ofInts l).getD i 0=((l.getD i 0:Int):Rat):=map_getD h
theorem ofInts_Sm {l:List Int} {B:Nat} (h:Zm B l):Sm (B+1) (ofInts l):=by
 intro p hp
 rw[ofInts_len]at hp
 rw[ofInts_at hp];have:=fs_zs (l.getD p 0);have:=h p hp;omega
theorem el_ofInts {l:List Int} {r c i k:Nat} (hl:l.length=r*c) (hi:i<r) (hk:k<c):el (ofInts l) c i k=((elz l c i k:Int):Rat):=ofInts_at (by rw[hl];exact idx_lt hi hk)
theorem zs_le_fs (z:Int):zs z≤fs (z:Rat):=by
 have:=fsz_num (z:Rat)
 rw[Rat.num_intCast]at this
 unfold zs fs;omega
theorem pS_70 {n B m:Nat} (hn:n≤5) (hB:B≤70) (hm:m≤5):pS n B m≤300000:=by
 have h:∀m,pS n B m≤pS 5 70 m:=by
  intro m
  induction m with
  |zero=>exact Nat.le_refl _
  |succ m ih=>exact Nat.add_le_add_left (Nat.mul_le_mul hn (Nat.add_le_add hB ih)) 2
 refine Nat.le_trans (h m) ?_
 obtain rfl|rfl|rfl|rfl|rfl|rfl:m=0∨m=1∨m=2∨m=3∨m=4∨m=5:=by omega
 all_goals decide
theorem detZ_zs {n B:Nat} {A:Mz} (hn:n≤5) (hB:B≤69) (h:∀i k,i<n→k<n→zs (A i k)≤B):zs (detZ n A)≤300000:=by
 refine Nat.le_trans (zs_le_fs _) ?_
 rw[detZ_cast]
 have:=picks_fs (n:=n) (B:=B+1) (a:=mk n n (toR A)) (mk_len ..) (Sm_mk fun i k hi hk=>by have:=fs_zs (A i k);have:=h i k hi hk;show fs ((A i k:Int):Rat)≤_;omega) n 0 [] (Nat.zero_add _)
 rw[picks_det,det_congr (B:=toR A) fun i k hi hk=>mk_el hi hk]at this
 exact Nat.le_trans this (pS_70 hn (by omega) hn)
end Go.Proofs.YtjknedoaofjnbaaGreatDoor
namespace Go.Proofs.YtjknedoaofjnbaaGreatDoor
open Go.Sx
set_option linter.unusedSimpArgs false
set_option linter.unusedVariables false
set_option maxRecDepth 100000
set_option maxHeartbeats 40000000
end Go.Proofs.YtjknedoaofjnbaaGreatDoor
