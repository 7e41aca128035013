/- The texts Oe, Og. -/
import Derived.Test.YtbopchpncgdaaaaGreatDoorQLBareissClear2
namespace Go.Proofs.YtbopchpncgdaaaaGreatDoor
open Go.Sx
set_option linter.unusedSimpArgs false
set_option linter.unusedVariables false
set_option maxRecDepth 100000
set_option maxHeartbeats 4000000
theorem piv_or (a:List Int) (c r:Nat):(∀i,i<r→elz a c i 0=0)∨∃i,i<r∧elz a c i 0≠0∧∀j,j<i→elz a c j 0=0:=by
 induction r with
 |zero=>exact .inl fun i hi=>by omega
 |succ r ih=>
  rcases ih with h|⟨i,h1,h2⟩
  ·by_cases g:elz a c r 0=0
   ·refine .inl fun i hi=> ?_
    by_cases e:i=r
    ·rw[e,g]
    ·exact h i (by omega)
   ·exact .inr ⟨r,by omega,g,h⟩
  ·exact .inr ⟨i,by omega,h2⟩
theorem StOK.turn {n s B:Nat} {A0:Mz} {a:List Int} {b:Int} {w j:Nat} (h:StOK n s B A0 a b w) (hj:s+j<n):
  ∃w',w'=(if 0<j then w+1 else w)∧(∃A:Mz,mkz (n - s) (n - s) (swapZ (elz a (n - s)) 0 j)=mkz (n - s) (n - s) (bmZ s A)∧b=detZ s A∧b≠0∧detZ n A0=sgZ w'*detZ n A)∧Zm (B*4^s) (mkz (n - s) (n - s) (swapZ (elz a (n - s)) 0 j)):=by
 obtain⟨A,ha,hb,hb0,e⟩:=h.ex
 have hl:a.length=(n - s)*(n - s):=by rw[ha,mkz_len]
 refine⟨_,rfl,⟨swapZ A s (s+j), ?_, ?_,hb0, ?_⟩, ?_⟩
 ·refine mkz_congr fun p q hp hq=> ?_
  rw[bmZ_swap]
  have e2:∀p,p<n - s→elz a (n - s) p q=bmZ s A p q:=fun p hp=>by rw[ha,mkz_el hp hq]
  unfold swapZ
  by_cases h1:p=0
  ·rw[if_pos h1,if_pos h1,e2 j (by omega)]
  ·rw[if_neg h1,if_neg h1]
   by_cases h2:p=j
   ·rw[if_pos h2,if_pos h2,e2 0 (by omega)]
   ·rw[if_neg h2,if_neg h2,e2 p hp]
 ·rw[detZ_swap_lead,hb]
 ·by_cases g:0<j
  ·rw[if_pos g,detZ_swap A (by omega) hj (by omega),sgZ,e,Int.neg_mul_neg]
  ·rw[if_neg g,show s+j=s by omega,swapZ_self,e]
 ·refine Zm_mk fun p q hp hq=> ?_
  unfold swapZ
  split
  ·exact elz_zm h.z hl (by omega) hq
  ·split
   ·exact elz_zm h.z hl (by omega) hq
   ·exact elz_zm h.z hl hp hq
end Go.Proofs.YtbopchpncgdaaaaGreatDoor
namespace Go.Proofs.YtbopchpncgdaaaaGreatDoor
open Go.Sx
set_option linter.unusedSimpArgs false
set_option linter.unusedVariables false
set_option maxRecDepth 100000
set_option maxHeartbeats 40000000
abbrev zIB:Blk:=⟨51,true,.one [.int 0]⟩
theorem b_det {n B:Nat} {a:List Int} (ha:OKZ n n a) (hB:2≤B) (za:Zm B a) (hn:n≤40) (hb:2*(B*4^n)≤1073741824):CallOK Tryz.prog 124 [wA n n a] [] (.int (detZ n (elz a n))) [] []:=by
 have k0:=b_begin n n a
 have hs0:=StOK.start ha.n hB za
 generalize elz a n=A0 at*
 refine callV (Z:=[1]) tabOK mixedOK Tryz.func124 rfl (by kernel_rfl) rfl rfl (by kernel_rfl) rfl ?_
 intro W0 w0 ρ0 hE
 conv=>whnf
 (repeat(first|(refine g_c (by assumption) ?_;conv=>whnf)|(refine g_o (op_loadA rfl (ev_ok rfl) (tgt rfl) rfl (Nat.succ_ne_zero _) rfl) ?_;conv=>whnf)))
 refine SW_loopN hE (fun k=>k) [2,3] [2,3] (fun m fr hp=>∃(s:Nat) (a:List Int) (b:Int) (w:Nat),s+m=n∧StOK n s B A0 a b w∧fr=[(2,.ptr 2 0 0 0),(3,.ptr 3 0 0 0)]∧
  hp=[(2,zIB),(3,bS m m a b w)]) n ?_ ?_ ?_
 ·kernel_rfl
 ·exact⟨0,a,1,0,Nat.zero_add n,hs0,rfl,rfl⟩
 clear hs0 ha za k0
 rintro m _ _ ⟨s,a,b,w,hm,hst,rfl,rfl⟩
 conv=>whnf
 cases m with
 |zero=>
  have t1:decide (((0:Nat):Int)>0)=false:=by decide
  obtain rfl:s=n:=hm
  have e:=hst.fin
  have hw:=hst.w
  have e3:((w:Nat):Int).tmod 2=(w:Int) % 2:=Int.tmod_eq_emod_of_nonneg (Int.natCast_nonneg _)
  by_cases hodd:w % 2=1
  ·rw[if_pos hodd]at e
   rw[e]
   have k1:=c_Neg b
   have t2:(((w:Nat):Int).tmod 2==1)=true:=by rw[e3];exact beq_iff_eq.2 (by omega)
   (repeat((first|refine step_w1 rfl rfl ?_|refine step_w2 rfl rfl ?_|refine step_oN (by first|omega|decide|(simp only[tl0,dlen,List.length_replicate,List.length_set,List.length_map,List.length_zipWith,List.length_take,List.length_append,List.length_cons,List.length_nil];omega)) ?_|refine g_c (by assumption) ?_|rw[t1]|rw[t2]);conv=>whnf));(first|exact Recast.refl _|exact Frz.recast (Recast.refl _) rfl|(refine Frz.one rfl rfl ?_;skip)|(refine Frz.tup ?_;skip))
  ·rw[if_neg hodd]at e
   rw[e]
   have t2:(((w:Nat):Int).tmod 2==1)=false:=by rw[e3];exact beq_eq_false_iff_ne.2 (by omega)
   (repeat((first|refine step_w2 rfl rfl ?_|refine step_oN (by first|omega|decide|(simp only[tl0,dlen,List.length_replicate,List.length_set,List.length_map,List.length_zipWith,List.length_take,List.length_append,List.length_cons,List.length_nil];omega)) ?_|rw[t1]|rw[t2]);conv=>whnf));(first|exact Recast.refl _|exact Frz.recast (Recast.refl _) rfl|(refine Frz.one rfl rfl ?_;skip)|(refine Frz.tup ?_;skip))
 |succ k=>
  have t1:decide (((k+1:Nat):Int)>0)=true:=decide_eq_true (by omega)
  have hns:n - s=k+1:=by omega
  have hok:OKZ (k+1) (k+1) a:=⟨by omega,by omega,by obtain⟨A,e,_⟩:=hst.ex;rw[e,mkz_len,hns]⟩
  rcases piv_or a (k+1) (k+1)with h0|⟨j,hj,hj0,hjb⟩
  ·have k1:=b_turned_no (b:=b) (s:=w) hok h0
   have e:=hst.none (by omega) (by rw[hns];exact h0)
   rw[e]
   (repeat(first|(refine step_w1 rfl rfl ?_;conv=>whnf)|(refine g_c (by assumption) ?_;conv=>whnf)|(rw[t1];conv=>whnf)));(first|exact Recast.refl _|exact Frz.recast (Recast.refl _) rfl|(refine Frz.one rfl rfl ?_;skip)|(refine Frz.tup ?_;skip))
  ·have hpow:B*4^s*4≤B*4^n:=by
    have:B*4^(s+1)≤B*4^n:=Nat.mul_le_mul_left B (Nat.pow_le_pow_right (by decide) (by omega))
    rwa [Nat.pow_succ,←Nat.mul_assoc]at this
   have hzb:=hst.zb
   have hw:=hst.w
   have k1:=b_turned (b:=b) (s:=(w:Nat)) hok hj hjb hj0 (by omega)
   obtain⟨w',ew,hx,hz⟩:=hst.turn (j:=j) (by omega)
   rw[hns]at hx hz
   rw[show(if 0<j then((w:Nat):Int)+1 else(w:Nat))=((w':Nat):Int)from by rw[ew];split<;>simp]at k1
   have hok':OKZ (k+1) (k+1) (mkz (k+1) (k+1) (swapZ (elz a (k+1)) 0 j)):=OKZ.mk' (by omega) (by omega) _
   have h00:elz (mkz (k+1) (k+1) (swapZ (elz a (k+1)) 0 j)) (k+1) 0 0≠0:=by
    rw[mkz_el (by omega) (by omega)];exact hj0
   have hw':w'≤s+1:=by rw[ew];split<;>omega
   generalize mkz (k+1) (k+1) (swapZ (elz a (k+1)) 0 j)=a' at*
   have k2:=b_next (b:=b) (s:=(w':Nat)) hok' hz (by omega)
   have hnx:=StOK.next (B:=B) (A0:=A0) (a:=a') (b:=b) (w:=w') (s:=s) (n:=n) (by omega) hw' hz (by rw[hns];exact hx) (by rw[hns];exact h00)
   rw[hns,show n - (s+1)=k by omega]at hnx
   clear hst hx hz hok hok' hpow hzb
   (repeat((first|refine step_w1 rfl rfl ?_|refine step_w2 rfl rfl ?_|refine g_c (by assumption) ?_|rw[t1]|rw[Nat.zero_add]);conv=>whnf))
   exact⟨k,fun k=>k,[2,3],[2,3],by omega,by kernel_rfl,s+1,_,_,w',by omega,hnx,rfl,rfl⟩
end Go.Proofs.YtbopchpncgdaaaaGreatDoor
