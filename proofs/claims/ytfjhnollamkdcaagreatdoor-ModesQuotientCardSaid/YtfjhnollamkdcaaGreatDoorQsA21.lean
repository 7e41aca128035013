/- The texts Ah. -/
import Derived.Test.YtfjhnollamkdcaaGreatDoorQsA20
namespace Go.Proofs.YtfjhnollamkdcaaGreatDoor
open Go.Sx
set_option linter.unusedSimpArgs false
set_option linter.unusedVariables false
set_option maxRecDepth 100000
set_option maxHeartbeats 40000000
theorem fs_nat8 (i:Nat) (h:i≤8):fs (((i:Nat):Int):Rat)≤130:=by
 have:∀i,i<9→fs (((i:Nat):Int):Rat)≤130:=by decide+kernel
 exact this i (by omega)
theorem set_sm {v:List Rat} {p B C:Nat} {x:Rat} (h:∀q,fs (v.getD q 0)≤B) (hB:B≤C) (hx:fs x≤C):∀q,fs ((v.set p x).getD q 0)≤C:=fun q=>by
 have h0:2≤fs x:=fs_two x
 by_cases e:q=p
 ·subst e
  by_cases hq:q<v.length
  ·rw[set_at hq];exact hx
  ·rw[List.getD_eq_getElem?_getD,List.getElem?_eq_none (by rw[List.length_set];omega)]
   have:fs (0:Rat)≤C:=by rw[fs_zero];omega
   exact this
 ·rw[set_off e];exact Nat.le_trans (h q) hB
theorem arith1 (G E:Nat) (h:E+130≤1000000000):2*G+130+(E+130)+2000000000≤2*(G+2000000000):=by omega
theorem m_PolyOK {n B C:Nat} {a m:List Rat} (h:Pen n B C a m) (hn4:n≤4) (h2:2≤C) (hs:B+(130+C)≤10000):
  CallOK Tryz.prog 15 [mA n n a,mA n n m] [] (.tup [fvec (polyF n a m),iv 0]) [] []:=by
 have k1:=m_CheckOK (h.ok h2 (by omega))
 have kF:∀t:Nat,t≤8→CallOK Tryz.prog 26 [iv (t:Nat)] [] (.frac (((t:Nat):Int):Rat)) [] []:=fun t ht=>c_fInt _ (by omega) (by omega)
 have lV:=valP_len n a m
 have gV:∀t,t<n+1→(valP n a m).getD t 0=det n (el (mk n n (begX n a m (((t:Nat):Int):Rat))) n):=fun t ht=>valP_get ht
 have sB:∀t:Nat,t≤8→Sm 10000 (mk n n (begX n a m (((t:Nat):Int):Rat))):=fun t ht=>Sm_mk fun i k hi hk=>by
  have h0:=fs_nat8 t ht
  have h1:=h.size h0 (Nat.le_refl _) i k hi hk
  have h3:=fs_sub (a.getD (i*n+k) 0) ((((t:Nat):Int):Rat)*m.getD (i*n+k) 0)
  have h4:=fs_mul (((t:Nat):Int):Rat) (m.getD (i*n+k) 0)
  show fs (a.getD (i*n+k) 0 - (((t:Nat):Int):Rat)*m.getD (i*n+k) 0)≤10000
  omega
 have oB:∀t:Nat,OKM n n (mk n n (begX n a m (((t:Nat):Int):Rat))):=fun t=>OKM_mk h.ka.r h.ka.c
 have kD:∀t:Nat,t<n+1→CallOK Tryz.prog 62 [mA n n (mk n n (begX n a m (((t:Nat):Int):Rat)))] [] (.tup [.frac ((valP n a m).getD t 0),iv 0]) [] []:=fun t ht=>by
  rw[gV t ht];exact e_DetW (oB t) (by omega) (sB t (by omega)) (by decide) (by decide)
 have sV:∀q,fs ((valP n a m).getD q 0)≤40960000:=fun q=>by
  by_cases hq:q<n+1
  ·rw[gV q hq];exact det_fs (oB q) (by omega) (sB q (by omega)) (by decide)
  ·rw[List.getD_eq_getElem?_getD,List.getElem?_eq_none (by omega)]
   have:fs (0:Rat)≤40960000:=by rw[fs_zero];decide
   exact this
 have ha:=h.ka
 have hm:=h.km
 have hz:=fun t ht=>h.size (T:=130) (fs_nat8 t ht) (Nat.le_refl _)
 obtain⟨R,hR⟩:∃R,polyF n a m=R:=⟨_,rfl⟩
 unfold polyF at hR
 rw[show polyF n a m=R from hR]
 clear gV sB oB
 generalize valP n a m=V at*
 obtain⟨N,hN⟩:∃N,nwO n n V=N:=⟨_,rfl⟩
 rw[hN]at hR
 have w1:=winc (i:=n) (by omega)
 refine callF (Z:=[2,3,100010]) tabOK mixedOK Tryz.func15 rfl (by kernel_rfl) (by first|rfl|(simp[keylessL,keyless,keylessL_map, *];done)) (by first|rfl|(simp[keylessL,keyless,keylessL_map, *];done)) (by kernel_rfl) rfl ?_
 intro w0 ρ0 hE
 conv=>whnf
 (repeat((first|refine step_w2 rfl rfl ?_|refine step_oA (by first|omega|decide|(simp only[tl0,dlen,List.length_replicate,List.length_set,List.length_map,List.length_zipWith,List.length_take,List.length_append,List.length_cons,List.length_nil];omega)) ?_|refine g_c (by assumption) ?_|rw[bne_self_eq_false]|refine g_o (op_loadA rfl (ev_ok rfl) (tgt rfl) rfl (Nat.succ_ne_zero _) rfl) ?_|refine g_o (op_fieldA rfl (ev_ok rfl) (tgt rfl) rfl rfl (Nat.succ_ne_zero _) rfl) ?_|rw[w1]|rw[Int.toNat_natCast]);conv=>whnf))
 refine SW_loopN hE (fun k=>k) [2,3,7,8,30,31] [28] (fun m' fr hp=>∃t:Nat,m'=n+1 - t∧t≤n+1∧fr=[(2,ptrA (mC n n a)),(3,ptrA (mC n n m)),(7,iv n),(8,.slc 28 5 0 (n+1)),(30,iv ((n+1:Nat))),(31,iv (t:Nat))]∧hp=[(28,fblk (V.take t++List.replicate (n+1 - t) 0))]) (n+1) ?_ ?_ ?_
 ·kernel_rfl
 ·exact⟨0,rfl,Nat.zero_le _,rfl,rfl⟩
 rintro m' _ _ ⟨t,rfl,ht,rfl,rfl⟩
 have hlen:=fill_len (d:=(0:Rat)) ht lV
 by_cases hlt:t<n+1
 ·have t1:=dlt hlt
  have t2:=winc (i:=t) (by omega)
  have kf:=kF t (by omega)
  have kd:=kD t hlt
  have hin:t<(V.take t++List.replicate (n+1 - t) 0).length:=by omega
  clear kD kF k1 hR hN sV
  by_cases hn0:n=0
  ·subst hn0
   have kb:=m_begin0 a m (((t:Nat):Int):Rat)
   have kM:=m_Make1 (r:=0) (c:=0) (by decide) (by decide) (begX 0 a m (((t:Nat):Int):Rat)) 61 (ptrP [sqA 0 []]) (fun i k hi hk=>absurd hi (Nat.not_lt_zero _))
   conv=>whnf
   (repeat((first|refine step_i (by kernel_rfl) ?_|refine g_c (by assumption) ?_|refine g_cn (by assumption) rfl ?_|refine tst_tt t1 ?_|refine g_o (op_loadA rfl (ev_ok rfl) (tgt rfl) rfl (Nat.succ_ne_zero _) rfl) ?_|rw[t1]|rw[Nat.zero_add]);conv=>whnf))
   refine SWx_freezeS0 10 (fun _ h=>h) rfl rfl (by decide) rfl ?_
   refine SWx_go hE ?_
   conv=>whnf
   (repeat((first|refine step_oL (by first|omega|decide|(simp only[tl0,dlen,List.length_replicate,List.length_set,List.length_map,List.length_zipWith,List.length_take,List.length_append,List.length_cons,List.length_nil];omega)) ?_|refine step_oA (by first|omega|decide|(simp only[tl0,dlen,List.length_replicate,List.length_set,List.length_map,List.length_zipWith,List.length_take,List.length_append,List.length_cons,List.length_nil];omega)) ?_|refine g_c (by assumption) ?_|refine g_o (op_makeFunc rfl rfl rfl) ?_|rw[t2]|rw[Int.toNat_natCast]|rw[Nat.zero_add]);conv=>whnf))
   exact⟨0+1 - (t+1),fun k=>k,[2,3,7,8,30,31],[28],by omega,by kernel_rfl,t+1,rfl,hlt,rfl,by rw[fblk,←fill_set (e:=0) hlt lV];rfl⟩
  ·obtain⟨r,hrn⟩:∃r,r=n:=⟨_,rfl⟩
   have kb:=m_begin (r:=r) a m (((t:Nat):Int):Rat) hrn (by omega) (by omega) ha hm (fun i q hi hq=>by have:=hz t (by omega) i q hi hq;omega)
   have kM:=m_Make1 ha.r ha.c (begX n a m (((t:Nat):Int):Rat)) 61 (ptrP [sqA n ((List.range r).map (rowsM n (begX n a m (((t:Nat):Int):Rat))))]) (fun i k hi hk=>by rw[hrn];exact m_Poly1 _ i k hi hk (by omega))
   generalize begX n a m (((t:Nat):Int):Rat)=X at*
   rcases(show r=1∨r=2∨r=3∨r=4 by omega)with e1|e1|e1|e1
   all_goals
    rw[e1]at kb kM
    conv=>whnf
    (repeat((first|refine step_i (by kernel_rfl) ?_|refine g_c (by assumption) ?_|refine tst_tt t1 ?_|refine g_o (op_loadA rfl (ev_ok rfl) (tgt rfl) rfl (Nat.succ_ne_zero _) rfl) ?_|refine⟨[],_,hpS _ n _,[],kb,nil_fk,new_hpSk (by decide),nil_upd, ?_⟩|rw[t1]|rw[Nat.zero_add]);conv=>whnf))
    refine SWx_freezeS (n:=n) (X:=X) 10 [2,3,7,8,9,30,31] [28] (fun _ h=>h) rfl rfl rfl rfl (by intro j hj;rcases(show j=0∨j=1∨j=2∨j=3 by omega)with e|e|e|e<;>first|omega|(subst e;rfl)) (by decide) (by decide) (by kernel_rfl) (by kernel_rfl) (by kernel_rfl) rfl (by decide) hE ?_
    refine SWx_go hE ?_
    conv=>whnf
    (repeat((first|refine step_oL (by first|omega|decide|(simp only[tl0,dlen,List.length_replicate,List.length_set,List.length_map,List.length_zipWith,List.length_take,List.length_append,List.length_cons,List.length_nil];omega)) ?_|refine step_oA (by first|omega|decide|(simp only[tl0,dlen,List.length_replicate,List.length_set,List.length_map,List.length_zipWith,List.length_take,List.length_append,List.length_cons,List.length_nil];omega)) ?_|refine g_c (by assumption) ?_|refine g_o (op_makeFunc rfl rfl rfl) ?_|rw[t2]|rw[Int.toNat_natCast]|rw[Nat.zero_add]);conv=>whnf))
    exact⟨n+1 - (t+1),fun k=>k,[2,3,7,8,30,31],[28],by omega,by kernel_rfl,t+1,rfl,hlt,rfl,by rw[fblk,←fill_set (e:=0) hlt lV];rfl⟩
 ·have t1:=dge hlt
  obtain rfl:t=n+1:=by omega
  rw[fill_all lV]
  clear kD hz ha hm h
  conv=>whnf
  (repeat(first|(refine tst_ff t1 ?_;conv=>whnf)|(rw[t1];conv=>whnf)))
  refine SW_loopN hE (fun k=>k) [7,8,13] [28] (fun m' fr hp=>∃(k E:Nat) (v:List Rat),m'=k∧k≤n∧v.length=n+1∧nwO n k v=N∧(∀q,fs (v.getD q 0)≤E)∧2^k*(E+130)≤1000000000∧
   fr=[(7,iv n),(8,.slc 28 5 0 (n+1)),(13,iv ((n+1 - k:Nat)))]∧hp=[(28,fblk v)]) n ?_ ?_ ?_
  ·kernel_rfl
  ·refine⟨n,40960000,V,rfl,Nat.le_refl _,lV,hN,sV, ?_,by rw[show n+1 - n=1 by omega];rfl,rfl⟩
   have h5:2^n≤2^4:=Nat.pow_le_pow_right (by decide) hn4
   exact Nat.le_trans (Nat.mul_le_mul_right _ h5) (by decide)
  clear sV lV hN
  rintro k _ _ ⟨_,E,v,rfl,hk,lv,hv,sv,hE2,rfl,rfl⟩
  by_cases hk0:k=0
  ·subst hk0
   have t2:decide (((n+1 - 0:Nat):Int)≤(n:Int))=false:=decide_eq_false (by omega)
   rw[nwO]at hv
   subst hv
   have hE3:E+130≤1000000000:=by omega
   clear hE2
   conv=>whnf
   (repeat((first|refine step_oA (by first|omega|decide|(simp only[tl0,dlen,List.length_replicate,List.length_set,List.length_map,List.length_zipWith,List.length_take,List.length_append,List.length_cons,List.length_nil];omega)) ?_|refine tst_ff t2 ?_|rw[t2]|rw[w1]|rw[Int.toNat_natCast]);conv=>whnf))
   refine SW_loopN hE (fun k=>k) [7,8,15,16] [28,87] (fun m' fr hp=>∃(k G:Nat) (w:List Rat),m'=k∧k≤n+1∧w.length=n+1∧hoO n v k w=R∧(∀q,fs (w.getD q 0)≤G)∧2^k*(G+2000000000)≤100000000000∧
    fr=[(7,iv n),(8,.slc 28 5 0 (n+1)),(15,.slc 87 5 0 (n+1)),(16,iv ((k:Int) - 1))]∧hp=[(28,fblk v),(87,fblk w)]) (n+1) ?_ ?_ ?_
   ·kernel_rfl
   ·refine⟨n+1,2,List.replicate (n+1) 0,rfl,Nat.le_refl _,by simp,hR,fun q=> ?_, ?_,by rw[show(((n+1:Nat):Int) - 1)=(n:Int) by omega];rfl,rfl⟩
    ·have:=sm_get (p:=q) (Sm_zero (n+1)) (Nat.le_refl _);exact this
    ·have h5:2^(n+1)≤2^5:=Nat.pow_le_pow_right (by decide) (by omega)
     exact Nat.le_trans (Nat.mul_le_mul_right _ h5) (by decide)
   clear hR
   rintro k _ _ ⟨_,G,w,rfl,hk,lw,hR,sw,hG,rfl,rfl⟩
   by_cases hk0:k=0
   ·subst hk0
    have t3:decide ((((0:Nat):Int) - 1)≥0)=false:=by decide
    rw[hoO]at hR
    subst hR
    conv=>whnf
    (repeat(first|(refine step_w2 rfl rfl ?_;conv=>whnf)))
    (first|exact Recast.refl _|exact Frz.recast (Recast.refl _) rfl|(refine Frz.one rfl rfl ?_;skip)|(refine Frz.tup ?_;(repeat(first|exact FrzC.keyless rfl|exact FrzL.nil|refine FrzL.cons ?_ ?_|(refine FrzC.fracs rfl ?_;(first|rfl|omega|(simp<;>fail)|(simp<;>omega)))))))
   ·obtain⟨j,rfl⟩:∃j,k=j+1:=⟨k - 1,by omega⟩
    rw[show(((j+1:Nat):Int) - 1)=(j:Int) by omega]
    rw[hoO]at hR
    have t3:decide ((j:Int)≥0)=true:=decide_eq_true (by omega)
    have hG2:2*(G+2000000000)≤100000000000:=by
     refine Nat.le_trans (Nat.mul_le_mul_right _ ?_) hG
     exact Nat.le_self_pow (by omega) 2
    obtain⟨W1,hW1⟩:∃W1,hoI j (n+1) w=W1:=⟨_,rfl⟩
    rw[hW1]at hR
    conv=>whnf
    (repeat(first|(refine step_w1 rfl rfl ?_;conv=>whnf)|(rw[t3];conv=>whnf)))
    refine SW_loopN hE (fun k=>k) [7,8,15,16,17] [28,87] (fun m' fr hp=>∃(i:Nat) (u:List Rat),m'=i∧i≤n+1∧u.length=n+1∧hoI j i u=W1∧(∀q,q<i→fs (u.getD q 0)≤G)∧(∀q,fs (u.getD q 0)≤2*G+130)∧
     fr=[(7,iv n),(8,.slc 28 5 0 (n+1)),(15,.slc 87 5 0 (n+1)),(16,iv (j:Nat)),(17,iv ((i:Int) - 1))]∧hp=[(28,fblk v),(87,fblk u)]) (n+1) ?_ ?_ ?_
    ·kernel_rfl
    ·exact⟨n+1,w,rfl,Nat.le_refl _,lw,hW1,fun q _=>sw q,fun q=>by have:=sw q;omega,by rw[show(((n+1:Nat):Int) - 1)=(n:Int) by omega];rfl,rfl⟩
    rintro i _ _ ⟨_,u,rfl,hi,lu,hu,su,su2,rfl,rfl⟩
    by_cases hi0:i=0
    ·subst hi0
     have t4:decide ((((0:Nat):Int) - 1)≥0)=false:=by decide
     have t5:IntKind.i64.wrap ((j:Int) - 1)=(j:Int) - 1:=wrap_i64 (by omega) (by omega)
     rw[hoI]at hu
     rw[←hu]at hR
     have g1:=su2 0
     have g2:=sv j
     have hj:j<v.length:=by omega
     have h0:0<u.length:=by omega
     have ka:=x_Add (u.getD 0 0) (v.getD j 0) (by omega)
     have g3:=fs_add (u.getD 0 0) (v.getD j 0)
     have hG3:2^j*(2*G+130+(E+130)+2000000000)≤100000000000:=by
      refine Nat.le_trans ?_ hG
      rw[Nat.pow_succ,Nat.mul_assoc]
      exact Nat.mul_le_mul_left (2^j) (arith1 G E hE3)
     have hss:=set_sm (p:=0) (x:=u.getD 0 0+v.getD j 0) su2 (show 2*G+130≤2*G+130+(E+130) by omega) (by omega)
     clear su su2 sv sw
     conv=>whnf
     (repeat((first|refine step_w2 rfl rfl ?_|refine step_i (by kernel_rfl) ?_|refine step_oL (by first|omega|decide|(simp only[tl0,dlen,List.length_replicate,List.length_set,List.length_map,List.length_zipWith,List.length_take,List.length_append,List.length_cons,List.length_nil];omega)) ?_|refine step_oA (by first|omega|decide|(simp only[tl0,dlen,List.length_replicate,List.length_set,List.length_map,List.length_zipWith,List.length_take,List.length_append,List.length_cons,List.length_nil];omega)) ?_|refine g_c (by assumption) ?_|rw[t4]|rw[t5]|rw[Int.toNat_natCast]|rw[Nat.zero_add]);conv=>whnf))
     exact⟨j,fun k=>k,[7,8,15,16],[28,87],by omega,by kernel_rfl,j,2*G+130+(E+130),u.set 0 (u.getD 0 0+v.getD j 0),rfl,by omega,by rw[List.length_set];exact lu,hR,hss,hG3,rfl,rfl⟩
    ·obtain⟨p,rfl⟩:∃p,i=p+1:=⟨i - 1,by omega⟩
     rw[show(((p+1:Nat):Int) - 1)=(p:Int) by omega]
     rw[hoI]at hu
     have t4:decide ((p:Int)≥0)=true:=decide_eq_true (by omega)
     have t5:IntKind.i64.wrap ((p:Int) - 1)=(p:Int) - 1:=wrap_i64 (by omega) (by omega)
     have t6:IntKind.i64.wrap (0 - (j:Int))= -(j:Int):=by rw[wrap_i64 (by omega) (by omega)];omega
     have hp:p<u.length:=by omega
     have kf:CallOK Tryz.prog 26 [iv (-(j:Int))] [] (.frac ((-(j:Int):Int):Rat)) [] []:=c_fInt _ (by omega) (by omega)
     have fj:fs ((-(j:Int):Int):Rat)≤130:=by rw[Rat.intCast_neg,fs_neg];exact fs_nat8 j (by omega)
     have g1:=su p (by omega)
     have g4:=fs_mul (u.getD p 0) ((-(j:Int):Int):Rat)
     generalize ((-(j:Int):Int):Rat)=c at*
     have km:=x_Mul (u.getD p 0) c (by omega)
     by_cases hp0:0<p
     ·rw[if_pos hp0]at hu
      have t7:decide ((p:Int)>0)=true:=decide_eq_true (by omega)
      have t8:IntKind.i64.wrap ((p:Int) - 1)=((p - 1:Nat):Int):=by rw[wrap_i64 (by omega) (by omega)];omega
      have hp1:p - 1<u.length:=by omega
      have g2:=su (p - 1) (by omega)
      have e1:(u.set p (u.getD p 0*c)).getD p 0=u.getD p 0*c:=set_at hp
      have e2:(u.set p (u.getD p 0*c)).getD (p - 1) 0=u.getD (p - 1) 0:=set_off (by omega)
      have hl2:(u.set p (u.getD p 0*c)).length=n+1:=by rw[List.length_set];exact lu
      have ka:=x_Add (u.getD p 0*c) (u.getD (p - 1) 0) (by omega)
      have g3:=fs_add (u.getD p 0*c) (u.getD (p - 1) 0)
      have hss:=set_sm (p:=p) (x:=u.getD p 0*c+u.getD (p - 1) 0) su2 (Nat.le_refl _) (by omega)
      have hso:∀q,q<p→fs ((u.set p (u.getD p 0*c+u.getD (p - 1) 0)).getD q 0)≤G:=fun q hq=>by rw[set_off (by omega)];exact su q (by omega)
      have t9:(((p - 1:Nat):Int))=(p:Int) - 1:=by omega
      have hset:(u.set p (u.getD p 0*c)).set p (u.getD p 0*c+u.getD (p - 1) 0)=u.set p (u.getD p 0*c+u.getD (p - 1) 0):=List.set_set ..
      clear su su2 sv sw
      conv=>whnf
      (repeat((first|refine step_w1 rfl rfl ?_|refine step_i (by kernel_rfl) ?_|refine step_oL (by first|omega|decide|(simp only[tl0,dlen,List.length_replicate,List.length_set,List.length_map,List.length_zipWith,List.length_take,List.length_append,List.length_cons,List.length_nil];omega)) ?_|refine step_oA (by first|omega|decide|(simp only[tl0,dlen,List.length_replicate,List.length_set,List.length_map,List.length_zipWith,List.length_take,List.length_append,List.length_cons,List.length_nil];omega)) ?_|refine g_c (by assumption) ?_|refine tst_tt t7 ?_|rw[t4]|rw[t6]|rw[t7]|rw[t8]|rw[e1]|rw[e2]|rw[Int.toNat_natCast]|rw[Nat.zero_add]);conv=>whnf))
      refine⟨p,fun k=>k,[7,8,15,16,17],[28,87],by omega,by kernel_rfl,p,u.set p (u.getD p 0*c+u.getD (p - 1) 0),rfl,by omega,by rw[List.length_set];exact lu,hu,hso,hss,by rw[←t9];rfl,by rw[←hset];rfl⟩
     ·rw[if_neg hp0]at hu
      have t7:decide ((p:Int)>0)=false:=decide_eq_false (by omega)
      have hss:=set_sm (p:=p) (x:=u.getD p 0*c) su2 (Nat.le_refl _) (by omega)
      have hso:∀q,q<p→fs ((u.set p (u.getD p 0*c)).getD q 0)≤G:=fun q hq=>by rw[set_off (by omega)];exact su q (by omega)
      clear su su2 sv sw
      conv=>whnf
      (repeat((first|refine step_w1 rfl rfl ?_|refine step_i (by kernel_rfl) ?_|refine step_oL (by first|omega|decide|(simp only[tl0,dlen,List.length_replicate,List.length_set,List.length_map,List.length_zipWith,List.length_take,List.length_append,List.length_cons,List.length_nil];omega)) ?_|refine step_oA (by first|omega|decide|(simp only[tl0,dlen,List.length_replicate,List.length_set,List.length_map,List.length_zipWith,List.length_take,List.length_append,List.length_cons,List.length_nil];omega)) ?_|refine g_c (by assumption) ?_|refine tst_ff t7 ?_|rw[t4]|rw[t6]|rw[t7]|rw[t5]|rw[Int.toNat_natCast]|rw[Nat.zero_add]);conv=>whnf))
      exact⟨p,fun k=>k,[7,8,15,16,17],[28,87],by omega,by kernel_rfl,p,u.set p (u.getD p 0*c),rfl,by omega,by rw[List.length_set];exact lu,hu,hso,hss,rfl,rfl⟩
  ·obtain⟨q,rfl⟩:∃q,k=q+1:=⟨k - 1,by omega⟩
   rw[nwO]at hv
   obtain⟨o,ho⟩:∃o,o=n - q:=⟨_,rfl⟩
   rw[show n+1 - (q+1)=o by omega]
   rw[←ho]at hv
   have t2:decide ((o:Int)≤(n:Int))=true:=decide_eq_true (by omega)
   have t3:=winc (i:=o) (by omega)
   have kf:=kF o (by omega)
   have fo:=fs_nat8 o (by omega)
   have ho0:((o:Int):Rat)≠0:=fun e=>by
    have:(o:Int)=0:=Rat.intCast_inj.1 e
    omega
   have hE2':2^q*(2*E+130+130)≤1000000000:=by
    refine Nat.le_trans ?_ hE2
    rw[Nat.pow_succ,Nat.mul_assoc]
    exact Nat.mul_le_mul_left _ (by omega)
   have hE3:2*(E+130)≤1000000000:=Nat.le_trans (Nat.mul_le_mul_right _ (Nat.le_self_pow (by omega) 2)) hE2
   clear hE2 hR kF
   obtain⟨N1,hN1⟩:∃N1,nwI o (q+1) v=N1:=⟨_,rfl⟩
   rw[hN1]at hv
   conv=>whnf
   (repeat(first|(refine tst_tt t2 ?_;conv=>whnf)|(rw[t2];conv=>whnf)))
   refine SW_loopN hE (fun k=>k) [7,8,13,14] [28] (fun m' fr hp=>∃(t:Nat) (u:List Rat),m'=t+1 - o∧o≤t+1∧t≤n∧u.length=n+1∧nwI o (t+1 - o) u=N1∧(∀q,q≤t→fs (u.getD q 0)≤E)∧(∀q,fs (u.getD q 0)≤2*E+130)∧
    fr=[(7,iv n),(8,.slc 28 5 0 (n+1)),(13,iv (o:Nat)),(14,iv (t:Nat))]∧hp=[(28,fblk u)]) (q+1) ?_ ?_ ?_
   ·kernel_rfl
   ·exact⟨n,v,by omega,by omega,Nat.le_refl _,lv,by rw[show n+1 - o=q+1 by omega];exact hN1,fun q _=>sv q,fun q=>by have:=sv q;omega,rfl,rfl⟩
   rintro m' _ _ ⟨t,u,rfl,ht,htn,lu,hu,su,su2,rfl,rfl⟩
   by_cases hot:o≤t
   ·have t4:decide ((t:Int)≥(o:Int))=true:=decide_eq_true (by omega)
    have t5:IntKind.i64.wrap ((t:Int) - 1)=((t - 1:Nat):Int):=by rw[wrap_i64 (by omega) (by omega)];omega
    rw[nwI_step (by omega) hot]at hu
    have b1:t<u.length:=by omega
    have b2:t - 1<u.length:=by omega
    have g1:=su t (Nat.le_refl _)
    have g2:=su (t - 1) (by omega)
    have g3:=fs_sub (u.getD t 0) (u.getD (t - 1) 0)
    have g4:=fs_div (u.getD t 0 - u.getD (t - 1) 0) ((o:Int):Rat)
    have k2:=x_Sub (u.getD t 0) (u.getD (t - 1) 0) (by omega)
    have k3:=x_Div (u.getD t 0 - u.getD (t - 1) 0) ((o:Int):Rat) ho0 (by omega)
    have hss:=set_sm (p:=t) (x:=(u.getD t 0 - u.getD (t - 1) 0)/((o:Int):Rat)) su2 (Nat.le_refl _) (by omega)
    have hso:∀q,q≤t - 1→fs ((u.set t ((u.getD t 0 - u.getD (t - 1) 0)/((o:Int):Rat))).getD q 0)≤E:=fun q hq=>by rw[set_off (by omega)];exact su q (by omega)
    clear su su2 sv
    conv=>whnf
    (repeat((first|refine step_i (by kernel_rfl) ?_|refine step_oL (by first|omega|decide|(simp only[tl0,dlen,List.length_replicate,List.length_set,List.length_map,List.length_zipWith,List.length_take,List.length_append,List.length_cons,List.length_nil];omega)) ?_|refine step_oA (by first|omega|decide|(simp only[tl0,dlen,List.length_replicate,List.length_set,List.length_map,List.length_zipWith,List.length_take,List.length_append,List.length_cons,List.length_nil];omega)) ?_|refine g_c (by assumption) ?_|refine tst_tt t4 ?_|rw[t4]|rw[t5]|rw[Int.toNat_natCast]|rw[Nat.zero_add]);conv=>whnf))
    exact⟨t - 1+1 - o,fun k=>k,[7,8,13,14],[28],by omega,by kernel_rfl,t - 1,u.set t ((u.getD t 0 - u.getD (t - 1) 0)/((o:Int):Rat)),rfl,by omega,by omega,by rw[List.length_set];exact lu,hu,hso,hss,rfl,rfl⟩
   ·have t4:decide ((t:Int)≥(o:Int))=false:=decide_eq_false (by omega)
    rw[show t+1 - o=0 by omega,nwI]at hu
    subst hu
    conv=>whnf
    (repeat(first|(refine tst_ff t4 ?_;conv=>whnf)|(rw[t4];conv=>whnf)|(rw[t3];conv=>whnf)))
    exact⟨q,fun k=>k,[7,8,13],[28],by omega,by kernel_rfl,q,2*E+130,u,rfl,by omega,lu,hv,su2,hE2',by rw[show n+1 - q=o+1 by omega];rfl,rfl⟩
end Go.Proofs.YtfjhnollamkdcaaGreatDoor
