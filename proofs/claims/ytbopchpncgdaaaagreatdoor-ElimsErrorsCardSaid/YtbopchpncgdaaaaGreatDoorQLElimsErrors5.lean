/- The texts Bn. -/
import Derived.Test.YtbopchpncgdaaaaGreatDoorQLElimsErrors4
namespace Go.Proofs.YtbopchpncgdaaaaGreatDoor
open Go.Sx
set_option linter.unusedSimpArgs false
set_option linter.unusedVariables false
set_option maxRecDepth 100000
set_option maxHeartbeats 40000000
theorem e_big {n9:Nat} (hn:n9=2049):CallOK Tryz.prog 18 [.agg [iv 0,iv 0,.val (.slice none 0 0)],fvec (List.replicate n9 0)] [] (.tup [.agg [fvec [],mvec 1 fvec []],iv 3]) [] []∧
  CallOK Tryz.prog 19 [.agg [iv (-1),iv 0,.val (.slice none 0 0)],fvec (List.replicate n9 0)] [] (.tup [fvec [],iv 1]) [] []:=by
 constructor
 ·exact(e_SolveE (r:=0) (c:=0) (a:=[]) (b:=List.replicate n9 0) (e_mayM (by decide) (by decide) (by simp;omega)) (by decide)).wk (args:=[.agg [iv 0,iv 0,.val (.slice none 0 0)],fvec (List.replicate n9 0)]) (by repeat(first|exact WkL.nil|refine WkL.cons ?_ ?_|exact Wk.nil|exact Wk.refl|refine Wk.agg ?_))
 ·have k:=e_mayE (r:= -1) (c:=0) (a:=[]) (b:=List.replicate n9 0) (by decide) (by decide)
  rw[show checkF (-1) 0 ([]:List Rat).length=1 from by decide]at k
  exact(e_AgainstE k (by decide)).wk (args:=[.agg [iv (-1),iv 0,.val (.slice none 0 0)],fvec (List.replicate n9 0)]) (by repeat(first|exact WkL.nil|refine WkL.cons ?_ ?_|exact Wk.nil|exact Wk.refl|refine Wk.agg ?_))
theorem side_z {R C M:Nat} (hR:R≤40) (hC:C≤40) (hM:M≤49) (hN:R*C≤39):∃(f:Bool) (X:List Rat) (L:List (List Rat)) (h:Int) (Y:List Rat) (i:Int),(((zL M).length:Int) != (R:Int))=f∧
  CallOK Tryz.prog 18 [mA R C (zL (R*C)),fvec (zL M)] [] (.tup [.agg [fvec X,mvec 1 fvec L],iv h]) [] []∧CallOK Tryz.prog 19 [mA R C (zL (R*C)),fvec (zL M)] [] (.tup [fvec Y,iv i]) [] []∧
  ((f=true∧h=1∧i=1∧X=[]∧L=[]∧Y=[])∨f=false):=by
 have hck:checkF R C (zL (R*C)).length=0:=by rw[zL_len];exact check_ok (by omega) (by omega) rfl
 by_cases h:M=R
 ·subst h
  obtain⟨X,L,k1⟩:=e_SolveZ hR hC
  exact⟨false,X,L,0,[],6,by rw[zL_len];exact bne_self_eq_false _,k1,e_AgainstZ hR hC,.inr rfl⟩
 ·have k:=e_mayL (b:=zL M) (by rw[zL_len];omega) hck (by rw[zL_len];omega) (by rw[zL_len];omega)
  exact⟨true,[],[],1,[],1,by rw[zL_len];exact bne_iff_ne.2 (by omega),e_SolveE k (by decide),e_AgainstE k (by decide),.inl ⟨rfl,rfl,rfl,rfl,rfl,rfl⟩⟩
theorem square_z14 {R C:Nat} (hR:R≤40) (hC:C≤40) (hN:R*C≤39):∃(g:Bool) (a b:Int) (l:List Rat) (j:Int) (D:Rat) (q:Int),((R:Int) != (C:Int))=g∧
  CallOK Tryz.prog 20 [mA R C (zL (R*C))] [] (.tup [mA a b l,iv j]) [] []∧CallOK Tryz.prog 21 [mA R C (zL (R*C))] [] (.tup [.frac D,iv q]) [] []∧((g=true∧j=1∧q=1∧l=[])∨g=false):=by
 have hck:checkF R C (zL (R*C)).length=0:=by rw[zL_len];exact check_ok (by omega) (by omega) rfl
 by_cases h:R=C
 ·subst h
  have h6:R≤6:=small_side (N:=R) hN (Nat.le_refl _) (Nat.le_refl _)
  have hok:OKM R R (zL (R*R)):=⟨by omega,by omega,zL_len _⟩
  have kd:=e_DetW hok h6 (Sm_zero _) (by decide) (by decide)
  have f:((R:Int) != (R:Int))=false:=bne_self_eq_false _
  by_cases hd:det R (el (zL (R*R)) R)=0
  ·exact⟨_,_,_,_,_,_,_,f,e_InverseN hok h6 (Sm_zero _) (by decide) (by decide) hd,kd,.inr rfl⟩
  ·obtain⟨B,_,_,_,k⟩:=e_InverseS hok h6 (Sm_zero _) (by decide) (by decide) hd
   exact⟨_,_,_,_,_,_,_,f,k,kd,.inr rfl⟩
 ·have k:=e_squareN (by rw[zL_len];omega) hck (show(R:Int)≠(C:Int) by omega)
  exact⟨_,_,_,_,_,_,_,bne_iff_ne.2 (show(R:Int)≠(C:Int) by omega),e_InverseE k (by decide),e_DetE k (by decide),.inl ⟨rfl,rfl,rfl,rfl⟩⟩
theorem c_EErrBad (r c n many:Int) (hn:0≤n∧n<256) (hm:0≤many∧many<256) (h:checkF r c (n % 40).toNat≠0):
  CallOK Tryz.prog 3 [iv r,iv c,iel .u8 n,iel .u8 many] [] (.val (.bool true)) [] []:=by
 have kw:=l_works14
 obtain⟨e1,e2⟩:=u8_mod n hn 40 (by decide)
 obtain⟨e3,e4⟩:=u8_mod many hm 50 (by decide)
 have hN:(n % 40).toNat≤39:=by omega
 have hM:(many % 50).toNat≤49:=by omega
 generalize (n % 40).toNat=N at*
 generalize (many % 50).toNat=M at*
 have hl:=zL_len N
 rw[←hl]at h
 have hs:(zL N).length<1099511627776:=by omega
 have a1:=m_Check r c (zL N) hs
 have a2:=e_ReduceE hs h
 have a3:=e_RankE hs h
 have a4:=e_KernelE hs h
 have km:=e_mayE (b:=zL M) hs h
 have a5:=e_SolveE km h
 have a6:=e_AgainstE km h
 have kq:=e_squareE hs h
 have a7:=e_InverseE kq h
 have a8:=e_DetE kq h
 have a9:=e_MinorC (n:=0) hs h
 clear km kq
 obtain⟨n9,hn9⟩:∃n:Nat,n=2049:=⟨_,rfl⟩
 have h9:(2049:Int)=(n9:Int):=by omega
 obtain⟨b1,b2⟩:=e_big hn9
 generalize checkF r c (zL N).length=E at*
 have t1:(E==0)=false:=beq_eq_false_iff_ne.2 h
 have t2:(E != E)=false:=bne_self_eq_false _
 have t3:(E != 0)=true:=bne_iff_ne.2 h
 have t4:(E==E)=true:=beq_self_eq_true _
 refine callV (Z:=[100000,100022,100023]) tabOK mixedOK Tryz.func3 rfl (by kernel_rfl) rfl rfl (by kernel_rfl) rfl ?_
 intro W0 w0 ρ0 hE
 conv=>whnf
 refine SWx_addKey 40 (blk:=fblk []) rfl rfl ?_
 refine SWx_addKey 45 (blk:=fblk []) rfl rfl ?_
 refine SWx_addKey 195 (blk:=fblk []) rfl rfl ?_
 refine SWx_addKey 201 (blk:=fblk []) rfl rfl ?_
 refine SWx_go hE ?_
 conv=>whnf
 (repeat((first|refine step_w1 rfl rfl ?_|refine step_w2 rfl rfl ?_|refine step_oN (by first|omega|decide|(simp only[tl0,dlen,List.length_replicate,List.length_set,List.length_map,List.length_zipWith,List.length_take,List.length_append,List.length_cons,List.length_nil];omega)) ?_|refine g_c (by assumption) ?_|refine g_o (op_pickT rfl (ev_ok rfl) (ev_ok rfl)) ?_|refine g_o (op_pickF rfl (ev_ok rfl) (ev_ok rfl)) ?_|rw[bne_self_eq_false]|refine tst_ff t1 ?_|refine tst_tt t3 ?_|refine g_o (op_lenM rfl rfl rfl (ev_ok rfl) (tgt rfl) rfl) ?_|refine g_o (op_makeF rfl (ev_ok rfl) (ev_ok rfl) (tgt rfl) rfl (tgt rfl) rfl rfl (by simp only[tiB53];omega)) ?_|rw[e2]|rw[e4]|rw[t1]|rw[t3]|rw[Nat.zero_add]);conv=>whnf))
 refine SWx_go hE ?_
 conv=>whnf
 refine g_o (op_make2049 h9 rfl) ?_
 conv=>whnf
 (repeat(first|(refine g_c (by assumption) ?_;conv=>whnf)))
 refine SWx_go hE ?_
 conv=>whnf
 refine g_o (op_make2049 h9 rfl) ?_
 conv=>whnf
 (repeat((first|refine step_w1 rfl rfl ?_|refine g_c (by assumption) ?_|refine g_o (op_pickT rfl (ev_ok rfl) (ev_ok rfl)) ?_|rw[beq_self_eq_true]);conv=>whnf));(first|exact Recast.refl _|exact Frz.recast (Recast.refl _) rfl|(refine Frz.one rfl rfl ?_;skip)|(refine Frz.tup ?_;skip))
theorem c_EErrOk (R C:Nat) (n many:Int) (hn:0≤n∧n<256) (hm:0≤many∧many<256) (hR:R≤2048) (hC:C≤2048) (hN:R*C=(n % 40).toNat):
  CallOK Tryz.prog 3 [iv R,iv C,iel .u8 n,iel .u8 many] [] (.val (.bool true)) [] []:=by
 have kw:=l_works14
 obtain⟨e1,e2⟩:=u8_mod n hn 40 (by decide)
 obtain⟨e3,e4⟩:=u8_mod many hm 50 (by decide)
 have hN2:R*C≤39:=by omega
 have hM:(many % 50).toNat≤49:=by omega
 rw[←hN]at e2
 clear hN
 generalize (many % 50).toNat=M at*
 have hok:OKM R C (zL (R*C)):=⟨hR,hC,zL_len _⟩
 have a1:=m_Check0 hok
 by_cases h40:R≤40∧C≤40
 ·obtain⟨hR,hC⟩:=h40
  have u1:decide ((R:Int)>40)=false:=decide_eq_false (by omega)
  have u2:decide ((C:Int)>40)=false:=decide_eq_false (by omega)
  obtain⟨red,a2⟩:=e_ReduceZ hR hC
  have a3:=e_RankZ hR hC
  obtain⟨ker,a4⟩:=e_KernelZ hR hC
  obtain⟨f,X,L,h,Y,i,f1,a5,a6,hS⟩:=side_z (M:=M) hR hC hM hN2
  obtain⟨g,ia,ib,il,j,D,q,g1,a7,a8,hQ⟩:=square_z14 hR hC hN2
  have a9:=e_Minor (n:=0) hok (by decide) (Nat.zero_le _) (Nat.zero_le _) (Sm_zero _) (by decide) (by decide)
  replace a9:CallOK Tryz.prog 22 [mA R C (zL (R*C)),iv 0] [] (.tup [.frac 1,iv 0]) [] []:=a9
  obtain⟨n9,hn9⟩:∃n:Nat,n=2049:=⟨_,rfl⟩
  have h9:(2049:Int)=(n9:Int):=by omega
  obtain⟨b1,b2⟩:=e_big hn9
  rcases hS with⟨rfl,rfl,rfl,rfl,rfl,rfl⟩|rfl
  all_goals rcases hQ with⟨rfl,rfl,rfl,rfl⟩|rfl
  all_goals
   refine callV (Z:=[100000,100022,100023]) tabOK mixedOK Tryz.func3 rfl (by kernel_rfl) rfl rfl (by kernel_rfl) rfl ?_
   intro W0 w0 ρ0 hE
   conv=>whnf
   refine SWx_addKey 40 (blk:=fblk []) rfl rfl ?_
   refine SWx_addKey 45 (blk:=fblk []) rfl rfl ?_
   refine SWx_addKey 195 (blk:=fblk []) rfl rfl ?_
   refine SWx_addKey 201 (blk:=fblk []) rfl rfl ?_
   refine SWx_go hE ?_
   conv=>whnf
   (repeat((first|refine step_w1 rfl rfl ?_|refine step_w2 rfl rfl ?_|refine step_oN (by first|omega|decide|(simp only[tl0,dlen,List.length_replicate,List.length_set,List.length_map,List.length_zipWith,List.length_take,List.length_append,List.length_cons,List.length_nil];omega)) ?_|refine g_c (by assumption) ?_|refine g_o (op_pickT rfl (ev_ok rfl) (ev_ok rfl)) ?_|refine g_o (op_pickF rfl (ev_ok rfl) (ev_ok rfl)) ?_|rw[beq_self_eq_true]|rw[bne_self_eq_false]|refine tst_ff u2 ?_|refine tst_tt f1 ?_|refine tst_ff f1 ?_|refine tst_tt g1 ?_|refine tst_ff g1 ?_|refine g_o (op_lenM rfl rfl rfl (ev_ok rfl) (tgt rfl) rfl) ?_|refine g_o (op_makeF rfl (ev_ok rfl) (ev_ok rfl) (tgt rfl) rfl (tgt rfl) rfl rfl (by simp only[tiB53];omega)) ?_|rw[e2]|rw[e4]|rw[u1]|rw[u2]|rw[f1]|rw[g1]|rw[Nat.zero_add]);conv=>whnf))
   refine SWx_go hE ?_
   conv=>whnf
   refine g_o (op_make2049 h9 rfl) ?_
   conv=>whnf
   (repeat(first|(refine g_c (by assumption) ?_;conv=>whnf)))
   refine SWx_go hE ?_
   conv=>whnf
   refine g_o (op_make2049 h9 rfl) ?_
   conv=>whnf
   (repeat(first|(refine step_w1 rfl rfl ?_;conv=>whnf)|(refine g_c (by assumption) ?_;conv=>whnf)|(refine g_o (op_pickT rfl (ev_ok rfl) (ev_ok rfl)) ?_;conv=>whnf)));(first|exact Recast.refl _|exact Frz.recast (Recast.refl _) rfl|(refine Frz.one rfl rfl ?_;skip)|(refine Frz.tup ?_;skip))
 ·have u3:(decide ((R:Int)>40)=true)∨(decide ((R:Int)>40)=false∧decide ((C:Int)>40)=true):=by
   by_cases h:R≤40
   ·exact .inr ⟨decide_eq_false (by omega),decide_eq_true (by omega)⟩
   ·exact .inl (decide_eq_true (by omega))
  rcases u3 with u1|⟨u1,u2⟩
  ·skip
   refine callV (Z:=[100000,100022,100023]) tabOK mixedOK Tryz.func3 rfl (by kernel_rfl) rfl rfl (by kernel_rfl) rfl ?_
   intro W0 w0 ρ0 hE
   conv=>whnf
   refine SWx_addKey 40 (blk:=fblk []) rfl rfl ?_
   refine SWx_addKey 45 (blk:=fblk []) rfl rfl ?_
   refine SWx_addKey 195 (blk:=fblk []) rfl rfl ?_
   refine SWx_addKey 201 (blk:=fblk []) rfl rfl ?_
   refine SWx_go hE ?_
   conv=>whnf
   (repeat((first|refine step_w1 rfl rfl ?_|refine step_w2 rfl rfl ?_|refine step_oN (by first|omega|decide|(simp only[tl0,dlen,List.length_replicate,List.length_set,List.length_map,List.length_zipWith,List.length_take,List.length_append,List.length_cons,List.length_nil];omega)) ?_|refine g_c (by assumption) ?_|refine g_o (op_pickT rfl (ev_ok rfl) (ev_ok rfl)) ?_|rw[beq_self_eq_true]|refine g_o (op_makeF rfl (ev_ok rfl) (ev_ok rfl) (tgt rfl) rfl (tgt rfl) rfl rfl (by simp only[tiB53];omega)) ?_|rw[e2]|rw[e4]|rw[u1]);conv=>whnf));(first|exact Recast.refl _|exact Frz.recast (Recast.refl _) rfl|(refine Frz.one rfl rfl ?_;skip)|(refine Frz.tup ?_;skip))
  ·skip
   refine callV (Z:=[100000,100022,100023]) tabOK mixedOK Tryz.func3 rfl (by kernel_rfl) rfl rfl (by kernel_rfl) rfl ?_
   intro W0 w0 ρ0 hE
   conv=>whnf
   refine SWx_addKey 40 (blk:=fblk []) rfl rfl ?_
   refine SWx_addKey 45 (blk:=fblk []) rfl rfl ?_
   refine SWx_addKey 195 (blk:=fblk []) rfl rfl ?_
   refine SWx_addKey 201 (blk:=fblk []) rfl rfl ?_
   refine SWx_go hE ?_
   conv=>whnf
   (repeat((first|refine step_w1 rfl rfl ?_|refine step_oN (by first|omega|decide|(simp only[tl0,dlen,List.length_replicate,List.length_set,List.length_map,List.length_zipWith,List.length_take,List.length_append,List.length_cons,List.length_nil];omega)) ?_|refine g_c (by assumption) ?_|refine g_o (op_pickT rfl (ev_ok rfl) (ev_ok rfl)) ?_|refine g_o (op_pickF rfl (ev_ok rfl) (ev_ok rfl)) ?_|rw[beq_self_eq_true]|refine tst_tt u2 ?_|refine g_o (op_makeF rfl (ev_ok rfl) (ev_ok rfl) (tgt rfl) rfl (tgt rfl) rfl rfl (by simp only[tiB53];omega)) ?_|rw[e2]|rw[e4]|rw[u1]);conv=>whnf));(first|exact Recast.refl _|exact Frz.recast (Recast.refl _) rfl|(refine Frz.one rfl rfl ?_;skip)|(refine Frz.tup ?_;skip))
theorem law_ElimsErrors (a0 a1 a2 a3:Int) (_w0:(Lit.int .i64 a0).wf=true) (_w1:(Lit.int .i64 a1).wf=true) (w2:(Lit.int .u8 a2).wf=true) (w3:(Lit.int .u8 a3).wf=true):
  CallOK Tryz.prog 3 [iv a0,iv a1,iel .u8 a2,iel .u8 a3] [] (.val (.bool true)) [] []:=by
 by_cases h:checkF a0 a1 (a2 % 40).toNat=0
 ·have hs:sidesF a0 a1=0:=by
   refine Classical.byContradiction fun g=> ?_
   rw[checkF,if_pos g]at h;exact g h
  rw[checkF,if_neg (by omega)]at h
  obtain⟨⟨r0,r1⟩,c0,c1⟩:=sides_ok hs
  have hn:((a2 % 40).toNat:Int)=a0*a1:=by
   refine Classical.byContradiction fun g=> ?_
   rw[if_pos g]at h;cases h
  obtain⟨R,rfl⟩:∃R:Nat,a0=R:=⟨a0.toNat,by omega⟩
  obtain⟨C,rfl⟩:∃C:Nat,a1=C:=⟨a1.toNat,by omega⟩
  exact c_EErrOk R C a2 a3 (wf_u8 w2) (wf_u8 w3) (by omega) (by omega) (by rw[←Int.natCast_mul]at hn;omega)
 ·exact c_EErrBad a0 a1 a2 a3 (wf_u8 w2) (wf_u8 w3) h
end Go.Proofs.YtbopchpncgdaaaaGreatDoor
