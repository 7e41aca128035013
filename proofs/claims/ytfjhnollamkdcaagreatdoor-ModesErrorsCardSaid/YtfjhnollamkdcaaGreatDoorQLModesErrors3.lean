/- The texts Av. -/
import Derived.Test.YtfjhnollamkdcaaGreatDoorQLModesErrors2
namespace Go.Proofs.YtfjhnollamkdcaaGreatDoor
open Go.Sx
set_option linter.unusedSimpArgs false
set_option linter.unusedVariables false
set_option maxRecDepth 100000
set_option maxHeartbeats 40000000
theorem zeros_get (n i:Nat):(List.replicate n (0:Rat)).getD i 0=0:=by
 by_cases h:i<n
 ·exact get_zero h
 ·rw[List.getD_eq_getElem?_getD,List.getElem?_eq_none (by simp;omega)];rfl
theorem someL_bd {l:List (Int×Int)} (hl:∀q∈l,qOK q) (n p:Nat): -(9223372036854775808:Rat)≤(someL l n).getD p 0∧(someL l n).getD p 0≤9223372036854775808:=by
 by_cases h:p<n
 ·rw[someL_get h];exact qV_bd (qOK_at hl p)
 ·rw[List.getD_eq_getElem?_getD,List.getElem?_eq_none (by rw[someL_len];omega)];decide
theorem turn_sym {n:Nat} {a:List Rat} (h:mturn n n a=a):SymM n a:=fun i k hi hk=>by
 conv=>lhs;rw[←h]
 exact turn_el hi hk
theorem one_mem {l:List (Int×Int)} (hl:l.length≤maxLen):∀x∈[l],x.length≤maxLen:=fun x hx=>by
 simp only[List.mem_cons,List.not_mem_nil,or_false]at hx
 obtain rfl:=hx;exact hl
theorem c_MErr (l:List (Int×Int)) (r c n many k places:Int) (hl:lOK l) (hr:0≤r∧r<256) (hc:0≤c∧c<256) (hn:0≤n∧n<256) (hm:0≤many∧many<256):
  CallOK Tryz.prog 4 [lQ l,iel .u8 r,iel .u8 c,iel .u8 n,iel .u8 many,iv k,iv places] [] (.val (.bool true)) [] []:=by
 have kw:=l_works22
 have kf:=c_few22 [l] (by simp) (one_mem hl.1)
 cases hF:[l].all fun l=>decide (l.length≤40)
 ·rw[hF]at kf
  refine callV (Z:=[35]) tabOK mixedOK Tryz.func4 rfl (by kernel_rfl) rfl rfl (by kernel_rfl) rfl ?_
  intro W0 w0 ρ0 hE
  conv=>whnf
  (repeat(first|(refine step_w1 rfl rfl ?_;conv=>whnf)|(refine g_c (by assumption) ?_;conv=>whnf)));(first|exact Recast.refl _|exact Frz.recast (Recast.refl _) rfl|(refine Frz.one rfl rfl ?_;skip)|(refine Frz.tup ?_;skip))
 rw[hF]at kf
 obtain⟨e1,e2⟩:=u8_mod r hr 5 (by decide)
 obtain⟨e3,e4⟩:=u8_mod c hc 5 (by decide)
 obtain⟨e5,e6⟩:=u8_mod n hn 5 (by decide)
 obtain⟨e7,e8⟩:=u8_mod many hm 7 (by decide)
 have r4:(r % 5).toNat≤4:=by omega
 have c4:(c % 5).toNat≤4:=by omega
 have n4:(n % 5).toNat≤4:=by omega
 have m6:(many % 7).toNat≤6:=by omega
 generalize (r % 5).toNat=R at*
 generalize (c % 5).toNat=C at*
 generalize (n % 5).toNat=N at*
 generalize (many % 7).toNat=M at*
 have h00:(0:Int)≤0∧(0:Int)<256:=by decide
 have ks:=c_Some (0,0,l) ⟨h00,h00,hl.1,hl.2⟩ (r:=R) (c:=C) (by omega) (by omega)
 replace ks:CallOK Tryz.prog 22 [mQ (0,0,l),iv R,iv C] [] (mA R C (someL l (R*C))) [] []:=ks
 have kp:=c_Plus l hl.1 hl.2 (n:=N) (by omega)
 have hX:=OKM_some l (r:=R) (c:=C) (by omega) (by omega)
 have sX:=Sm_some hl.2 (R*C)
 have bX:=someL_bd hl.2 (R*C)
 have oP:=plus_one l N
 have hP:OKM N N (plusL l N):=⟨by omega,by omega,mk_len ..⟩
 have hPen:∀(a:List Rat),a.length=N*N→SymM N a→Sm 130 a→Pen N 130 1304 a (plusL l N):=fun a h1 h2 h3=>⟨by omega,h1,mk_len ..,h2,plus_sym l N,plus_pos l N,h3,plus_sm hl.2 (by omega)⟩
 generalize someL l (R*C)=X at*
 generalize plusL l N=P at*
 have c1:CallOK Tryz.prog 26 [iv 1] [] (.frac 1) [] []:=c_fInt 1 (by decide) (by decide)
 have q0:decide ((0:Rat)=0)=true:=decide_eq_true rfl
 have hM:(List.replicate M (0:Rat)).length=M:=by simp
 have refuse:∀kk:CallOK Tryz.prog 25 [mA R C X,mA N N P] [] (iv 1) [] [],True:=fun _=>trivial
 clear refuse
 have w0':IntKind.i64.wrap ((0:Int)+0)=0:=by decide
 by_cases hS:R=C∧R=N
 ·obtain⟨rfl,rfl⟩:=hS
  have t1:((R:Int) != (R:Int))=false:=bne_self_eq_false _
  have kS:=m_Symmetric hX
  by_cases hsy:mturn R R X=X
  ·rw[show sameF R R R R X (mturn R R X)=true from same_sym hsy]at kS
   have PN:=hPen X hX.n (turn_sym hsy) sX
   obtain⟨e,he,h1,h0⟩:=reach_gen PN bX oP
   have ok:=PN.ok (by decide) (by decide)
   have k1:=m_CheckOK ok
   have k2:=PN.count (T:=2) 1 (Nat.le_of_eq fs_one) (by decide) (by decide)
   have k3:=m_ReachOK ok (PN.reach (by decide) (by decide) (by omega) h1 h0)
   have k4:=m_PolyOK PN r4 (by decide) (by decide)
   have hQ:∃qe:Int,CallOK Tryz.prog 28 [mA R R X,mA R R P,fvec (List.replicate M 0)] [] (.tup [.frac 0,iv qe]) [] []∧((M=R∧qe=5)∨(M≠R∧qe=1)):=by
    by_cases hMR:M=R
    ·exact⟨5,PN.quotZ (D:=2) (by decide) (by decide) (hM.trans hMR) (Sm_zero _) (by decide) (by decide) (fun i _=>zeros_get M i),.inl ⟨hMR,rfl⟩⟩
    ·exact⟨1,m_QuotF ok (by omega) (by omega),.inr ⟨hMR,rfl⟩⟩
   obtain⟨qe,k5,hqe⟩:=hQ
   have hB:(∃low high:Rat,(0≤k∧k<R∧0≤places∧places≤100)∧CallOK Tryz.prog 29 [mA R R X,mA R R P,iv k,iv places] [] (.tup [.frac low,.frac high,iv 0]) [] [])∨((k<0∨(R:Int)≤k∨places<0)∧CallOK Tryz.prog 29 [mA R R X,mA R R P,iv k,iv places] [] (.tup [.frac 0,.frac 0,iv 1]) [] [])∨
     ((0≤k∧k<R∧100<places)∧CallOK Tryz.prog 29 [mA R R X,mA R R P,iv k,iv places] [] (.tup [.frac 0,.frac 0,iv 3]) [] []):=by
    by_cases g1:k<0∨(R:Int)≤k∨places<0
    ·exact .inr (.inl ⟨g1,m_BracketA ok g1⟩)
    ·by_cases g2:100<places
     ·exact .inr (.inr ⟨⟨by omega,by omega,g2⟩,m_BracketL ok (by omega) (by omega) g2⟩)
     ·obtain⟨K,rfl⟩:∃K:Nat,k=K:=⟨k.toNat,by omega⟩
      obtain⟨p,rfl⟩:∃p:Nat,places=p:=⟨places.toNat,by omega⟩
      obtain⟨R',low,_,_,kB,_⟩:=m_BracketOK (k:=K) (places:=p) PN (by decide) (by decide) (by omega) (by omega) (by omega) h1 h0
      exact .inl ⟨low,_,⟨by omega,by omega,by omega,by omega⟩,kB⟩
   clear PN ok h1 h0 hPen oP bX sX hX hP hsy hF hl
   generalize countF R X P 1=F at*
   generalize polyF R X P=PL at*
   generalize (2:Rat)^e=re at*
   generalize mturn R R X=XT at*
   rcases hqe with⟨hMR,rfl⟩|⟨hMR,rfl⟩
   ·have t5:(((List.replicate M (0:Rat)).length:Int) != (R:Int))=false:=by rw[hM,hMR];exact bne_self_eq_false _
    rcases hB with⟨low,high,⟨g1,g2,g3,g4⟩,k6⟩|⟨g,k6⟩|⟨⟨g1,g2,g3⟩,k6⟩
    ·have t2:decide (k<0)=false:=decide_eq_false (by omega)
     have t3:decide (k≥(R:Int))=false:=decide_eq_false (by omega)
     have t4:decide (places<0)=false:=decide_eq_false (by omega)
     have t6:decide (places>100)=false:=decide_eq_false (by omega)
     refine callF (Z:=[35,100006]) tabOK mixedOK Tryz.func4 rfl (by kernel_rfl) (by first|rfl|(simp[keylessL,keyless,keylessL_map, *];done)) (by first|rfl|(simp[keylessL,keyless,keylessL_map, *];done)) (by kernel_rfl) rfl ?_
     intro w0 ρ0 hE
     conv=>whnf
     (repeat((first|refine step_w2 rfl rfl ?_|refine step_oA (by first|omega|decide|(simp only[tl0,dlen,List.length_replicate,List.length_set,List.length_map,List.length_zipWith,List.length_take,List.length_append,List.length_cons,List.length_nil];omega)) ?_|refine step_oN (by first|omega|decide|(simp only[tl0,dlen,List.length_replicate,List.length_set,List.length_map,List.length_zipWith,List.length_take,List.length_append,List.length_cons,List.length_nil];omega)) ?_|refine g_c (by assumption) ?_|rw[e2]|rw[e4]|rw[e6]|rw[e8]|rw[Int.toNat_natCast]);conv=>whnf))
     refine SWx_freezeF 17 56 (fun _ h=>h) rfl rfl (show M=(List.replicate M (0:Rat)).length by simp) ?_
     refine SWx_go hE ?_
     conv=>whnf
     (repeat((first|refine step_w1 rfl rfl ?_|refine step_w2 rfl rfl ?_|refine step_i (by kernel_rfl) ?_|refine g_c (by assumption) ?_|refine g_o (op_pickT rfl (ev_ok rfl) (ev_ok rfl)) ?_|refine g_o (op_pickF rfl (ev_ok rfl) (ev_ok rfl)) ?_|rw[beq_self_eq_true]|rw[bne_self_eq_false]|refine tst_ff t4 ?_|refine tst_ff t6 ?_|refine tst_ff t5 ?_|refine g_o (op_lenM rfl rfl rfl (ev_ok rfl) (tgt rfl) rfl) ?_|refine⟨_,op_eqAgg tabOK goodOK rfl (ev_ok rfl) (ev_ok rfl) rfl rfl rfl rfl (q_same _ _) q_guard, ?_⟩|rw[t2]|rw[t3]);conv=>whnf));(first|exact Recast.refl _|exact Frz.recast (Recast.refl _) rfl|(refine Frz.one rfl rfl ?_;skip)|(refine Frz.tup ?_;skip))
    ·by_cases g1:k<0
     ·have t2:decide (k<0)=true:=decide_eq_true (by omega)
      refine callF (Z:=[35,100006]) tabOK mixedOK Tryz.func4 rfl (by kernel_rfl) (by first|rfl|(simp[keylessL,keyless,keylessL_map, *];done)) (by first|rfl|(simp[keylessL,keyless,keylessL_map, *];done)) (by kernel_rfl) rfl ?_
      intro w0 ρ0 hE
      conv=>whnf
      (repeat((first|refine step_w2 rfl rfl ?_|refine step_oA (by first|omega|decide|(simp only[tl0,dlen,List.length_replicate,List.length_set,List.length_map,List.length_zipWith,List.length_take,List.length_append,List.length_cons,List.length_nil];omega)) ?_|refine step_oN (by first|omega|decide|(simp only[tl0,dlen,List.length_replicate,List.length_set,List.length_map,List.length_zipWith,List.length_take,List.length_append,List.length_cons,List.length_nil];omega)) ?_|refine g_c (by assumption) ?_|rw[e2]|rw[e4]|rw[e6]|rw[e8]|rw[Int.toNat_natCast]);conv=>whnf))
      refine SWx_freezeF 17 56 (fun _ h=>h) rfl rfl (show M=(List.replicate M (0:Rat)).length by simp) ?_
      refine SWx_go hE ?_
      conv=>whnf
      (repeat((first|refine step_w1 rfl rfl ?_|refine step_w2 rfl rfl ?_|refine step_i (by kernel_rfl) ?_|refine g_c (by assumption) ?_|refine g_o (op_pickT rfl (ev_ok rfl) (ev_ok rfl)) ?_|refine g_o (op_pickF rfl (ev_ok rfl) (ev_ok rfl)) ?_|rw[beq_self_eq_true]|rw[bne_self_eq_false]|refine tst_ff t5 ?_|refine g_o (op_lenM rfl rfl rfl (ev_ok rfl) (tgt rfl) rfl) ?_|refine⟨_,op_eqAgg tabOK goodOK rfl (ev_ok rfl) (ev_ok rfl) rfl rfl rfl rfl (q_same _ _) q_guard, ?_⟩|rw[t2]);conv=>whnf));(first|exact Recast.refl _|exact Frz.recast (Recast.refl _) rfl|(refine Frz.one rfl rfl ?_;skip)|(refine Frz.tup ?_;skip))
     ·have t2:decide (k<0)=false:=decide_eq_false (by omega)
      by_cases g2:(R:Int)≤k
      ·have t3:decide (k≥(R:Int))=true:=decide_eq_true (by omega)
       refine callF (Z:=[35,100006]) tabOK mixedOK Tryz.func4 rfl (by kernel_rfl) (by first|rfl|(simp[keylessL,keyless,keylessL_map, *];done)) (by first|rfl|(simp[keylessL,keyless,keylessL_map, *];done)) (by kernel_rfl) rfl ?_
       intro w0 ρ0 hE
       conv=>whnf
       (repeat((first|refine step_w2 rfl rfl ?_|refine step_oA (by first|omega|decide|(simp only[tl0,dlen,List.length_replicate,List.length_set,List.length_map,List.length_zipWith,List.length_take,List.length_append,List.length_cons,List.length_nil];omega)) ?_|refine step_oN (by first|omega|decide|(simp only[tl0,dlen,List.length_replicate,List.length_set,List.length_map,List.length_zipWith,List.length_take,List.length_append,List.length_cons,List.length_nil];omega)) ?_|refine g_c (by assumption) ?_|rw[e2]|rw[e4]|rw[e6]|rw[e8]|rw[Int.toNat_natCast]);conv=>whnf))
       refine SWx_freezeF 17 56 (fun _ h=>h) rfl rfl (show M=(List.replicate M (0:Rat)).length by simp) ?_
       refine SWx_go hE ?_
       conv=>whnf
       (repeat((first|refine step_w1 rfl rfl ?_|refine step_w2 rfl rfl ?_|refine step_i (by kernel_rfl) ?_|refine g_c (by assumption) ?_|refine g_o (op_pickT rfl (ev_ok rfl) (ev_ok rfl)) ?_|refine g_o (op_pickF rfl (ev_ok rfl) (ev_ok rfl)) ?_|rw[beq_self_eq_true]|rw[bne_self_eq_false]|refine tst_ff t5 ?_|refine g_o (op_lenM rfl rfl rfl (ev_ok rfl) (tgt rfl) rfl) ?_|refine⟨_,op_eqAgg tabOK goodOK rfl (ev_ok rfl) (ev_ok rfl) rfl rfl rfl rfl (q_same _ _) q_guard, ?_⟩|rw[t2]|rw[t3]);conv=>whnf));(first|exact Recast.refl _|exact Frz.recast (Recast.refl _) rfl|(refine Frz.one rfl rfl ?_;skip)|(refine Frz.tup ?_;skip))
      ·have t3:decide (k≥(R:Int))=false:=decide_eq_false (by omega)
       have t4:decide (places<0)=true:=decide_eq_true (by omega)
       refine callF (Z:=[35,100006]) tabOK mixedOK Tryz.func4 rfl (by kernel_rfl) (by first|rfl|(simp[keylessL,keyless,keylessL_map, *];done)) (by first|rfl|(simp[keylessL,keyless,keylessL_map, *];done)) (by kernel_rfl) rfl ?_
       intro w0 ρ0 hE
       conv=>whnf
       (repeat((first|refine step_w2 rfl rfl ?_|refine step_oA (by first|omega|decide|(simp only[tl0,dlen,List.length_replicate,List.length_set,List.length_map,List.length_zipWith,List.length_take,List.length_append,List.length_cons,List.length_nil];omega)) ?_|refine step_oN (by first|omega|decide|(simp only[tl0,dlen,List.length_replicate,List.length_set,List.length_map,List.length_zipWith,List.length_take,List.length_append,List.length_cons,List.length_nil];omega)) ?_|refine g_c (by assumption) ?_|rw[e2]|rw[e4]|rw[e6]|rw[e8]|rw[Int.toNat_natCast]);conv=>whnf))
       refine SWx_freezeF 17 56 (fun _ h=>h) rfl rfl (show M=(List.replicate M (0:Rat)).length by simp) ?_
       refine SWx_go hE ?_
       conv=>whnf
       (repeat((first|refine step_w1 rfl rfl ?_|refine step_w2 rfl rfl ?_|refine step_i (by kernel_rfl) ?_|refine g_c (by assumption) ?_|refine g_o (op_pickT rfl (ev_ok rfl) (ev_ok rfl)) ?_|refine g_o (op_pickF rfl (ev_ok rfl) (ev_ok rfl)) ?_|rw[beq_self_eq_true]|rw[bne_self_eq_false]|refine tst_tt t4 ?_|refine tst_ff t5 ?_|refine g_o (op_lenM rfl rfl rfl (ev_ok rfl) (tgt rfl) rfl) ?_|refine⟨_,op_eqAgg tabOK goodOK rfl (ev_ok rfl) (ev_ok rfl) rfl rfl rfl rfl (q_same _ _) q_guard, ?_⟩|rw[t2]|rw[t3]);conv=>whnf));(first|exact Recast.refl _|exact Frz.recast (Recast.refl _) rfl|(refine Frz.one rfl rfl ?_;skip)|(refine Frz.tup ?_;skip))
    ·have t2:decide (k<0)=false:=decide_eq_false (by omega)
     have t3:decide (k≥(R:Int))=false:=decide_eq_false (by omega)
     have t4:decide (places<0)=false:=decide_eq_false (by omega)
     have t6:decide (places>100)=true:=decide_eq_true (by omega)
     refine callF (Z:=[35,100006]) tabOK mixedOK Tryz.func4 rfl (by kernel_rfl) (by first|rfl|(simp[keylessL,keyless,keylessL_map, *];done)) (by first|rfl|(simp[keylessL,keyless,keylessL_map, *];done)) (by kernel_rfl) rfl ?_
     intro w0 ρ0 hE
     conv=>whnf
     (repeat((first|refine step_w2 rfl rfl ?_|refine step_oA (by first|omega|decide|(simp only[tl0,dlen,List.length_replicate,List.length_set,List.length_map,List.length_zipWith,List.length_take,List.length_append,List.length_cons,List.length_nil];omega)) ?_|refine step_oN (by first|omega|decide|(simp only[tl0,dlen,List.length_replicate,List.length_set,List.length_map,List.length_zipWith,List.length_take,List.length_append,List.length_cons,List.length_nil];omega)) ?_|refine g_c (by assumption) ?_|rw[e2]|rw[e4]|rw[e6]|rw[e8]|rw[Int.toNat_natCast]);conv=>whnf))
     refine SWx_freezeF 17 56 (fun _ h=>h) rfl rfl (show M=(List.replicate M (0:Rat)).length by simp) ?_
     refine SWx_go hE ?_
     conv=>whnf
     (repeat((first|refine step_w1 rfl rfl ?_|refine step_w2 rfl rfl ?_|refine step_i (by kernel_rfl) ?_|refine g_c (by assumption) ?_|refine g_o (op_pickT rfl (ev_ok rfl) (ev_ok rfl)) ?_|refine g_o (op_pickF rfl (ev_ok rfl) (ev_ok rfl)) ?_|rw[beq_self_eq_true]|rw[bne_self_eq_false]|refine tst_ff t4 ?_|refine tst_tt t6 ?_|refine tst_ff t5 ?_|refine g_o (op_lenM rfl rfl rfl (ev_ok rfl) (tgt rfl) rfl) ?_|refine⟨_,op_eqAgg tabOK goodOK rfl (ev_ok rfl) (ev_ok rfl) rfl rfl rfl rfl (q_same _ _) q_guard, ?_⟩|rw[t2]|rw[t3]);conv=>whnf));(first|exact Recast.refl _|exact Frz.recast (Recast.refl _) rfl|(refine Frz.one rfl rfl ?_;skip)|(refine Frz.tup ?_;skip))
   ·have t5:(((List.replicate M (0:Rat)).length:Int) != (R:Int))=true:=by rw[hM];exact bne_iff_ne.2 (by omega)
    rcases hB with⟨low,high,⟨g1,g2,g3,g4⟩,k6⟩|⟨g,k6⟩|⟨⟨g1,g2,g3⟩,k6⟩
    ·have t2:decide (k<0)=false:=decide_eq_false (by omega)
     have t3:decide (k≥(R:Int))=false:=decide_eq_false (by omega)
     have t4:decide (places<0)=false:=decide_eq_false (by omega)
     have t6:decide (places>100)=false:=decide_eq_false (by omega)
     refine callF (Z:=[35,100006]) tabOK mixedOK Tryz.func4 rfl (by kernel_rfl) (by first|rfl|(simp[keylessL,keyless,keylessL_map, *];done)) (by first|rfl|(simp[keylessL,keyless,keylessL_map, *];done)) (by kernel_rfl) rfl ?_
     intro w0 ρ0 hE
     conv=>whnf
     (repeat((first|refine step_w2 rfl rfl ?_|refine step_oA (by first|omega|decide|(simp only[tl0,dlen,List.length_replicate,List.length_set,List.length_map,List.length_zipWith,List.length_take,List.length_append,List.length_cons,List.length_nil];omega)) ?_|refine step_oN (by first|omega|decide|(simp only[tl0,dlen,List.length_replicate,List.length_set,List.length_map,List.length_zipWith,List.length_take,List.length_append,List.length_cons,List.length_nil];omega)) ?_|refine g_c (by assumption) ?_|rw[e2]|rw[e4]|rw[e6]|rw[e8]|rw[Int.toNat_natCast]);conv=>whnf))
     refine SWx_freezeF 17 56 (fun _ h=>h) rfl rfl (show M=(List.replicate M (0:Rat)).length by simp) ?_
     refine SWx_go hE ?_
     conv=>whnf
     (repeat((first|refine step_w1 rfl rfl ?_|refine step_w2 rfl rfl ?_|refine step_i (by kernel_rfl) ?_|refine g_c (by assumption) ?_|refine g_o (op_pickT rfl (ev_ok rfl) (ev_ok rfl)) ?_|refine g_o (op_pickF rfl (ev_ok rfl) (ev_ok rfl)) ?_|rw[beq_self_eq_true]|rw[bne_self_eq_false]|refine tst_ff t4 ?_|refine tst_ff t6 ?_|refine tst_tt t5 ?_|refine g_o (op_lenM rfl rfl rfl (ev_ok rfl) (tgt rfl) rfl) ?_|refine⟨_,op_eqAgg tabOK goodOK rfl (ev_ok rfl) (ev_ok rfl) rfl rfl rfl rfl (q_same _ _) q_guard, ?_⟩|rw[t2]|rw[t3]);conv=>whnf));(first|exact Recast.refl _|exact Frz.recast (Recast.refl _) rfl|(refine Frz.one rfl rfl ?_;skip)|(refine Frz.tup ?_;skip))
    ·by_cases g1:k<0
     ·have t2:decide (k<0)=true:=decide_eq_true (by omega)
      refine callF (Z:=[35,100006]) tabOK mixedOK Tryz.func4 rfl (by kernel_rfl) (by first|rfl|(simp[keylessL,keyless,keylessL_map, *];done)) (by first|rfl|(simp[keylessL,keyless,keylessL_map, *];done)) (by kernel_rfl) rfl ?_
      intro w0 ρ0 hE
      conv=>whnf
      (repeat((first|refine step_w2 rfl rfl ?_|refine step_oA (by first|omega|decide|(simp only[tl0,dlen,List.length_replicate,List.length_set,List.length_map,List.length_zipWith,List.length_take,List.length_append,List.length_cons,List.length_nil];omega)) ?_|refine step_oN (by first|omega|decide|(simp only[tl0,dlen,List.length_replicate,List.length_set,List.length_map,List.length_zipWith,List.length_take,List.length_append,List.length_cons,List.length_nil];omega)) ?_|refine g_c (by assumption) ?_|rw[e2]|rw[e4]|rw[e6]|rw[e8]|rw[Int.toNat_natCast]);conv=>whnf))
      refine SWx_freezeF 17 56 (fun _ h=>h) rfl rfl (show M=(List.replicate M (0:Rat)).length by simp) ?_
      refine SWx_go hE ?_
      conv=>whnf
      (repeat((first|refine step_w1 rfl rfl ?_|refine step_w2 rfl rfl ?_|refine step_i (by kernel_rfl) ?_|refine g_c (by assumption) ?_|refine g_o (op_pickT rfl (ev_ok rfl) (ev_ok rfl)) ?_|refine g_o (op_pickF rfl (ev_ok rfl) (ev_ok rfl)) ?_|rw[beq_self_eq_true]|rw[bne_self_eq_false]|refine tst_tt t5 ?_|refine g_o (op_lenM rfl rfl rfl (ev_ok rfl) (tgt rfl) rfl) ?_|refine⟨_,op_eqAgg tabOK goodOK rfl (ev_ok rfl) (ev_ok rfl) rfl rfl rfl rfl (q_same _ _) q_guard, ?_⟩|rw[t2]);conv=>whnf));(first|exact Recast.refl _|exact Frz.recast (Recast.refl _) rfl|(refine Frz.one rfl rfl ?_;skip)|(refine Frz.tup ?_;skip))
     ·have t2:decide (k<0)=false:=decide_eq_false (by omega)
      by_cases g2:(R:Int)≤k
      ·have t3:decide (k≥(R:Int))=true:=decide_eq_true (by omega)
       refine callF (Z:=[35,100006]) tabOK mixedOK Tryz.func4 rfl (by kernel_rfl) (by first|rfl|(simp[keylessL,keyless,keylessL_map, *];done)) (by first|rfl|(simp[keylessL,keyless,keylessL_map, *];done)) (by kernel_rfl) rfl ?_
       intro w0 ρ0 hE
       conv=>whnf
       (repeat((first|refine step_w2 rfl rfl ?_|refine step_oA (by first|omega|decide|(simp only[tl0,dlen,List.length_replicate,List.length_set,List.length_map,List.length_zipWith,List.length_take,List.length_append,List.length_cons,List.length_nil];omega)) ?_|refine step_oN (by first|omega|decide|(simp only[tl0,dlen,List.length_replicate,List.length_set,List.length_map,List.length_zipWith,List.length_take,List.length_append,List.length_cons,List.length_nil];omega)) ?_|refine g_c (by assumption) ?_|rw[e2]|rw[e4]|rw[e6]|rw[e8]|rw[Int.toNat_natCast]);conv=>whnf))
       refine SWx_freezeF 17 56 (fun _ h=>h) rfl rfl (show M=(List.replicate M (0:Rat)).length by simp) ?_
       refine SWx_go hE ?_
       conv=>whnf
       (repeat((first|refine step_w1 rfl rfl ?_|refine step_w2 rfl rfl ?_|refine step_i (by kernel_rfl) ?_|refine g_c (by assumption) ?_|refine g_o (op_pickT rfl (ev_ok rfl) (ev_ok rfl)) ?_|refine g_o (op_pickF rfl (ev_ok rfl) (ev_ok rfl)) ?_|rw[beq_self_eq_true]|rw[bne_self_eq_false]|refine tst_tt t5 ?_|refine g_o (op_lenM rfl rfl rfl (ev_ok rfl) (tgt rfl) rfl) ?_|refine⟨_,op_eqAgg tabOK goodOK rfl (ev_ok rfl) (ev_ok rfl) rfl rfl rfl rfl (q_same _ _) q_guard, ?_⟩|rw[t2]|rw[t3]);conv=>whnf));(first|exact Recast.refl _|exact Frz.recast (Recast.refl _) rfl|(refine Frz.one rfl rfl ?_;skip)|(refine Frz.tup ?_;skip))
      ·have t3:decide (k≥(R:Int))=false:=decide_eq_false (by omega)
       have t4:decide (places<0)=true:=decide_eq_true (by omega)
       refine callF (Z:=[35,100006]) tabOK mixedOK Tryz.func4 rfl (by kernel_rfl) (by first|rfl|(simp[keylessL,keyless,keylessL_map, *];done)) (by first|rfl|(simp[keylessL,keyless,keylessL_map, *];done)) (by kernel_rfl) rfl ?_
       intro w0 ρ0 hE
       conv=>whnf
       (repeat((first|refine step_w2 rfl rfl ?_|refine step_oA (by first|omega|decide|(simp only[tl0,dlen,List.length_replicate,List.length_set,List.length_map,List.length_zipWith,List.length_take,List.length_append,List.length_cons,List.length_nil];omega)) ?_|refine step_oN (by first|omega|decide|(simp only[tl0,dlen,List.length_replicate,List.length_set,List.length_map,List.length_zipWith,List.length_take,List.length_append,List.length_cons,List.length_nil];omega)) ?_|refine g_c (by assumption) ?_|rw[e2]|rw[e4]|rw[e6]|rw[e8]|rw[Int.toNat_natCast]);conv=>whnf))
       refine SWx_freezeF 17 56 (fun _ h=>h) rfl rfl (show M=(List.replicate M (0:Rat)).length by simp) ?_
       refine SWx_go hE ?_
       conv=>whnf
       (repeat((first|refine step_w1 rfl rfl ?_|refine step_w2 rfl rfl ?_|refine step_i (by kernel_rfl) ?_|refine g_c (by assumption) ?_|refine g_o (op_pickT rfl (ev_ok rfl) (ev_ok rfl)) ?_|refine g_o (op_pickF rfl (ev_ok rfl) (ev_ok rfl)) ?_|rw[beq_self_eq_true]|rw[bne_self_eq_false]|refine tst_tt t4 ?_|refine tst_tt t5 ?_|refine g_o (op_lenM rfl rfl rfl (ev_ok rfl) (tgt rfl) rfl) ?_|refine⟨_,op_eqAgg tabOK goodOK rfl (ev_ok rfl) (ev_ok rfl) rfl rfl rfl rfl (q_same _ _) q_guard, ?_⟩|rw[t2]|rw[t3]);conv=>whnf));(first|exact Recast.refl _|exact Frz.recast (Recast.refl _) rfl|(refine Frz.one rfl rfl ?_;skip)|(refine Frz.tup ?_;skip))
    ·have t2:decide (k<0)=false:=decide_eq_false (by omega)
     have t3:decide (k≥(R:Int))=false:=decide_eq_false (by omega)
     have t4:decide (places<0)=false:=decide_eq_false (by omega)
     have t6:decide (places>100)=true:=decide_eq_true (by omega)
     refine callF (Z:=[35,100006]) tabOK mixedOK Tryz.func4 rfl (by kernel_rfl) (by first|rfl|(simp[keylessL,keyless,keylessL_map, *];done)) (by first|rfl|(simp[keylessL,keyless,keylessL_map, *];done)) (by kernel_rfl) rfl ?_
     intro w0 ρ0 hE
     conv=>whnf
     (repeat((first|refine step_w2 rfl rfl ?_|refine step_oA (by first|omega|decide|(simp only[tl0,dlen,List.length_replicate,List.length_set,List.length_map,List.length_zipWith,List.length_take,List.length_append,List.length_cons,List.length_nil];omega)) ?_|refine step_oN (by first|omega|decide|(simp only[tl0,dlen,List.length_replicate,List.length_set,List.length_map,List.length_zipWith,List.length_take,List.length_append,List.length_cons,List.length_nil];omega)) ?_|refine g_c (by assumption) ?_|rw[e2]|rw[e4]|rw[e6]|rw[e8]|rw[Int.toNat_natCast]);conv=>whnf))
     refine SWx_freezeF 17 56 (fun _ h=>h) rfl rfl (show M=(List.replicate M (0:Rat)).length by simp) ?_
     refine SWx_go hE ?_
     conv=>whnf
     (repeat((first|refine step_w1 rfl rfl ?_|refine step_w2 rfl rfl ?_|refine step_i (by kernel_rfl) ?_|refine g_c (by assumption) ?_|refine g_o (op_pickT rfl (ev_ok rfl) (ev_ok rfl)) ?_|refine g_o (op_pickF rfl (ev_ok rfl) (ev_ok rfl)) ?_|rw[beq_self_eq_true]|rw[bne_self_eq_false]|refine tst_ff t4 ?_|refine tst_tt t6 ?_|refine tst_tt t5 ?_|refine g_o (op_lenM rfl rfl rfl (ev_ok rfl) (tgt rfl) rfl) ?_|refine⟨_,op_eqAgg tabOK goodOK rfl (ev_ok rfl) (ev_ok rfl) rfl rfl rfl rfl (q_same _ _) q_guard, ?_⟩|rw[t2]|rw[t3]);conv=>whnf));(first|exact Recast.refl _|exact Frz.recast (Recast.refl _) rfl|(refine Frz.one rfl rfl ?_;skip)|(refine Frz.tup ?_;skip))
  ·rw[show sameF R R R R X (mturn R R X)=false from by unfold sameF;simp[Ne.symm hsy]]at kS
   have kc:=m_CheckN hX hP (by omega) hsy
   have k2:=m_CountE (t:=1) kc (by decide)
   have k3:=m_ReachE kc (by decide)
   have k4:=m_PolyE kc (by decide)
   have k5:=m_QuotE (v:=List.replicate M 0) kc (by decide)
   have k6:=m_BracketE (k:=k) (p:=places) kc (by decide)
   clear hPen oP bX sX hX hP hsy hF hl
   generalize mturn R R X=XT at*
   refine callF (Z:=[35,100006]) tabOK mixedOK Tryz.func4 rfl (by kernel_rfl) (by first|rfl|(simp[keylessL,keyless,keylessL_map, *];done)) (by first|rfl|(simp[keylessL,keyless,keylessL_map, *];done)) (by kernel_rfl) rfl ?_
   intro w0 ρ0 hE
   conv=>whnf
   (repeat((first|refine step_w2 rfl rfl ?_|refine step_oA (by first|omega|decide|(simp only[tl0,dlen,List.length_replicate,List.length_set,List.length_map,List.length_zipWith,List.length_take,List.length_append,List.length_cons,List.length_nil];omega)) ?_|refine step_oN (by first|omega|decide|(simp only[tl0,dlen,List.length_replicate,List.length_set,List.length_map,List.length_zipWith,List.length_take,List.length_append,List.length_cons,List.length_nil];omega)) ?_|refine g_c (by assumption) ?_|rw[e2]|rw[e4]|rw[e6]|rw[e8]|rw[Int.toNat_natCast]);conv=>whnf))
   refine SWx_freezeF 17 56 (fun _ h=>h) rfl rfl (show M=(List.replicate M (0:Rat)).length by simp) ?_
   refine SWx_go hE ?_
   conv=>whnf
   (repeat((first|refine step_w1 rfl rfl ?_|refine step_w2 rfl rfl ?_|refine step_i (by kernel_rfl) ?_|refine g_c (by assumption) ?_|refine g_o (op_pickT rfl (ev_ok rfl) (ev_ok rfl)) ?_|refine g_o (op_pickF rfl (ev_ok rfl) (ev_ok rfl)) ?_|rw[beq_self_eq_true]|rw[bne_self_eq_false]|refine g_o (op_lenM rfl rfl rfl (ev_ok rfl) (tgt rfl) rfl) ?_|refine⟨_,op_eqAgg tabOK goodOK rfl (ev_ok rfl) (ev_ok rfl) rfl rfl rfl rfl (q_same _ _) q_guard, ?_⟩);conv=>whnf));(first|exact Recast.refl _|exact Frz.recast (Recast.refl _) rfl|(refine Frz.one rfl rfl ?_;skip)|(refine Frz.tup ?_;skip))
 ·have kc:=m_CheckS hX hP hS
  have k2:=m_CountE (t:=1) kc (by decide)
  have k3:=m_ReachE kc (by decide)
  have k4:=m_PolyE kc (by decide)
  have k5:=m_QuotE (v:=List.replicate M 0) kc (by decide)
  have k6:=m_BracketE (k:=k) (p:=places) kc (by decide)
  clear hPen oP bX sX hX hP hF hl
  by_cases hRC:R=C
  ·have t1:((R:Int) != (C:Int))=false:=by rw[hRC];exact bne_self_eq_false _
   have t2:((R:Int) != (N:Int))=true:=bne_iff_ne.2 (by omega)
   refine callF (Z:=[35,100006]) tabOK mixedOK Tryz.func4 rfl (by kernel_rfl) (by first|rfl|(simp[keylessL,keyless,keylessL_map, *];done)) (by first|rfl|(simp[keylessL,keyless,keylessL_map, *];done)) (by kernel_rfl) rfl ?_
   intro w0 ρ0 hE
   conv=>whnf
   (repeat((first|refine step_w2 rfl rfl ?_|refine step_oA (by first|omega|decide|(simp only[tl0,dlen,List.length_replicate,List.length_set,List.length_map,List.length_zipWith,List.length_take,List.length_append,List.length_cons,List.length_nil];omega)) ?_|refine step_oN (by first|omega|decide|(simp only[tl0,dlen,List.length_replicate,List.length_set,List.length_map,List.length_zipWith,List.length_take,List.length_append,List.length_cons,List.length_nil];omega)) ?_|refine g_c (by assumption) ?_|rw[e2]|rw[e4]|rw[e6]|rw[e8]|rw[Int.toNat_natCast]);conv=>whnf))
   refine SWx_freezeF 17 56 (fun _ h=>h) rfl rfl (show M=(List.replicate M (0:Rat)).length by simp) ?_
   refine SWx_go hE ?_
   conv=>whnf
   (repeat((first|refine step_w1 rfl rfl ?_|refine step_w2 rfl rfl ?_|refine step_i (by kernel_rfl) ?_|refine g_c (by assumption) ?_|refine g_o (op_pickT rfl (ev_ok rfl) (ev_ok rfl)) ?_|refine g_o (op_pickF rfl (ev_ok rfl) (ev_ok rfl)) ?_|rw[beq_self_eq_true]|rw[bne_self_eq_false]|refine g_o (op_lenM rfl rfl rfl (ev_ok rfl) (tgt rfl) rfl) ?_|refine⟨_,op_eqAgg tabOK goodOK rfl (ev_ok rfl) (ev_ok rfl) rfl rfl rfl rfl (q_same _ _) q_guard, ?_⟩|rw[t1]|rw[t2]);conv=>whnf));(first|exact Recast.refl _|exact Frz.recast (Recast.refl _) rfl|(refine Frz.one rfl rfl ?_;skip)|(refine Frz.tup ?_;skip))
  ·have t1:((R:Int) != (C:Int))=true:=bne_iff_ne.2 (by omega)
   refine callF (Z:=[35,100006]) tabOK mixedOK Tryz.func4 rfl (by kernel_rfl) (by first|rfl|(simp[keylessL,keyless,keylessL_map, *];done)) (by first|rfl|(simp[keylessL,keyless,keylessL_map, *];done)) (by kernel_rfl) rfl ?_
   intro w0 ρ0 hE
   conv=>whnf
   (repeat((first|refine step_w2 rfl rfl ?_|refine step_oA (by first|omega|decide|(simp only[tl0,dlen,List.length_replicate,List.length_set,List.length_map,List.length_zipWith,List.length_take,List.length_append,List.length_cons,List.length_nil];omega)) ?_|refine step_oN (by first|omega|decide|(simp only[tl0,dlen,List.length_replicate,List.length_set,List.length_map,List.length_zipWith,List.length_take,List.length_append,List.length_cons,List.length_nil];omega)) ?_|refine g_c (by assumption) ?_|rw[e2]|rw[e4]|rw[e6]|rw[e8]|rw[Int.toNat_natCast]);conv=>whnf))
   refine SWx_freezeF 17 56 (fun _ h=>h) rfl rfl (show M=(List.replicate M (0:Rat)).length by simp) ?_
   refine SWx_go hE ?_
   conv=>whnf
   (repeat((first|refine step_w1 rfl rfl ?_|refine step_w2 rfl rfl ?_|refine step_i (by kernel_rfl) ?_|refine g_c (by assumption) ?_|refine g_o (op_pickT rfl (ev_ok rfl) (ev_ok rfl)) ?_|rw[beq_self_eq_true]|rw[bne_self_eq_false]|refine g_o (op_lenM rfl rfl rfl (ev_ok rfl) (tgt rfl) rfl) ?_|refine⟨_,op_eqAgg tabOK goodOK rfl (ev_ok rfl) (ev_ok rfl) rfl rfl rfl rfl (q_same _ _) q_guard, ?_⟩|rw[t1]);conv=>whnf));(first|exact Recast.refl _|exact Frz.recast (Recast.refl _) rfl|(refine Frz.one rfl rfl ?_;skip)|(refine Frz.tup ?_;skip))
theorem law_ModesErrors (a0:List (Int×Int)) (a1 a2 a3 a4 a5 a6:Int) (w0:QWf a0) (w1:(Lit.int .u8 a1).wf=true) (w2:(Lit.int .u8 a2).wf=true) (w3:(Lit.int .u8 a3).wf=true) (w4:(Lit.int .u8 a4).wf=true) (_w5:(Lit.int .i64 a5).wf=true) (_w6:(Lit.int .i64 a6).wf=true):
  CallOK Tryz.prog 4 [mvec 2 qA a0,iel .u8 a1,iel .u8 a2,iel .u8 a3,iel .u8 a4,iel .i64 a5,iel .i64 a6] [] (.val (.bool true)) [] []:=
 c_MErr a0 a1 a2 a3 a4 a5 a6 ⟨w0.1,qOK_of w0⟩ (wf_u8 w1) (wf_u8 w2) (wf_u8 w3) (wf_u8 w4)
end Go.Proofs.YtfjhnollamkdcaaGreatDoor
