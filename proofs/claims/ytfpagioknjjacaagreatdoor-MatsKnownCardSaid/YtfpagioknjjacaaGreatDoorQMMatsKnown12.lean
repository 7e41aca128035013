/- The texts La. -/
import Derived.Test.YtfpagioknjjacaaGreatDoorQMMatsKnown11
namespace Go.Sx
set_option linter.unusedSimpArgs false
set_option linter.unusedVariables false
theorem op_makeF2 {P:Program} {o:Oper} {ft:List (Nat×SV)} {fk:List (Nat×Blk)} {t e:TypeId} {x y:Operand} {ti te:TI} {kl kc:IntKind} {l m:Int} (n:Nat) (ho:o.op= .makeSlice t x y) (hx:EvOK ft x (.val (.int kl l))) (hy:EvOK ft y (.val (.int kc m))) (hl:l=n) (hm:m=n)
  (ht:TOK P t ti) (hk:ti.kind= .slc e) (he:TOK P e te) (hz:te.zero=[.frac 0]) (hs:te.size=5) (hb:(te.bytes:Int)*n≤281474976710656∧(n:Int)≤9223372036854775807):OpOK P o ft fk (fvec (List.replicate n 0)) [] []:=by
 subst hl hm;exact op_makeF ho hx hy ht hk he hz hs hb
end Go.Sx
namespace Go.Proofs.YtfpagioknjjacaaGreatDoor
open Go.Sx
set_option linter.unusedSimpArgs false
set_option linter.unusedVariables false
set_option maxRecDepth 100000
set_option maxHeartbeats 40000000
structure Closed (p:Prop):Prop where
 out:p
theorem by_tail2 {G:Prop} (h:∃T:Prop,T∧(Closed T→G)):G:=let ⟨_,t,k⟩:=h;k ⟨t⟩
abbrev F100 (i k:Nat):Rat:=(((i*100+k:Nat):Int):Rat)
theorem c_makes1 (i k c:Nat) (hi:i≤2048) (hk:k≤2048) (hc:c≤2048):CallOK Tryz.prog 98 ([]++([iv (i:Nat),iv (k:Nat)]++capM 1001 1002 (ptrP [iv c]))) [(1001,bblk true),(1002,nblk (i*c+k))] (.frac (F100 i k)) [] [(1001,bblk true),(1002,nblk (i*c+k+1))]:=by
 obtain⟨w1,w2⟩:=idx_w (i:=i) (k:=k) (c:=c) hi hc hk
 have hb:=Nat.mul_le_mul hi hc
 have w3:IntKind.i64.wrap ((i:Int)*100)=((i*100:Nat):Int):=by rw[wrap_i64 (by omega) (by omega)];omega
 have w4:IntKind.i64.wrap (((i*100:Nat):Int)+(k:Int))=((i*100+k:Nat):Int):=by rw[wrap_i64 (by omega) (by omega)];omega
 have w5:=winc (i:=i*c+k) (by omega)
 have k1:=c_fInt ((i*100+k:Nat):Int) (by omega) (by omega)
 have t1:(((i*c+k:Nat):Int)==((i*c+k:Nat):Int))=true:=beq_self_eq_true _
 refine callK (Z:=[]) tabOK mixedOK Tryz.func98 rfl (by kernel_rfl) (args:=[iv (i:Nat),iv (k:Nat),.ptr 1001 0 0 0,ptrA [iv c],.ptr 1002 0 0 0]) (fk:=[(1001,bblk true),(1002,nblk (i*c+k))]) (c:=.frac (F100 i k)) (new:=[]) (upd:=[(1001,bblk true),(1002,nblk (i*c+k+1))]) (ShapeOK.of rfl rfl rfl rfl rfl rfl rfl rfl rfl rfl rfl) rfl (fun k=>k) (NamesOK.two (by decide)) ?_
 intro W0 w0 ρ0 hE
 conv=>whnf
 (repeat((first|refine step_w1 rfl rfl ?_|refine g_c (by assumption) ?_|refine g_o (op_pickT rfl (ev_ok rfl) (ev_ok rfl)) ?_|rw[beq_self_eq_true]|refine g_o (op_loadA rfl (ev_ok rfl) (tgt rfl) rfl (Nat.succ_ne_zero _) rfl) ?_|rw[w1]|rw[w2]|rw[w5]|rw[w3]|rw[w4]);conv=>whnf))
 exact⟨Recast.refl _,(fun _ _ h=>by cases h),(fun k b hm=>by
  simp only[List.mem_cons,List.not_mem_nil,or_false,Prod.mk.injEq]at hm
  rcases hm with⟨rfl,rfl⟩|⟨rfl,rfl⟩<;>rfl)⟩
theorem foldl_zero:∀n,(zL n).foldl (·+·) 0=0
 |0=>rfl
 |n+1=>by
  rw[zL,List.replicate_succ,List.foldl_cons,show(0:Rat)+0=0 by grind]
  exact foldl_zero n
theorem fsL_zero (n:Nat):fsL (zL n)≤n*2:=by
 have:=fsL_Sm (Sm_zero n)
 rwa [List.length_replicate]at this
theorem m_OneX (r:Int) (h:r≤12∨2048<r):∃x y w e,CallOK Tryz.prog 57 [iv r] [] (.tup [mA x y w,iv e]) [] []∧((e==0)=decide (0≤r∧r≤2048)):=by
 by_cases hs:sidesF r r=0
 ·obtain⟨h1,_⟩:=sides_ok hs
  obtain⟨R,rfl⟩:=Int.eq_ofNat_of_zero_le h1.1
  exact⟨_,_,_,0,m_One R (by omega),by rw[decide_eq_true h1];rfl⟩
 ·refine⟨_,_,_,_,m_OneE hs, ?_⟩
  rw[beq_false_of_ne hs,decide_eq_false]
  intro h1
  exact hs (sides_of ⟨h1,h1⟩)
theorem diag_eq {x:List Rat} {i k:Nat} (hi:i<x.length) (hk:k<x.length):(mdiag x).getD (i*x.length+k) 0=if i=k then x.getD i 0 else 0:=mk_el hi hk
theorem one_eq {n i k:Nat} (hi:i<n) (hk:k<n):(mone n).getD (i*n+k) 0=if i=k then((1:Int):Rat)else 0:=by rw[←delta_eq];exact mk_el hi hk
theorem op_make2049 {fk:List (Nat×Blk)} {o:Oper} {n:Nat} (h:(2049:Int)=(n:Int)) (ho:o.op= .makeSlice 54 (.const (.int .i64 2049)) (.const (.int .i64 2049))):OpOK Tryz.prog o [] fk (fvec (List.replicate n 0)) [] []:=
 op_makeF2 n ho (ev_ok rfl) (ev_ok rfl) h h (tgt rfl) rfl (tgt rfl) rfl rfl (by simp only[tiB52];omega)
theorem c_MakesOk (R C:Nat) (v:List (Int×Int)) (hR:R≤12) (hC:C≤12) (hv:v.length≤12) (hq:∀q∈v,qOK q):CallOK Tryz.prog 14 [iv R,iv C,mvec 2 qA v] [] (.val (.bool true)) [] []:=by
 have kw:=l_works13
 have kV:=c_V v (by omega) hq
 have hx12:(v.map qV).length≤12:=by rw[List.length_map];exact hv
 generalize v.map qV=x at*
 have kD:=m_Diag (v:=x) (by omega)
 have kI:=m_One x.length (by omega)
 have kM:=m_MakeM (r:=R) (c:=C) (by omega) (by omega) F100 98 (ptrP [iv C]) 9 8 3001 (by decide) (fun i k hi hk=>c_makes1 i k C (by omega) (by omega) (by omega))
 have kN:=m_MakeN (r:=R) (c:=C) (by omega) (by omega)
 have kO:=m_One R (by omega)
 obtain⟨n9,hn9⟩:∃n:Nat,n=2049:=⟨_,rfl⟩
 have h9:(2049:Int)=(n9:Int):=by omega
 have kE:=m_DiagE (v:=zL n9) (by rw[zL_len];exact hn9)
 have kf:=c_fInt 1 (by decide) (by decide)
 have hRC:=Nat.mul_le_mul hR hC
 have w1:IntKind.i64.wrap ((R:Int)*(C:Int))=((R*C:Nat):Int):=by rw[←Int.natCast_mul,wrap_i64 (by omega) (by omega)]
 have lM:(mk R C F100).length=R*C:=mk_len ..
 have gM:∀p,p<R*C→(mk R C F100).getD p 0=F100 (p/C) (p % C):=fun p hp=>mk_at hp
 have kS:=m_Sum (a:=zL (R*C)) (r:=R) (c:=C) ⟨by omega,by omega,zL_len _⟩ (by have:=fsL_zero (R*C);omega)
 rw[foldl_zero]at kS
 have lZ:=zL_len (R*C)
 generalize mk R C F100=M at*
 have hnn:=Nat.mul_le_mul hx12 hx12
 have w6:IntKind.i64.wrap ((x.length:Int)*(x.length:Int))=((x.length*x.length:Nat):Int):=by rw[←Int.natCast_mul,wrap_i64 (by omega) (by omega)]
 have q6:(((mdiag x).length:Int) != ((x.length*x.length:Nat):Int))=false:=by rw[mk_len];exact bne_self_eq_false _
 have q7:(((mone x.length).length:Int) != ((mdiag x).length:Int))=false:=by rw[mk_len,mk_len];exact bne_self_eq_false _
 have gD:∀i k,i<x.length→k<x.length→(mdiag x).getD (i*x.length+k) 0=if i=k then x.getD i 0 else 0:=fun i k hi hk=>diag_eq hi hk
 have gI:∀i k,i<x.length→k<x.length→(mone x.length).getD (i*x.length+k) 0=if i=k then((1:Int):Rat)else 0:=fun i k hi hk=>one_eq hi hk
 have lD:(mdiag x).length=x.length*x.length:=mk_len ..
 have lI:(mone x.length).length=x.length*x.length:=mk_len ..
 generalize mdiag x=D at*
 generalize mone x.length=I1 at*
 have a1:decide ((R:Int)>12)=false:=decide_eq_false (by omega)
 have a3:decide ((C:Int)>12)=false:=decide_eq_false (by omega)
 have a5:decide ((v.length:Int)>12)=false:=decide_eq_false (by omega)
 have a6:decide ((R:Int)<0)=false:=decide_eq_false (by omega)
 have a7:decide ((C:Int)<0)=false:=decide_eq_false (by omega)
 have a8:decide ((R:Int)>2048)=false:=decide_eq_false (by omega)
 have a9:decide ((C:Int)>2048)=false:=decide_eq_false (by omega)
 have q1:(((R*C:Nat):Int) != ((R*C:Nat):Int))=false:=bne_self_eq_false _
 have q2:(((zL (R*C)).length:Int) != ((R*C:Nat):Int))=false:=by rw[zL_len];exact bne_self_eq_false _
 have q3:((R:Int) != (R:Int))=false:=bne_self_eq_false _
 have q4:((C:Int) != (C:Int))=false:=bne_self_eq_false _
 have q5:((x.length:Int) != (x.length:Int))=false:=bne_self_eq_false _
 refine callV (Z:=[100000,100038,4]) tabOK mixedOK Tryz.func14 rfl (by kernel_rfl) rfl rfl (by kernel_rfl) rfl ?_
 intro W0 w0 ρ0 hE
 conv=>whnf
 refine SWx_addKey 284 (blk:=fblk []) rfl rfl ?_
 refine SWx_go hE ?_
 conv=>whnf
 (repeat((first|refine step_w1 rfl rfl ?_|refine step_w2 rfl rfl ?_|refine g_o (op_pickT rfl (ev_ok rfl) (ev_ok rfl)) ?_|refine g_o (op_pickF rfl (ev_ok rfl) (ev_ok rfl)) ?_|rw[beq_self_eq_true]|rw[bne_self_eq_false]|refine tst_ff a1 ?_|refine tst_ff a3 ?_|refine tst_ff a5 ?_|refine tst_ff a9 ?_|refine g_o (op_lenM rfl rfl rfl (ev_ok rfl) (tgt rfl) rfl) ?_|refine g_o (op_loadA rfl (ev_ok rfl) (tgt rfl) rfl (Nat.succ_ne_zero _) rfl) ?_|refine g_o (op_makeFunc rfl rfl rfl) ?_|refine⟨[_,_],_,[_],[_,_],kM,two_fk rfl rfl,one_new rfl,two_upd (List.mem_cons_self ..) rfl rfl rfl (List.mem_cons_of_mem _ (List.mem_cons_self ..)) rfl rfl rfl, ?_⟩|rw[a1]|rw[a3]|rw[a5]|rw[a6]|rw[a7]|rw[a8]|rw[a9]|rw[w1]|rw[Nat.zero_add]);conv=>whnf))
 refine SW_loopN hE (fun k=>k) [0,2,4,7,10,12] [10,3001,284] (fun m fr hp=>∃p:Nat,m=R*C - p∧p≤R*C∧fr=[(0,iv R),(2,mvec 2 qA v),(4,ptrA [iv C]),(7,iv 0),(10,.ptr 10 0 0 0),(12,iv (p:Nat))]∧
  hp=[(10,⟨38,true,.one [iv R,iv C,.slc 3001 5 0 (R*C)]⟩),(3001,fblk M),(284,fblk [])]) (R*C) ?_ ?_ ?_
 ·kernel_rfl
 ·exact⟨0,rfl,Nat.zero_le _,rfl,rfl⟩
 rintro m _ _ ⟨p,rfl,hp,rfl,rfl⟩
 conv=>whnf
 by_cases hlp:p<R*C
 ·have u1:=dlt hlp
  have u2:=winc (i:=p) (by omega)
  obtain⟨d1,d2,d3⟩:=idx_split hlp
  have e0:∀d:Nat,d<5000→IntKind.i64.wrap ((d:Nat):Int)=((d:Nat):Int):=fun d hd=>wrap_i64 (by omega) (by omega)
  have e1:IntKind.i64.wrap ((p:Int).tdiv (C:Int))=((p/C:Nat):Int):=e0 (p/C) (by omega)
  have e2:(p:Int).tmod (C:Int)=((p % C:Nat):Int):=rfl
  have g1:=gM p hlp
  generalize hd:p/C=d at*
  generalize he:p % C=e at*
  have e3:IntKind.i64.wrap ((d:Int)*100)=((d*100:Nat):Int):=by rw[wrap_i64 (by omega) (by omega)];omega
  have e4:IntKind.i64.wrap (((d*100:Nat):Int)+(e:Int))=((d*100+e:Nat):Int):=by rw[wrap_i64 (by omega) (by omega)];omega
  have o1:=c_fInt ((d*100+e:Nat):Int) (by omega) (by omega)
  clear e0 gM gD gI
  (repeat((first|refine step_w2 rfl rfl ?_|refine step_i (by kernel_rfl) ?_|refine step_oL (by first|omega|decide|(simp only[tl0,dlen,List.length_replicate,List.length_set,List.length_map,List.length_zipWith,List.length_take,List.length_append,List.length_cons,List.length_nil];omega)) ?_|refine step_oA (by first|omega|decide|(simp only[tl0,dlen,List.length_replicate,List.length_set,List.length_map,List.length_zipWith,List.length_take,List.length_append,List.length_cons,List.length_nil];omega)) ?_|refine step_oN (by first|omega|decide|(simp only[tl0,dlen,List.length_replicate,List.length_set,List.length_map,List.length_zipWith,List.length_take,List.length_append,List.length_cons,List.length_nil];omega)) ?_|refine g_c (by assumption) ?_|refine tst_tt u1 ?_|refine g_o (op_loadA rfl (ev_ok rfl) (tgt rfl) rfl (Nat.succ_ne_zero _) rfl) ?_|refine⟨_,op_neAgg tabOK goodOK rfl (ev_ok rfl) (ev_ok rfl) rfl rfl rfl rfl (q_eq (g1)) q_guard, ?_⟩|rw[u1]|rw[u2]|rw[e1]|rw[e2]|rw[e3]|rw[e4]|rw[Int.toNat_natCast]|rw[Nat.zero_add]);conv=>whnf))
  exact⟨R*C - (p+1),fun k=>k,[0,2,4,7,10,12],[10,3001,284],by omega,by kernel_rfl,p+1,rfl,hlp,rfl,rfl⟩
 have u0:=dge hlp
 clear gM hlp
 (repeat((first|refine step_w1 rfl rfl ?_|refine g_c (by assumption) ?_|refine g_o (op_pickF rfl (ev_ok rfl) (ev_ok rfl)) ?_|rw[bne_self_eq_false]|refine tst_ff u0 ?_|refine tst_ff q7 ?_|refine g_o (op_lenM rfl rfl rfl (ev_ok rfl) (tgt rfl) rfl) ?_|rw[u0]|rw[q6]|rw[q7]|rw[w6]|rw[Nat.zero_add]);conv=>whnf))
 refine SW_loopN hE (fun k=>k) [0,4,7,13,14,16,18] [14,16,284] (fun m fr hp=>∃i:Nat,m=x.length - i∧i≤x.length∧fr=[(0,iv R),(4,ptrA [iv C]),(7,iv 0),(13,fvec x),(14,.ptr 14 0 0 0),(16,.ptr 16 0 0 0),(18,iv (i:Nat))]∧
  hp=[(14,mblk x.length x.length D),(16,mblk x.length x.length I1),(284,fblk [])]) x.length ?_ ?_ ?_
 ·kernel_rfl
 ·exact⟨0,rfl,Nat.zero_le _,rfl,rfl⟩
 rintro m _ _ ⟨i,rfl,hi,rfl,rfl⟩
 conv=>whnf
 by_cases hlt:i<x.length
 ·have u1:=dlt hlt
  have u2:=winc (i:=i) (by omega)
  (repeat(first|(refine tst_tt u1 ?_;conv=>whnf)|(refine g_o (op_lenM rfl rfl rfl (ev_ok rfl) (tgt rfl) rfl) ?_;conv=>whnf)|(rw[u1];conv=>whnf)))
  refine SW_loopN hE (fun k=>k) [0,4,7,13,14,16,18,19] [14,16,284] (fun m fr hp=>∃k:Nat,m=x.length - k∧k≤x.length∧fr=[(0,iv R),(4,ptrA [iv C]),(7,iv 0),(13,fvec x),(14,.ptr 14 0 0 0),(16,.ptr 16 0 0 0),(18,iv (i:Nat)),(19,iv (k:Nat))]∧
   hp=[(14,mblk x.length x.length D),(16,mblk x.length x.length I1),(284,fblk [])]) x.length ?_ ?_ ?_
  ·kernel_rfl
  ·exact⟨0,rfl,Nat.zero_le _,rfl,rfl⟩
  rintro m _ _ ⟨k,rfl,hk,rfl,rfl⟩
  conv=>whnf
  by_cases hlk:k<x.length
  ·have u3:=dlt hlk
   have u4:=winc (i:=k) (by omega)
   obtain⟨w1,w2⟩:=idx_w (i:=i) (k:=k) (c:=x.length) (by omega) (by omega) (by omega)
   have g1:=gD i k hlt hlk
   have g2:=gI i k hlt hlk
   have hix:=idx_lt hlt hlk
   by_cases hik:i=k
   ·have u5:((i:Int)==(k:Int))=true:=beq_iff_eq.2 (by omega)
    rw[if_pos hik]at g1 g2
    (repeat((first|refine step_w1 rfl rfl ?_|refine step_w2 rfl rfl ?_|refine step_i (by kernel_rfl) ?_|refine g_c (by assumption) ?_|refine g_o (op_pickF rfl (ev_ok rfl) (ev_ok rfl)) ?_|refine tst_tt u3 ?_|refine tst_tt u5 ?_|refine g_o (op_lenM rfl rfl rfl (ev_ok rfl) (tgt rfl) rfl) ?_|refine g_o (op_indexN (α:=Rat) (d:=0) rfl (ev_ok rfl) (ev_ok rfl) (tgt rfl) rfl (tgt rfl) rfl (by omega)) ?_|refine g_o (op_loadA rfl (ev_ok rfl) (tgt rfl) rfl (Nat.succ_ne_zero _) rfl) ?_|refine g_o (op_indexM (α:=Rat) (d:=0) rfl (ev_ok rfl) (ev_ok rfl) (tgt rfl) rfl (tgt rfl) rfl (by omega)) ?_|refine⟨_,op_neAgg tabOK goodOK rfl (ev_ok rfl) (ev_ok rfl) rfl rfl rfl rfl (q_eq (g1)) q_guard, ?_⟩|refine⟨_,op_neAgg tabOK goodOK rfl (ev_ok rfl) (ev_ok rfl) rfl rfl rfl rfl (q_eq (g2)) q_guard, ?_⟩|rw[u3]|rw[u5]|rw[u4]|rw[w1]|rw[w2]|rw[Int.toNat_natCast]|rw[Nat.zero_add]);conv=>whnf))
    exact⟨x.length - (k+1),fun k=>k,[0,4,7,13,14,16,18,19],[14,16,284],by omega,by kernel_rfl,k+1,rfl,hlk,rfl,rfl⟩
   ·have u5:((i:Int)==(k:Int))=false:=beq_false_of_ne (by omega)
    rw[if_neg hik]at g1 g2
    (repeat((first|refine step_w1 rfl rfl ?_|refine step_w2 rfl rfl ?_|refine step_i (by kernel_rfl) ?_|refine g_o (op_pickF rfl (ev_ok rfl) (ev_ok rfl)) ?_|refine tst_tt u3 ?_|refine tst_ff u5 ?_|refine g_o (op_lenM rfl rfl rfl (ev_ok rfl) (tgt rfl) rfl) ?_|refine g_o (op_loadA rfl (ev_ok rfl) (tgt rfl) rfl (Nat.succ_ne_zero _) rfl) ?_|refine g_o (op_indexM (α:=Rat) (d:=0) rfl (ev_ok rfl) (ev_ok rfl) (tgt rfl) rfl (tgt rfl) rfl (by omega)) ?_|refine⟨_,op_neAgg tabOK goodOK rfl (ev_ok rfl) (ev_ok rfl) rfl rfl rfl rfl (q_eq (g1)) q_guard, ?_⟩|refine⟨_,op_neAgg tabOK goodOK rfl (ev_ok rfl) (ev_ok rfl) rfl rfl rfl rfl (q_eq (g2)) q_guard, ?_⟩|rw[u3]|rw[u5]|rw[u4]|rw[w1]|rw[w2]|rw[Int.toNat_natCast]|rw[Nat.zero_add]);conv=>whnf))
    exact⟨x.length - (k+1),fun k=>k,[0,4,7,13,14,16,18,19],[14,16,284],by omega,by kernel_rfl,k+1,rfl,hlk,rfl,rfl⟩
  ·have u3:=dge hlk
   (repeat((first|refine tst_ff u3 ?_|refine g_o (op_lenM rfl rfl rfl (ev_ok rfl) (tgt rfl) rfl) ?_|rw[u3]|rw[u2]);conv=>whnf))
   exact⟨x.length - (i+1),fun k=>k,[0,4,7,13,14,16,18],[14,16,284],by omega,by kernel_rfl,i+1,rfl,hlt,rfl,rfl⟩
 have u1:=dge hlt
 clear gD gI hlt
 have b1:decide ((R:Int)≥0)=true:=decide_eq_true (by omega)
 have b2:decide ((R:Int)≤2048)=true:=decide_eq_true (by omega)
 (repeat((first|refine step_w1 rfl rfl ?_|refine step_w2 rfl rfl ?_|refine g_c (by assumption) ?_|refine g_o (op_pickT rfl (ev_ok rfl) (ev_ok rfl)) ?_|refine g_o (op_pickF rfl (ev_ok rfl) (ev_ok rfl)) ?_|rw[beq_self_eq_true]|rw[bne_self_eq_false]|refine tst_ff u1 ?_|refine g_o (op_lenM rfl rfl rfl (ev_ok rfl) (tgt rfl) rfl) ?_|refine g_o (op_loadA rfl (ev_ok rfl) (tgt rfl) rfl (Nat.succ_ne_zero _) rfl) ?_|refine⟨_,op_neAgg tabOK goodOK rfl (ev_ok rfl) (ev_ok rfl) rfl rfl rfl rfl (q_eq (rfl)) q_guard, ?_⟩|rw[u1]|rw[q2]|rw[w1]|rw[Nat.zero_add]);conv=>whnf))
 refine SWx_go hE ?_
 conv=>whnf
 refine g_o (op_make2049 h9 rfl) ?_
 conv=>whnf
 (repeat((first|refine step_w1 rfl rfl ?_|refine g_c (by assumption) ?_|refine g_o (op_pickT rfl (ev_ok rfl) (ev_ok rfl)) ?_|rw[beq_self_eq_true]|rw[b1]|rw[b2]);conv=>whnf));(first|exact Recast.refl _|exact Frz.recast (Recast.refl _) rfl|(refine Frz.one rfl rfl ?_;skip)|(refine Frz.tup ?_;skip))
end Go.Proofs.YtfpagioknjjacaaGreatDoor
