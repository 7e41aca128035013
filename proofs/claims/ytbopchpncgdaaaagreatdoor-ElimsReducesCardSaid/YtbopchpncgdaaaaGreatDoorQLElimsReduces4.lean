/- The texts Bi. -/
import Derived.Test.YtbopchpncgdaaaaGreatDoorQLElimsReduces3
namespace Go.Proofs.YtbopchpncgdaaaaGreatDoor
open Go.Sx
set_option linter.unusedSimpArgs false
set_option linter.unusedVariables false
set_option maxRecDepth 100000
set_option maxHeartbeats 40000000
theorem step_mk {r c t p k:Nat} {w:Mx} (ht:t<r) (hp:p<r) (hk:k<c):stepL r c (mk r c w) t p k=mk r c (clearM (swapRow w p t) t k):=mk_congr fun i q hi hq=>by
 have e:∀x y,x<r→y<c→swapRow (el (mk r c w) c) p t x y=swapRow w p t x y:=fun x y hx hy=>by
  unfold swapRow
  by_cases h1:x=p
  ·rw[if_pos h1,if_pos h1];exact mk_el ht hy
  ·rw[if_neg h1,if_neg h1]
   by_cases h2:x=t
   ·rw[if_pos h2,if_pos h2];exact mk_el hp hy
   ·rw[if_neg h2,if_neg h2];exact mk_el hx hy
 unfold clearM
 rw[e t q ht hq,e t k ht hk,e i q hi hq,e i k hi hk]
theorem r14_Reduce {r c A:Nat} {a:List Rat} (ha:OKM r c a) (sa:Sm A a) (hr:r≤6) (hc:c≤6) (h2:2≤A) (hA:16384*A≤100000000):
  CallOK Tryz.prog 26 [rM r c a] [] (.tup [rM r c (RL r c a),ivec .i64 ((pivL r c a).map ofN)]) [] []:=by
 obtain⟨⟨wf,pf,df⟩,hfin⟩:∃s,redF r c ⟨el a c,[],1⟩=s:=⟨_,rfl⟩
 have e1:RL r c a=mk r c wf:=by unfold RL RW;rw[hfin]
 have e2:pivL r c a=pf:=by unfold pivL;rw[hfin]
 rw[e1,e2]
 have lfin:(pf.map ofN).length=pf.length:=List.length_map _
 refine callF (Z:=[]) tabOK mixedOK Tryz.func26 rfl (by kernel_rfl) (by first|rfl|(simp[keylessL,keyless,keylessL_map, *];done)) (by first|rfl|(simp[keylessL,keyless,keylessL_map, *];done)) (by kernel_rfl) rfl ?_
 intro w0 ρ0 hE
 conv=>whnf
 skip
 refine SWx_adopt (t:=4) (k:=2001) (s:=1) (blk:=iblkM []) rfl rfl rfl ?_
 refine SW_loopN hE (fun k=>k) [1,2,4,5] [1,2,2001] (fun m fr hp=>∃(k:Nat) (w:Mx) (pv:List Nat) (d:Rat),m=c - k∧k≤c∧redF r k ⟨el a c,[],1⟩=⟨w,pv,d⟩∧Sm (4^pv.length*A) (mk r c w)∧fr=[(1,.ptr 1 0 0 0),(2,.ptr 2 0 0 0),(4,.slc 2001 1 0 pv.length),(5,iv (k:Nat))]∧
  hp=[(1,⟨67,true,.one (rC r c (mk r c w))⟩),(2,zR),(2001,iblkM (pv.map ofN))]) c ?_ ?_ ?_
 ·kernel_rfl
 ·exact⟨0,el a c,[],1,rfl,Nat.zero_le _,rfl,by rw[mk_self ha.n];exact Sm_le (by simp) sa,rfl,by rw[mk_self ha.n];rfl⟩
 rintro m _ _ ⟨k,w,pv,d,rfl,hk,hS,sB,rfl,rfl⟩
 have lpm:(pv.map ofN).length=pv.length:=List.length_map _
 conv=>whnf
 by_cases hkc:k<c
 ·have t1:=dlt hkc
  have t2:=winc (i:=k) (by omega)
  have hi:=Inv.red (r:=r) (W:=el a c) k
  rw[hS]at hi
  have hlen:pv.length≤r:=hi.len
  have hsucc:redF r (k+1) ⟨el a c,[],1⟩=colStep r ⟨w,pv,d⟩ k:=by rw[redF_succ,hS]
  have okB:OKM r c (mk r c w):=OKM_mk ha.r ha.c
  have la:=rowsL_len r c (mk r c w)
  have hRe:∀i,i<r→((rowsL r c (mk r c w)).getD i []).getD k 0=w i k∧((rowsL r c (mk r c w)).getD i []).length=c:=fun i hi=>by
   rw[rowsL_get hi];exact⟨(rowL_get hkc).trans (mk_el hi hkc),rowL_len hi okB.n⟩
  have hws:∀i,i<r→fs (w i k)≤4^pv.length*A:=fun i hi=>by have:=el_sm sB okB.n hi hkc;rwa [show el (mk r c w) c i k=w i k from mk_el hi hkc]at this
  have hpw:=pow_le6 A hlen hr
  have hst:=fun p (h1:pv.length<r) (hp:p<r) (hne:w p k≠0)=>r14_step okB sB (t:=pv.length) (p:=p) (k:=k) h1 hp hkc (by rw[show el (mk r c w) c p k=w p k from mk_el hp hkc];exact hne) (by omega)
  have hsm:=fun p (h1:pv.length<r) (hp:p<r)=>stepL_sm (p:=p) okB sB h1 hp hkc
  have w8:IntKind.i64.wrap (((rowsL r c (mk r c w)).length:Int) - 1)=(r:Int) - 1:=by rw[la,wrap_i64 (by omega) (by omega)]
  (repeat((first|refine step_w1 rfl rfl ?_|refine g_o (op_lenM rfl rfl rfl (ev_ok rfl) (tgt rfl) rfl) ?_|rw[t1]|rw[w8]|rw[Nat.zero_add]);conv=>whnf))
  refine SW_loopN hE (fun k=>k) [1,2,4,5,6,7,8] [1,2,2001] (fun m fr hp=>∃(j:Nat) (at_:Int),m=j - pv.length∧pv.length≤j∧j≤r∧((at_= -1∧∀x,j≤x→x<r→w x k=0)∨∃p:Nat,at_=p∧j≤p∧p<r∧w p k≠0∧∀x,j≤x→x<p→w x k=0)∧
   fr=[(1,.ptr 1 0 0 0),(2,.ptr 2 0 0 0),(4,.slc 2001 1 0 pv.length),(5,iv (k:Nat)),(6,iv pv.length),(7,iv at_),(8,iv ((j:Int) - 1))]∧
   hp=[(1,⟨67,true,.one (rC r c (mk r c w))⟩),(2,zR),(2001,iblkM (pv.map ofN))]) (r - pv.length) ?_ ?_ ?_
  ·kernel_rfl
  ·exact⟨r, -1,rfl,hlen,Nat.le_refl _,.inl ⟨rfl,fun x h1 h2=>by omega⟩,rfl,rfl⟩
  rintro m _ _ ⟨j,at_,rfl,hj1,hj2,hat,rfl,rfl⟩
  by_cases hjl:pv.length<j
  ·obtain⟨i,rfl⟩:∃i,j=i+1:=⟨j - 1,by omega⟩
   rw[show(((i+1:Nat):Int) - 1)=(i:Int) by omega]
   have s1:decide ((i:Int)≥(pv.length:Int))=true:=decide_eq_true (by omega)
   have s2:IntKind.i64.wrap ((i:Int) - 1)=(i:Int) - 1:=wrap_i64 (by omega) (by omega)
   obtain⟨g1,g2⟩:=hRe i (by omega)
   have g3:=hws i (by omega)
   have kS:=r3_Sign (w i k) (by have:=(tl_fs (q:=w i k) (Nat.le_refl _)).1;omega)
   rw[←g1]at kS
   have hix:i<(rowsL r c (mk r c w)).length:=by omega
   by_cases hz:w i k=0
   ·have s3:((((rowsL r c (mk r c w)).getD i []).getD k 0).num.sign != 0)=false:=by rw[g1,hz];rfl
    have hat':(at_= -1∧∀x,i≤x→x<r→w x k=0)∨∃p:Nat,at_=p∧i≤p∧p<r∧w p k≠0∧∀x,i≤x→x<p→w x k=0:=by
     rcases hat with⟨h1,h3⟩|⟨p,h1,h3,h4,h5,h6⟩
     ·exact .inl ⟨h1,fun x hx hxr=>by
       by_cases e:x=i
       ·rw[e,hz]
       ·exact h3 x (by omega) hxr⟩
     ·exact .inr ⟨p,h1,by omega,h4,h5,fun x hx hxp=>by
       by_cases e:x=i
       ·rw[e,hz]
       ·exact h6 x (by omega) hxp⟩
    clear hst hsm hRe hws hat
    conv=>whnf
    (repeat((first|refine step_w1 rfl rfl ?_|refine step_w2 rfl rfl ?_|refine g_c (by assumption) ?_|refine g_o (op_indexN (α:=Rat) (d:=0) rfl (ev_ok rfl) (ev_ok rfl) (tgt rfl) rfl (tgt rfl) rfl (by omega)) ?_|refine g_o (op_loadA rfl (ev_ok rfl) (tgt rfl) rfl (Nat.succ_ne_zero _) rfl) ?_|refine g_o (op_indexN (α:=List Rat) (d:=[]) rfl (ev_ok rfl) (ev_ok rfl) (tgt rfl) rfl (tgt rfl) rfl (by omega)) ?_|rw[s1]|rw[s3]|rw[s2]|rw[Nat.zero_add]);conv=>whnf))
    exact⟨i - pv.length,fun k=>k,[1,2,4,5,6,7,8],[1,2,2001],by omega,by kernel_rfl,i,at_,rfl,by omega,by omega,hat',rfl,rfl⟩
   ·have s3:((((rowsL r c (mk r c w)).getD i []).getD k 0).num.sign != 0)=true:=by rw[g1];exact bne_iff_ne.2 fun g=>hz (Rat.num_eq_zero.1 (Int.sign_eq_zero_iff_zero.1 g))
    clear hst hsm hRe hws hat
    conv=>whnf
    (repeat((first|refine step_w1 rfl rfl ?_|refine g_c (by assumption) ?_|refine g_o (op_indexN (α:=Rat) (d:=0) rfl (ev_ok rfl) (ev_ok rfl) (tgt rfl) rfl (tgt rfl) rfl (by omega)) ?_|refine g_o (op_loadA rfl (ev_ok rfl) (tgt rfl) rfl (Nat.succ_ne_zero _) rfl) ?_|refine g_o (op_indexN (α:=List Rat) (d:=[]) rfl (ev_ok rfl) (ev_ok rfl) (tgt rfl) rfl (tgt rfl) rfl (by omega)) ?_|rw[s1]|rw[s3]|rw[s2]|rw[Nat.zero_add]);conv=>whnf))
    exact⟨i - pv.length,fun k=>k,[1,2,4,5,6,7,8],[1,2,2001],by omega,by kernel_rfl,i,(i:Nat),rfl,by omega,by omega,.inr ⟨i,rfl,Nat.le_refl _,by omega,hz,fun x h1 h2=>by omega⟩,rfl,rfl⟩
  ·obtain rfl:j=pv.length:=by omega
   have s1:decide (((pv.length:Int) - 1)≥(pv.length:Int))=false:=decide_eq_false (by omega)
   rcases hat with⟨rfl,h3⟩|⟨p,rfl,h3,h4,h5,h6⟩
   ·have s3:decide ((-1:Int)<0)=true:=rfl
    have hn:redF r (k+1) ⟨el a c,[],1⟩=⟨w,pv,d⟩:=by
     rw[hsucc]
     unfold colStep
     simp only
     rw[pickF_none fun x h1 h2=>h3 x h1 (by omega)]
    clear hst hsm hRe hws
    conv=>whnf
    (repeat((first|refine step_w1 rfl rfl ?_|refine step_w2 rfl rfl ?_|rw[s1]|rw[s3]|rw[t2]);conv=>whnf))
    exact⟨c - (k+1),fun k=>k,[1,2,4,5],[1,2,2001],by omega,by kernel_rfl,k+1,w,pv,d,rfl,hkc,hn,sB,rfl,rfl⟩
   ·have s3:decide ((p:Int)<0)=false:=decide_eq_false (by omega)
    have kst:=hst p (by omega) h4 h5
    have n1:=hsm p (by omega) h4
    rw[step_mk (by omega) h4 hkc]at kst n1
    have hn:redF r (k+1) ⟨el a c,[],1⟩=⟨clearM (swapRow w p pv.length) pv.length k,pv++[k],(if p=pv.length then d else - d)*swapRow w p pv.length pv.length k⟩:=by
     rw[hsucc]
     unfold colStep
     simp only
     rw[pickF_first h3 (by omega) h6 h5]
    have e7:=app_int (l:=pv.map ofN) (x:=(k:Int))
    rw[lpm]at e7
    have e8:(pv++[k]).map ofN=pv.map ofN++[(k:Int)]:=by rw[List.map_append];rfl
    rw[←e8]at e7
    have e9:(pv++[k]).length=pv.length+1:=by rw[List.length_append];rfl
    have n2:Sm (4^(pv++[k]).length*A) (mk r c (clearM (swapRow w p pv.length) pv.length k)):=by
     rw[e9,Nat.pow_succ,Nat.mul_comm (4^_) 4,Nat.mul_assoc];exact n1
    clear hst hsm hRe hws
    conv=>whnf
    (repeat((first|refine step_w2 rfl rfl ?_|refine step_oA (by first|omega|decide|(simp only[tl0,dlen,List.length_replicate,List.length_set,List.length_map,List.length_zipWith,List.length_take,List.length_append,List.length_cons,List.length_nil];omega)) ?_|refine g_c (by assumption) ?_|rw[s1]|rw[s3]|rw[t2]);conv=>whnf))
    refine⟨c - (k+1),renBy [(47,2001)],[1,2,4,5],[1,2,47],by omega,by kernel_rfl,k+1,_,_,_,rfl,hkc,hn,n2,by rw[e9];rfl, ?_⟩
    rw[e7];rfl
 ·have t1:=dge hkc
  obtain rfl:k=c:=by omega
  obtain⟨rfl,rfl,rfl⟩:=St.mk.inj (hS.symm.trans hfin)
  (repeat(first|(refine step_w2 rfl rfl ?_;conv=>whnf)|(rw[t1];conv=>whnf)))
  (first|exact Recast.refl _|exact Frz.recast (Recast.refl _) rfl|(refine Frz.one rfl rfl ?_;skip)|(refine Frz.tup ?_;(repeat(first|exact FrzC.keyless rfl|exact FrzL.nil|refine FrzL.cons ?_ ?_|(refine FrzC.ints rfl ?_;(first|rfl|omega|(simp<;>fail)|(simp<;>omega)))))))
end Go.Proofs.YtbopchpncgdaaaaGreatDoor
