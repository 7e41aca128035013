/- The texts Qz. -/
import Derived.Test.YtbopchpncgdaaaaGreatDoorQLElimsForm1
namespace Go.Sx
set_option linter.unusedSimpArgs false
set_option linter.unusedVariables false
end Go.Sx
namespace Go.Proofs.YtbopchpncgdaaaaGreatDoor
open Go.Sx
set_option linter.unusedSimpArgs false
set_option linter.unusedVariables false
set_option maxRecDepth 100000
set_option maxHeartbeats 40000000
theorem op_appendE {P:Program} {o:Oper} {fr:List (Nat×SV)} {fk:List (Nat×Blk)} {t t2 e:TypeId} {x y:Operand} {xs:Array Operand} {ts:Array TypeId} {ti t0 te:TI} {k kn m:Nat} {d d' d2:Sx.Data} {vs:List SV} (ho:o.op= .call ⟨.builtin .append,xs,ts⟩) (hxs:xs= #[x,y]) (hts:ts= #[t,t2])
  (hx:EvOK fr x (.slc k te.size 0 0)) (hy:EvOK fr y (vecA te.size vs)) (hr2:∀(ρ:Rho) z,HasZ (bareR ρ.imm ρ.glob) vs z→(∀x∈vs,x.width=te.size)→Go.Sx.Rows ρ te.size d2 z) (ht:TOK P t ti) (hk:ti.kind= .slc e) (ht2:TOK P t2 t0) (hk2:t0.kind= .slc e) (he:TOK P e te)
  (hf:(k,⟨e,true,d⟩)∈fk) (hl:d.live=true) (hw:dwidth d=some te.size)
  (hmv:m=vs.length) (hm:0+m≤dlen d2) (hd:dapp d 0 d2 0 m=some d') (hbytes:(0+m)*te.bytes≤140737488355328) (h63:0+m≤9223372036854775807):
  OpOK P o fr fk (.slc kn te.size 0 m) [(kn,⟨e,true,d'⟩)] [(k,⟨e,true,.dead⟩)]:=by
 have:=op_appendV (kn:=kn) ho hxs hts hx hy hr2 ht hk ht2 hk2 he hf hl hw (Nat.zero_le _) hmv hm hd hbytes h63
 rwa [Nat.zero_add]at this
theorem OKM_chg {r c i k:Nat} {a:List Rat} {x:Rat} (ha:OKM r c a):OKM r c (chgL r c a i k x):=OKM_mk ha.r ha.c
theorem chgL_sm {r c i k C B:Nat} {a:List Rat} {x:Rat} (ha:OKM r c a) (sa:Sm B a) (hx:fs x≤C) (hi:i<r) (hk:k<r):Sm (C+2*B) (chgL r c a i k x):=Sm_mk fun b q hb hq=>by
 have h1:=el_sm sa ha.n hi hq
 have h2:=el_sm sa ha.n hk hq
 have h3:=el_sm sa ha.n hb hq
 unfold chgM
 by_cases e:x=0
 ·rw[if_pos e]
  split
  ·omega
  ·split<;>omega
 ·rw[if_neg e]
  by_cases f:i=k
  ·rw[if_pos f]
   split
   ·have:=fs_mul x (el a c i q);omega
   ·omega
  ·rw[if_neg f]
   split
   ·have g1:=fs_mul x (el a c k q)
    have g2:=fs_add (el a c i q) (x*el a c k q)
    omega
   ·omega
theorem c_changed {r c i k B:Nat} {a:List Rat} {x:Rat} (ha:OKM r c a) (sa:Sm B a) (hi:i<r) (hk:k<r) (hr:r≤12) (hc:c≤12) (hB:fs x+2*B≤1073741824):
  CallOK Tryz.prog 36 [mA r c a,iv i,iv k,.frac x] [] (mA r c (chgL r c a i k x)) [] []:=by
 have hal:=ha.n
 have hrc:r*c≤12*12:=Nat.mul_le_mul hr hc
 have hlen:(chgL r c a i k x).length=r*c:=by rw[chgL,mk_len]
 have k1:=c_fSign x
 refine callF (Z:=[4,7]) tabOK mixedOK Tryz.func36 rfl (by kernel_rfl) (by first|rfl|(simp[keylessL,keyless,keylessL_map, *];done)) (by first|rfl|(simp[keylessL,keyless,keylessL_map, *];done)) (by kernel_rfl) rfl ?_
 intro w0 ρ0 hE
 conv=>whnf
 (repeat(first|(refine step_i (by kernel_rfl) ?_;conv=>whnf)|(refine g_o (op_loadA rfl (ev_ok rfl) (tgt rfl) rfl (Nat.succ_ne_zero _) rfl) ?_;conv=>whnf)|(refine g_o (op_fieldA rfl (ev_ok rfl) (tgt rfl) rfl rfl (Nat.succ_ne_zero _) rfl) ?_;conv=>whnf)|(refine⟨.slc 20 5 0 (r*c),[(17,fblk [])],[(20,fblk a)],[(17,⟨53,true,.dead⟩)],op_appendE rfl rfl rfl (ev_ok rfl) (ev_ok rfl) (rows_fracs a) (tabOK.get (t:=22) rfl) rfl (tabOK.get (t:=22) rfl) rfl (tabOK.get (t:=53) rfl) (List.mem_cons_self ..) rfl rfl (by simp[hal]) (by simp[dlen,hal]) (by simp[dapp];exact List.take_of_length_le (Nat.le_of_eq hal)) (by show(0+_)*ti53.bytes≤_;simp only[tiB53];omega) (by omega),one_fk rfl,one_new rfl,one_upd (List.mem_cons_self ..) rfl rfl rfl, ?_⟩;conv=>whnf)))
 refine SW_loopN hE (fun k=>k) [1,2,4,7,8,9,10] [8,9,20] (fun m fr hp=>∃p:Nat,m=c - p∧p≤c∧fr=[(1,iv i),(2,iv k),(4,ptrA (mC r c a)),(7,ptrA [.frac x]),(8,.ptr 8 0 0 0),(9,.ptr 9 0 0 0),(10,iv p)]∧
  hp=[(8,zM),(9,⟨24,true,.one [iv r,iv c,.slc 20 5 0 (r*c)]⟩),(20,fblk (mk r c (chgP (el a c) i k x p)))]) c ?_ ?_ ?_
 ·kernel_rfl
 ·exact⟨0,rfl,Nat.zero_le _,rfl,by rw[chgP_zero hal];rfl⟩
 rintro m _ _ ⟨p,rfl,hp,rfl,rfl⟩
 have hL:(mk r c (chgP (el a c) i k x p)).length=r*c:=by rw[mk_len]
 conv=>whnf
 by_cases hlt:p<c
 ·have t1:=dlt hlt
  have t2:=winc (i:=p) (by omega)
  obtain⟨w1,w2⟩:=idx_w (i:=i) (k:=p) (c:=c) (by omega) (by omega) (by omega)
  obtain⟨w3,w4⟩:=idx_w (i:=k) (k:=p) (c:=c) (by omega) (by omega) (by omega)
  have b1:=idx_lt hi hlt
  have b2:=idx_lt hk hlt
  have s1:=el_sm sa hal hi hlt
  have s2:=el_sm sa hal hk hlt
  have b3:i*c+p<a.length:=by omega
  have b4:k*c+p<a.length:=by omega
  by_cases e:x=0
  ·subst e
   have t3:(((0:Rat).num.sign==0)=true):=rfl
   have hn:=chg_swap (a:=a) hi hk hlt
   generalize mk r c (chgP (el a c) i k 0 p)=L at*
   (repeat((first|refine step_w1 rfl rfl ?_|refine step_i (by kernel_rfl) ?_|refine step_oL (by first|omega|decide|(simp only[tl0,dlen,List.length_replicate,List.length_set,List.length_map,List.length_zipWith,List.length_take,List.length_append,List.length_cons,List.length_nil];omega)) ?_|refine step_oA (by first|omega|decide|(simp only[tl0,dlen,List.length_replicate,List.length_set,List.length_map,List.length_zipWith,List.length_take,List.length_append,List.length_cons,List.length_nil];omega)) ?_|refine g_c (by assumption) ?_|refine tst_tt t1 ?_|refine g_o (op_loadA rfl (ev_ok rfl) (tgt rfl) rfl (Nat.succ_ne_zero _) rfl) ?_|refine g_o (op_indexM (α:=Rat) (d:=0) rfl (ev_ok rfl) (ev_ok rfl) (tgt rfl) rfl (tgt rfl) rfl (by omega)) ?_|refine g_o (op_fieldA rfl (ev_ok rfl) (tgt rfl) rfl rfl (Nat.succ_ne_zero _) rfl) ?_|rw[t1]|rw[t2]|rw[t3]|rw[w1]|rw[w2]|rw[w3]|rw[w4]|rw[Int.toNat_natCast]|rw[Nat.zero_add]);conv=>whnf))
   exact⟨c - (p+1),fun k=>k,[1,2,4,7,8,9,10],[8,9,20],by omega,by kernel_rfl,p+1,rfl,hlt,rfl,by rw[←hn];rfl⟩
  ·have t3:(x.num.sign==0)=false:=beq_eq_false_iff_ne.2 fun g=>e (Rat.num_eq_zero.1 (Int.sign_eq_zero_iff_zero.1 g))
   by_cases f:i=k
   ·subst f
    have t4:((i:Int)==(i:Int))=true:=beq_self_eq_true _
    have hn:=chg_scale (a:=a) hi hlt e
    have k2:=f_Mul x (el a c i p) (by omega)
    generalize mk r c (chgP (el a c) i i x p)=L at*
    (repeat((first|refine step_w1 rfl rfl ?_|refine step_i (by kernel_rfl) ?_|refine step_oL (by first|omega|decide|(simp only[tl0,dlen,List.length_replicate,List.length_set,List.length_map,List.length_zipWith,List.length_take,List.length_append,List.length_cons,List.length_nil];omega)) ?_|refine step_oA (by first|omega|decide|(simp only[tl0,dlen,List.length_replicate,List.length_set,List.length_map,List.length_zipWith,List.length_take,List.length_append,List.length_cons,List.length_nil];omega)) ?_|refine g_c (by assumption) ?_|rw[beq_self_eq_true]|refine tst_tt t1 ?_|refine tst_ff t3 ?_|refine g_o (op_loadA rfl (ev_ok rfl) (tgt rfl) rfl (Nat.succ_ne_zero _) rfl) ?_|refine g_o (op_indexM (α:=Rat) (d:=0) rfl (ev_ok rfl) (ev_ok rfl) (tgt rfl) rfl (tgt rfl) rfl (by omega)) ?_|refine g_o (op_fieldA rfl (ev_ok rfl) (tgt rfl) rfl rfl (Nat.succ_ne_zero _) rfl) ?_|rw[t1]|rw[t2]|rw[t3]|rw[w1]|rw[w2]|rw[Int.toNat_natCast]|rw[Nat.zero_add]);conv=>whnf))
    exact⟨c - (p+1),fun k=>k,[1,2,4,7,8,9,10],[8,9,20],by omega,by kernel_rfl,p+1,rfl,hlt,rfl,by rw[←hn];rfl⟩
   ·have t4:((i:Int)==(k:Int))=false:=beq_eq_false_iff_ne.2 (by omega)
    have hn:=chg_addm (a:=a) hi hlt e f
    have k2:=f_Mul x (el a c k p) (by omega)
    have s3:=fs_mul x (el a c k p)
    have k3:=f_Add (el a c i p) (x*el a c k p) (by omega)
    generalize mk r c (chgP (el a c) i k x p)=L at*
    (repeat((first|refine step_i (by kernel_rfl) ?_|refine step_oL (by first|omega|decide|(simp only[tl0,dlen,List.length_replicate,List.length_set,List.length_map,List.length_zipWith,List.length_take,List.length_append,List.length_cons,List.length_nil];omega)) ?_|refine step_oA (by first|omega|decide|(simp only[tl0,dlen,List.length_replicate,List.length_set,List.length_map,List.length_zipWith,List.length_take,List.length_append,List.length_cons,List.length_nil];omega)) ?_|refine g_c (by assumption) ?_|refine tst_tt t1 ?_|refine tst_ff t3 ?_|refine tst_ff t4 ?_|refine g_o (op_loadA rfl (ev_ok rfl) (tgt rfl) rfl (Nat.succ_ne_zero _) rfl) ?_|refine g_o (op_indexM (α:=Rat) (d:=0) rfl (ev_ok rfl) (ev_ok rfl) (tgt rfl) rfl (tgt rfl) rfl (by omega)) ?_|refine g_o (op_fieldA rfl (ev_ok rfl) (tgt rfl) rfl rfl (Nat.succ_ne_zero _) rfl) ?_|rw[t1]|rw[t2]|rw[t3]|rw[t4]|rw[w1]|rw[w2]|rw[w3]|rw[w4]|rw[Int.toNat_natCast]|rw[Nat.zero_add]);conv=>whnf))
    exact⟨c - (p+1),fun k=>k,[1,2,4,7,8,9,10],[8,9,20],by omega,by kernel_rfl,p+1,rfl,hlt,rfl,by rw[←hn];rfl⟩
 ·have t1:=dge hlt
  obtain rfl:p=c:=by omega
  rw[chgP_end]at*
  (repeat(first|(refine tst_ff t1 ?_;conv=>whnf)|(refine g_o (op_loadA rfl (ev_ok rfl) (tgt rfl) rfl (Nat.succ_ne_zero _) rfl) ?_;conv=>whnf)|(refine g_o (op_fieldA rfl (ev_ok rfl) (tgt rfl) rfl rfl (Nat.succ_ne_zero _) rfl) ?_;conv=>whnf)))
  (first|exact Recast.refl _|exact Frz.recast (Recast.refl _) rfl|(refine Frz.one rfl rfl ?_;(repeat(first|exact FrzC.keyless rfl|exact FrzL.nil|refine FrzL.cons ?_ ?_|(refine FrzC.fracs rfl ?_;(first|rfl|omega|(simp<;>fail)|(simp<;>omega)))|refine FrzC.agg ?_)))|(refine Frz.tup ?_;skip))
end Go.Proofs.YtbopchpncgdaaaaGreatDoor
