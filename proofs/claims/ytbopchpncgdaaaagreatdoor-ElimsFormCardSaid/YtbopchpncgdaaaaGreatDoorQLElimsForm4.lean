/- The texts Bk. -/
import Derived.Test.YtbopchpncgdaaaaGreatDoorQLElimsForm3
namespace Go.Proofs.YtbopchpncgdaaaaGreatDoor
open Go.Sx
set_option linter.unusedSimpArgs false
set_option linter.unusedVariables false
set_option maxRecDepth 100000
set_option maxHeartbeats 40000000
theorem c_reduced {r c:Nat} {w:Mx} {sp:List Nat} (h:RE r c w sp) (hr:r≤12) (hc:c≤12):CallOK Tryz.prog 34 [mA r c (mk r c w),ivec .i64 (sp.map ofN)] [] (.val (.bool true)) [] []:=by
 have hlp:(sp.map ofN).length=sp.length:=List.length_map _
 have hpg:=fun j (hj:j<sp.length)=>pv_get (sp:=sp) hj
 have hX:∀i k,i<r→k<c→(mk r c w).getD (i*c+k) 0=w i k:=fun i k hi hk=>mk_el hi hk
 have hXl:(mk r c w).length=r*c:=mk_len ..
 have hrc:r*c≤12*12:=Nat.mul_le_mul hr hc
 have hle:=h.len
 have hle2:=h.le
 have w0:IntKind.i64.wrap ((r:Int)*(c:Int))=((r*c:Nat):Int):=(idx_w (i:=r) (k:=0) (c:=c) (by omega) (by omega) (by omega)).1
 generalize mk r c w=M at*
 generalize sp.map ofN=P at*
 have t0:decide ((P.length:Int)>(r:Int))=false:=decide_eq_false (by omega)
 have t1:((M.length:Int) != ((r*c:Nat):Int))=false:=by rw[hXl];exact bne_self_eq_false _
 have ki:CallOK Tryz.prog 41 [iv 1] [] (.frac 1) [] []:=c_fInt 1 (by decide) (by decide)
 refine callV (Z:=[2,100010,100015]) tabOK mixedOK Tryz.func34 rfl (by kernel_rfl) rfl rfl (by kernel_rfl) rfl ?_
 intro W0 w0' ρ0 hE
 conv=>whnf
 (repeat((first|refine step_w1 rfl rfl ?_|refine g_o (op_pickF rfl (ev_ok rfl) (ev_ok rfl)) ?_|refine tst_ff t1 ?_|refine g_o (op_lenM rfl rfl rfl (ev_ok rfl) (tgt rfl) rfl) ?_|refine g_o (op_loadA rfl (ev_ok rfl) (tgt rfl) rfl (Nat.succ_ne_zero _) rfl) ?_|refine g_o (op_fieldA rfl (ev_ok rfl) (tgt rfl) rfl rfl (Nat.succ_ne_zero _) rfl) ?_|rw[t0]|rw[t1]|rw[w0]);conv=>whnf))
 refine SW_loopN hE (fun k=>k) [1,2,5] [] (fun m fr hp=>∃i:Nat,m=r - i∧i≤r∧fr=[(1,ivec .i64 P),(2,ptrA (mC r c M)),(5,iv i)]∧hp=[]) r ?_ ?_ ?_
 ·kernel_rfl
 ·exact⟨0,rfl,Nat.zero_le _,rfl,rfl⟩
 rintro m _ _ ⟨i,rfl,hi,rfl,rfl⟩
 conv=>whnf
 by_cases hlt:i<r
 ·have t2:=dlt hlt
  have t3:=winc (i:=i) (by omega)
  (repeat((first|refine tst_tt t2 ?_|refine g_o (op_loadA rfl (ev_ok rfl) (tgt rfl) rfl (Nat.succ_ne_zero _) rfl) ?_|refine g_o (op_fieldA rfl (ev_ok rfl) (tgt rfl) rfl rfl (Nat.succ_ne_zero _) rfl) ?_|rw[t2]);conv=>whnf))
  refine SW_loopN hE (fun k=>k) [1,2,5,6] [] (fun m fr hp=>∃k:Nat,m=c - k∧k≤c∧fr=[(1,ivec .i64 P),(2,ptrA (mC r c M)),(5,iv i),(6,iv k)]∧hp=[]) c ?_ ?_ ?_
  ·kernel_rfl
  ·exact⟨0,rfl,Nat.zero_le _,rfl,rfl⟩
  rintro m _ _ ⟨k,rfl,hk,rfl,rfl⟩
  conv=>whnf
  by_cases hkc:k<c
  ·have t4:=dlt hkc
   have t5:=winc (i:=k) (by omega)
   obtain⟨w1,w2⟩:=idx_w (i:=i) (k:=k) (c:=c) (by omega) (by omega) (by omega)
   have hix:=idx_lt hlt hkc
   have b1:i*c+k<M.length:=by omega
   have hx:=hX i k hlt hkc
   have hpp:=hpg
   have hL3:∀p,p<sp.length→sp.getD p 0=k→p≠i→M.getD (i*c+k) 0=0:=fun p hp e hne=>by
    have:=h.unit p hp i hlt
    rw[e,if_neg (Ne.symm hne)]at this
    rw[hx,this]
   by_cases hip:i<sp.length
   ·have t6:decide ((i:Int)≥(P.length:Int))=false:=decide_eq_false (by omega)
    have t7:=dlt (show i<P.length by omega)
    have g1:=hpg i hip
    have hiP:i<P.length:=by omega
    rcases Nat.lt_trichotomy k (sp.getD i 0)with g|g|g
    ·have hx0:M.getD (i*c+k) 0=0:=by rw[hx];exact h.left i hip k g
     obtain⟨y,hy⟩:∃y,sp.getD i 0=y:=⟨_,rfl⟩
     rw[hy]at g1 g
     have t8:=dlt g
     have t9:((k:Int)==(y:Int))=false:=beq_eq_false_iff_ne.2 (by omega)
     clear hX hx
     (repeat((first|refine tst_tt t4 ?_|refine g_o (op_loadA rfl (ev_ok rfl) (tgt rfl) rfl (Nat.succ_ne_zero _) rfl) ?_|refine g_o (op_indexM (α:=Rat) (d:=0) rfl (ev_ok rfl) (ev_ok rfl) (tgt rfl) rfl (tgt rfl) rfl (by omega)) ?_|refine g_o (op_fieldA rfl (ev_ok rfl) (tgt rfl) rfl rfl (Nat.succ_ne_zero _) rfl) ?_|rw[t4]|rw[w1]|rw[w2]|rw[Int.toNat_natCast]);conv=>whnf))
     refine SWx_then (fr1:= ?frh1) (hp1:= ?hph1) (fun K hK=>SWx_go hE ?rah1) ?rbh1
     case rah1=>
      conv=>whnf
      (repeat((first|refine step_w1 rfl rfl ?_|refine step_i (by kernel_rfl) ?_|refine g_o (op_pickT rfl (ev_ok rfl) (ev_ok rfl)) ?_|refine g_o (op_pickF rfl (ev_ok rfl) (ev_ok rfl)) ?_|refine tst_ff t6 ?_|refine tst_tt t7 ?_|refine tst_tt t8 ?_|refine tst_ff t9 ?_|refine g_o (op_lenM rfl rfl rfl (ev_ok rfl) (tgt rfl) rfl) ?_|refine g_o (op_loadA rfl (ev_ok rfl) (tgt rfl) rfl (Nat.succ_ne_zero _) rfl) ?_|refine g_o (op_indexN (α:=Int) (d:=0) rfl (ev_ok rfl) (ev_ok rfl) (tgt rfl) rfl (tgt rfl) rfl (by omega)) ?_|refine⟨_,op_neAgg tabOK goodOK rfl (ev_ok rfl) (ev_ok rfl) rfl rfl rfl rfl (q_eq (hx0)) q_guard, ?_⟩|rw[t6]|rw[t7]|rw[g1]|rw[t8]|rw[t9]);conv=>whnf))
      exact hK
     conv=>whnf
     (repeat(first|(refine step_w2 rfl rfl ?_;conv=>whnf)))
     refine SW_loopN hE (fun k=>k) [1,2,5,6,7,8] [7] (fun m fr hp=>∃p:Nat,m=sp.length - p∧p≤sp.length∧fr=[(1,ivec .i64 P),(2,ptrA (mC r c M)),(5,iv i),(6,iv k),(7,.ptr 7 0 0 0),(8,iv p)]∧hp=[(7,⟨53,true,.one [.frac (M.getD (i*c+k) 0)]⟩)]) sp.length ?_ ?_ ?_
     ·kernel_rfl
     ·exact⟨0,rfl,Nat.zero_le _,rfl,rfl⟩
     rintro m _ _ ⟨p,rfl,hp,rfl,rfl⟩
     conv=>whnf
     by_cases hps:p<sp.length
     ·have s1:=dlt (show p<P.length by omega)
      have s2:=winc (i:=p) (by omega)
      have s3:P.getD p 0=((sp.getD p 0:Nat):Int):=hpp p hps
      have b2:p<P.length:=by omega
      by_cases e:sp.getD p 0=k
      ·have s4:((k:Int)==(k:Int))=true:=beq_self_eq_true _
       rw[e]at s3
       by_cases f:p=i
       ·have s5:((p:Int) != (i:Int))=false:=by rw[f];exact bne_self_eq_false _
        clear hpp hL3
        (repeat(first|(refine tst_tt s1 ?_;conv=>whnf)|(refine g_o (op_lenM rfl rfl rfl (ev_ok rfl) (tgt rfl) rfl) ?_;conv=>whnf)|(rw[s1];conv=>whnf)))
        refine SWx_then (fr1:= ?frah1) (hp1:= ?hpah1) (fun K hK=>SWx_go hE ?raah1) ?rbah1
        case raah1=>
         conv=>whnf
         (repeat((first|refine step_w1 rfl rfl ?_|refine g_o (op_pickT rfl (ev_ok rfl) (ev_ok rfl)) ?_|refine g_o (op_pickF rfl (ev_ok rfl) (ev_ok rfl)) ?_|rw[beq_self_eq_true]|refine tst_ff s5 ?_|refine g_o (op_loadA rfl (ev_ok rfl) (tgt rfl) rfl (Nat.succ_ne_zero _) rfl) ?_|refine g_o (op_indexN (α:=Int) (d:=0) rfl (ev_ok rfl) (ev_ok rfl) (tgt rfl) rfl (tgt rfl) rfl (by omega)) ?_|rw[s3]|rw[s5]);conv=>whnf))
         exact hK
        conv=>whnf
        (repeat(first|(refine step_w2 rfl rfl ?_;conv=>whnf)|(rw[s2];conv=>whnf)))
        exact⟨sp.length - (p+1),fun k=>k,[1,2,5,6,7,8],[7],by omega,by kernel_rfl,p+1,rfl,hps,rfl,rfl⟩
       ·have s5:((p:Int) != (i:Int))=true:=bne_iff_ne.2 (by omega)
        have hz:=hL3 p hps e f
        clear hpp hL3
        (repeat(first|(refine tst_tt s1 ?_;conv=>whnf)|(refine g_o (op_lenM rfl rfl rfl (ev_ok rfl) (tgt rfl) rfl) ?_;conv=>whnf)|(rw[s1];conv=>whnf)))
        refine SWx_then (fr1:= ?frbh1) (hp1:= ?hpbh1) (fun K hK=>SWx_go hE ?rabh1) ?rbbh1
        case rabh1=>
         conv=>whnf
         (repeat((first|refine step_w1 rfl rfl ?_|refine g_o (op_pickT rfl (ev_ok rfl) (ev_ok rfl)) ?_|rw[beq_self_eq_true]|refine tst_tt s5 ?_|refine g_o (op_loadA rfl (ev_ok rfl) (tgt rfl) rfl (Nat.succ_ne_zero _) rfl) ?_|refine g_o (op_indexN (α:=Int) (d:=0) rfl (ev_ok rfl) (ev_ok rfl) (tgt rfl) rfl (tgt rfl) rfl (by omega)) ?_|refine⟨_,op_neAgg tabOK goodOK rfl (ev_ok rfl) (ev_ok rfl) rfl rfl rfl rfl (q_eq (hz)) q_guard, ?_⟩|rw[s3]|rw[s5]);conv=>whnf))
         exact hK
        conv=>whnf
        (repeat(first|(refine step_w2 rfl rfl ?_;conv=>whnf)|(rw[s2];conv=>whnf)))
        exact⟨sp.length - (p+1),fun k=>k,[1,2,5,6,7,8],[7],by omega,by kernel_rfl,p+1,rfl,hps,rfl,rfl⟩
      ·clear hpp hL3
       generalize sp.getD p 0=z at*
       have s4:((z:Int)==(k:Int))=false:=beq_eq_false_iff_ne.2 (by omega)
       (repeat(first|(refine tst_tt s1 ?_;conv=>whnf)|(refine g_o (op_lenM rfl rfl rfl (ev_ok rfl) (tgt rfl) rfl) ?_;conv=>whnf)|(rw[s1];conv=>whnf)))
       refine SWx_then (fr1:= ?frch1) (hp1:= ?hpch1) (fun K hK=>SWx_go hE ?rach1) ?rbch1
       case rach1=>
        conv=>whnf
        (repeat((first|refine step_w2 rfl rfl ?_|refine g_o (op_pickF rfl (ev_ok rfl) (ev_ok rfl)) ?_|refine tst_ff s4 ?_|refine g_o (op_loadA rfl (ev_ok rfl) (tgt rfl) rfl (Nat.succ_ne_zero _) rfl) ?_|refine g_o (op_indexN (α:=Int) (d:=0) rfl (ev_ok rfl) (ev_ok rfl) (tgt rfl) rfl (tgt rfl) rfl (by omega)) ?_|rw[s3]|rw[s4]);conv=>whnf))
        exact hK
       conv=>whnf
       (repeat(first|(refine step_w2 rfl rfl ?_;conv=>whnf)|(rw[s2];conv=>whnf)))
       exact⟨sp.length - (p+1),fun k=>k,[1,2,5,6,7,8],[7],by omega,by kernel_rfl,p+1,rfl,hps,rfl,rfl⟩
     ·have s1:=dge (show ¬p<P.length by omega)
      (repeat((first|refine tst_ff s1 ?_|refine g_o (op_lenM rfl rfl rfl (ev_ok rfl) (tgt rfl) rfl) ?_|rw[s1]|rw[t5]);conv=>whnf))
      exact⟨c - (k+1),fun k=>k,[1,2,5,6],[],by omega,by kernel_rfl,k+1,rfl,hkc,rfl,rfl⟩
    ·have hx1:M.getD (i*c+k) 0=1:=by rw[hx,g,h.unit i hip i hlt,if_pos rfl]
     obtain⟨y,hy⟩:∃y,sp.getD i 0=y:=⟨_,rfl⟩
     rw[hy]at g1 g
     have t8:=dge (show ¬k<y by omega)
     have t9:((k:Int)==(y:Int))=true:=by rw[g];exact beq_self_eq_true _
     clear hX hx
     (repeat((first|refine tst_tt t4 ?_|refine g_o (op_loadA rfl (ev_ok rfl) (tgt rfl) rfl (Nat.succ_ne_zero _) rfl) ?_|refine g_o (op_indexM (α:=Rat) (d:=0) rfl (ev_ok rfl) (ev_ok rfl) (tgt rfl) rfl (tgt rfl) rfl (by omega)) ?_|refine g_o (op_fieldA rfl (ev_ok rfl) (tgt rfl) rfl rfl (Nat.succ_ne_zero _) rfl) ?_|rw[t4]|rw[w1]|rw[w2]|rw[Int.toNat_natCast]);conv=>whnf))
     refine SWx_then (fr1:= ?frh2) (hp1:= ?hph2) (fun K hK=>SWx_go hE ?rah2) ?rbh2
     case rah2=>
      conv=>whnf
      (repeat((first|refine step_w1 rfl rfl ?_|refine step_i (by kernel_rfl) ?_|refine g_c (by assumption) ?_|refine g_o (op_pickT rfl (ev_ok rfl) (ev_ok rfl)) ?_|refine g_o (op_pickF rfl (ev_ok rfl) (ev_ok rfl)) ?_|refine tst_ff t6 ?_|refine tst_tt t7 ?_|refine tst_ff t8 ?_|refine tst_tt t9 ?_|refine g_o (op_lenM rfl rfl rfl (ev_ok rfl) (tgt rfl) rfl) ?_|refine g_o (op_loadA rfl (ev_ok rfl) (tgt rfl) rfl (Nat.succ_ne_zero _) rfl) ?_|refine g_o (op_indexN (α:=Int) (d:=0) rfl (ev_ok rfl) (ev_ok rfl) (tgt rfl) rfl (tgt rfl) rfl (by omega)) ?_|refine⟨_,op_neAgg tabOK goodOK rfl (ev_ok rfl) (ev_ok rfl) rfl rfl rfl rfl (q_eq (hx1)) q_guard, ?_⟩|rw[t6]|rw[t7]|rw[g1]|rw[t8]|rw[t9]);conv=>whnf))
      exact hK
     conv=>whnf
     (repeat(first|(refine step_w2 rfl rfl ?_;conv=>whnf)))
     refine SW_loopN hE (fun k=>k) [1,2,5,6,7,8] [7] (fun m fr hp=>∃p:Nat,m=sp.length - p∧p≤sp.length∧fr=[(1,ivec .i64 P),(2,ptrA (mC r c M)),(5,iv i),(6,iv k),(7,.ptr 7 0 0 0),(8,iv p)]∧hp=[(7,⟨53,true,.one [.frac (M.getD (i*c+k) 0)]⟩)]) sp.length ?_ ?_ ?_
     ·kernel_rfl
     ·exact⟨0,rfl,Nat.zero_le _,rfl,rfl⟩
     rintro m _ _ ⟨p,rfl,hp,rfl,rfl⟩
     conv=>whnf
     by_cases hps:p<sp.length
     ·have s1:=dlt (show p<P.length by omega)
      have s2:=winc (i:=p) (by omega)
      have s3:P.getD p 0=((sp.getD p 0:Nat):Int):=hpp p hps
      have b2:p<P.length:=by omega
      by_cases e:sp.getD p 0=k
      ·have s4:((k:Int)==(k:Int))=true:=beq_self_eq_true _
       rw[e]at s3
       by_cases f:p=i
       ·have s5:((p:Int) != (i:Int))=false:=by rw[f];exact bne_self_eq_false _
        clear hpp hL3
        (repeat(first|(refine tst_tt s1 ?_;conv=>whnf)|(refine g_o (op_lenM rfl rfl rfl (ev_ok rfl) (tgt rfl) rfl) ?_;conv=>whnf)|(rw[s1];conv=>whnf)))
        refine SWx_then (fr1:= ?frah2) (hp1:= ?hpah2) (fun K hK=>SWx_go hE ?raah2) ?rbah2
        case raah2=>
         conv=>whnf
         (repeat((first|refine step_w1 rfl rfl ?_|refine g_o (op_pickT rfl (ev_ok rfl) (ev_ok rfl)) ?_|refine g_o (op_pickF rfl (ev_ok rfl) (ev_ok rfl)) ?_|rw[beq_self_eq_true]|refine tst_ff s5 ?_|refine g_o (op_loadA rfl (ev_ok rfl) (tgt rfl) rfl (Nat.succ_ne_zero _) rfl) ?_|refine g_o (op_indexN (α:=Int) (d:=0) rfl (ev_ok rfl) (ev_ok rfl) (tgt rfl) rfl (tgt rfl) rfl (by omega)) ?_|rw[s3]|rw[s5]);conv=>whnf))
         exact hK
        conv=>whnf
        (repeat(first|(refine step_w2 rfl rfl ?_;conv=>whnf)|(rw[s2];conv=>whnf)))
        exact⟨sp.length - (p+1),fun k=>k,[1,2,5,6,7,8],[7],by omega,by kernel_rfl,p+1,rfl,hps,rfl,rfl⟩
       ·have s5:((p:Int) != (i:Int))=true:=bne_iff_ne.2 (by omega)
        have hz:=hL3 p hps e f
        clear hpp hL3
        (repeat(first|(refine tst_tt s1 ?_;conv=>whnf)|(refine g_o (op_lenM rfl rfl rfl (ev_ok rfl) (tgt rfl) rfl) ?_;conv=>whnf)|(rw[s1];conv=>whnf)))
        refine SWx_then (fr1:= ?frbh2) (hp1:= ?hpbh2) (fun K hK=>SWx_go hE ?rabh2) ?rbbh2
        case rabh2=>
         conv=>whnf
         (repeat((first|refine step_w1 rfl rfl ?_|refine g_o (op_pickT rfl (ev_ok rfl) (ev_ok rfl)) ?_|rw[beq_self_eq_true]|refine tst_tt s5 ?_|refine g_o (op_loadA rfl (ev_ok rfl) (tgt rfl) rfl (Nat.succ_ne_zero _) rfl) ?_|refine g_o (op_indexN (α:=Int) (d:=0) rfl (ev_ok rfl) (ev_ok rfl) (tgt rfl) rfl (tgt rfl) rfl (by omega)) ?_|refine⟨_,op_neAgg tabOK goodOK rfl (ev_ok rfl) (ev_ok rfl) rfl rfl rfl rfl (q_eq (hz)) q_guard, ?_⟩|rw[s3]|rw[s5]);conv=>whnf))
         exact hK
        conv=>whnf
        (repeat(first|(refine step_w2 rfl rfl ?_;conv=>whnf)|(rw[s2];conv=>whnf)))
        exact⟨sp.length - (p+1),fun k=>k,[1,2,5,6,7,8],[7],by omega,by kernel_rfl,p+1,rfl,hps,rfl,rfl⟩
      ·clear hpp hL3
       generalize sp.getD p 0=z at*
       have s4:((z:Int)==(k:Int))=false:=beq_eq_false_iff_ne.2 (by omega)
       (repeat(first|(refine tst_tt s1 ?_;conv=>whnf)|(refine g_o (op_lenM rfl rfl rfl (ev_ok rfl) (tgt rfl) rfl) ?_;conv=>whnf)|(rw[s1];conv=>whnf)))
       refine SWx_then (fr1:= ?frch2) (hp1:= ?hpch2) (fun K hK=>SWx_go hE ?rach2) ?rbch2
       case rach2=>
        conv=>whnf
        (repeat((first|refine step_w2 rfl rfl ?_|refine g_o (op_pickF rfl (ev_ok rfl) (ev_ok rfl)) ?_|refine tst_ff s4 ?_|refine g_o (op_loadA rfl (ev_ok rfl) (tgt rfl) rfl (Nat.succ_ne_zero _) rfl) ?_|refine g_o (op_indexN (α:=Int) (d:=0) rfl (ev_ok rfl) (ev_ok rfl) (tgt rfl) rfl (tgt rfl) rfl (by omega)) ?_|rw[s3]|rw[s4]);conv=>whnf))
        exact hK
       conv=>whnf
       (repeat(first|(refine step_w2 rfl rfl ?_;conv=>whnf)|(rw[s2];conv=>whnf)))
       exact⟨sp.length - (p+1),fun k=>k,[1,2,5,6,7,8],[7],by omega,by kernel_rfl,p+1,rfl,hps,rfl,rfl⟩
     ·have s1:=dge (show ¬p<P.length by omega)
      (repeat((first|refine tst_ff s1 ?_|refine g_o (op_lenM rfl rfl rfl (ev_ok rfl) (tgt rfl) rfl) ?_|rw[s1]|rw[t5]);conv=>whnf))
      exact⟨c - (k+1),fun k=>k,[1,2,5,6],[],by omega,by kernel_rfl,k+1,rfl,hkc,rfl,rfl⟩
    ·obtain⟨y,hy⟩:∃y,sp.getD i 0=y:=⟨_,rfl⟩
     rw[hy]at g1 g
     have t8:=dge (show ¬k<y by omega)
     have t9:((k:Int)==(y:Int))=false:=beq_eq_false_iff_ne.2 (by omega)
     clear hX hx
     (repeat((first|refine tst_tt t4 ?_|refine g_o (op_loadA rfl (ev_ok rfl) (tgt rfl) rfl (Nat.succ_ne_zero _) rfl) ?_|refine g_o (op_indexM (α:=Rat) (d:=0) rfl (ev_ok rfl) (ev_ok rfl) (tgt rfl) rfl (tgt rfl) rfl (by omega)) ?_|refine g_o (op_fieldA rfl (ev_ok rfl) (tgt rfl) rfl rfl (Nat.succ_ne_zero _) rfl) ?_|rw[t4]|rw[w1]|rw[w2]|rw[Int.toNat_natCast]);conv=>whnf))
     refine SWx_then (fr1:= ?frh3) (hp1:= ?hph3) (fun K hK=>SWx_go hE ?rah3) ?rbh3
     case rah3=>
      conv=>whnf
      (repeat((first|refine step_w1 rfl rfl ?_|refine step_i (by kernel_rfl) ?_|refine g_o (op_pickT rfl (ev_ok rfl) (ev_ok rfl)) ?_|refine g_o (op_pickF rfl (ev_ok rfl) (ev_ok rfl)) ?_|refine tst_ff t6 ?_|refine tst_tt t7 ?_|refine tst_ff t8 ?_|refine tst_ff t9 ?_|refine g_o (op_lenM rfl rfl rfl (ev_ok rfl) (tgt rfl) rfl) ?_|refine g_o (op_loadA rfl (ev_ok rfl) (tgt rfl) rfl (Nat.succ_ne_zero _) rfl) ?_|refine g_o (op_indexN (α:=Int) (d:=0) rfl (ev_ok rfl) (ev_ok rfl) (tgt rfl) rfl (tgt rfl) rfl (by omega)) ?_|rw[t6]|rw[t7]|rw[g1]|rw[t8]|rw[t9]);conv=>whnf))
      exact hK
     conv=>whnf
     (repeat(first|(refine step_w2 rfl rfl ?_;conv=>whnf)))
     refine SW_loopN hE (fun k=>k) [1,2,5,6,7,8] [7] (fun m fr hp=>∃p:Nat,m=sp.length - p∧p≤sp.length∧fr=[(1,ivec .i64 P),(2,ptrA (mC r c M)),(5,iv i),(6,iv k),(7,.ptr 7 0 0 0),(8,iv p)]∧hp=[(7,⟨53,true,.one [.frac (M.getD (i*c+k) 0)]⟩)]) sp.length ?_ ?_ ?_
     ·kernel_rfl
     ·exact⟨0,rfl,Nat.zero_le _,rfl,rfl⟩
     rintro m _ _ ⟨p,rfl,hp,rfl,rfl⟩
     conv=>whnf
     by_cases hps:p<sp.length
     ·have s1:=dlt (show p<P.length by omega)
      have s2:=winc (i:=p) (by omega)
      have s3:P.getD p 0=((sp.getD p 0:Nat):Int):=hpp p hps
      have b2:p<P.length:=by omega
      by_cases e:sp.getD p 0=k
      ·have s4:((k:Int)==(k:Int))=true:=beq_self_eq_true _
       rw[e]at s3
       by_cases f:p=i
       ·have s5:((p:Int) != (i:Int))=false:=by rw[f];exact bne_self_eq_false _
        clear hpp hL3
        (repeat(first|(refine tst_tt s1 ?_;conv=>whnf)|(refine g_o (op_lenM rfl rfl rfl (ev_ok rfl) (tgt rfl) rfl) ?_;conv=>whnf)|(rw[s1];conv=>whnf)))
        refine SWx_then (fr1:= ?frah3) (hp1:= ?hpah3) (fun K hK=>SWx_go hE ?raah3) ?rbah3
        case raah3=>
         conv=>whnf
         (repeat((first|refine step_w1 rfl rfl ?_|refine g_o (op_pickT rfl (ev_ok rfl) (ev_ok rfl)) ?_|refine g_o (op_pickF rfl (ev_ok rfl) (ev_ok rfl)) ?_|rw[beq_self_eq_true]|refine tst_ff s5 ?_|refine g_o (op_loadA rfl (ev_ok rfl) (tgt rfl) rfl (Nat.succ_ne_zero _) rfl) ?_|refine g_o (op_indexN (α:=Int) (d:=0) rfl (ev_ok rfl) (ev_ok rfl) (tgt rfl) rfl (tgt rfl) rfl (by omega)) ?_|rw[s3]|rw[s5]);conv=>whnf))
         exact hK
        conv=>whnf
        (repeat(first|(refine step_w2 rfl rfl ?_;conv=>whnf)|(rw[s2];conv=>whnf)))
        exact⟨sp.length - (p+1),fun k=>k,[1,2,5,6,7,8],[7],by omega,by kernel_rfl,p+1,rfl,hps,rfl,rfl⟩
       ·have s5:((p:Int) != (i:Int))=true:=bne_iff_ne.2 (by omega)
        have hz:=hL3 p hps e f
        clear hpp hL3
        (repeat(first|(refine tst_tt s1 ?_;conv=>whnf)|(refine g_o (op_lenM rfl rfl rfl (ev_ok rfl) (tgt rfl) rfl) ?_;conv=>whnf)|(rw[s1];conv=>whnf)))
        refine SWx_then (fr1:= ?frbh3) (hp1:= ?hpbh3) (fun K hK=>SWx_go hE ?rabh3) ?rbbh3
        case rabh3=>
         conv=>whnf
         (repeat((first|refine step_w1 rfl rfl ?_|refine g_o (op_pickT rfl (ev_ok rfl) (ev_ok rfl)) ?_|rw[beq_self_eq_true]|refine tst_tt s5 ?_|refine g_o (op_loadA rfl (ev_ok rfl) (tgt rfl) rfl (Nat.succ_ne_zero _) rfl) ?_|refine g_o (op_indexN (α:=Int) (d:=0) rfl (ev_ok rfl) (ev_ok rfl) (tgt rfl) rfl (tgt rfl) rfl (by omega)) ?_|refine⟨_,op_neAgg tabOK goodOK rfl (ev_ok rfl) (ev_ok rfl) rfl rfl rfl rfl (q_eq (hz)) q_guard, ?_⟩|rw[s3]|rw[s5]);conv=>whnf))
         exact hK
        conv=>whnf
        (repeat(first|(refine step_w2 rfl rfl ?_;conv=>whnf)|(rw[s2];conv=>whnf)))
        exact⟨sp.length - (p+1),fun k=>k,[1,2,5,6,7,8],[7],by omega,by kernel_rfl,p+1,rfl,hps,rfl,rfl⟩
      ·clear hpp hL3
       generalize sp.getD p 0=z at*
       have s4:((z:Int)==(k:Int))=false:=beq_eq_false_iff_ne.2 (by omega)
       (repeat(first|(refine tst_tt s1 ?_;conv=>whnf)|(refine g_o (op_lenM rfl rfl rfl (ev_ok rfl) (tgt rfl) rfl) ?_;conv=>whnf)|(rw[s1];conv=>whnf)))
       refine SWx_then (fr1:= ?frch3) (hp1:= ?hpch3) (fun K hK=>SWx_go hE ?rach3) ?rbch3
       case rach3=>
        conv=>whnf
        (repeat((first|refine step_w2 rfl rfl ?_|refine g_o (op_pickF rfl (ev_ok rfl) (ev_ok rfl)) ?_|refine tst_ff s4 ?_|refine g_o (op_loadA rfl (ev_ok rfl) (tgt rfl) rfl (Nat.succ_ne_zero _) rfl) ?_|refine g_o (op_indexN (α:=Int) (d:=0) rfl (ev_ok rfl) (ev_ok rfl) (tgt rfl) rfl (tgt rfl) rfl (by omega)) ?_|rw[s3]|rw[s4]);conv=>whnf))
        exact hK
       conv=>whnf
       (repeat(first|(refine step_w2 rfl rfl ?_;conv=>whnf)|(rw[s2];conv=>whnf)))
       exact⟨sp.length - (p+1),fun k=>k,[1,2,5,6,7,8],[7],by omega,by kernel_rfl,p+1,rfl,hps,rfl,rfl⟩
     ·have s1:=dge (show ¬p<P.length by omega)
      (repeat((first|refine tst_ff s1 ?_|refine g_o (op_lenM rfl rfl rfl (ev_ok rfl) (tgt rfl) rfl) ?_|rw[s1]|rw[t5]);conv=>whnf))
      exact⟨c - (k+1),fun k=>k,[1,2,5,6],[],by omega,by kernel_rfl,k+1,rfl,hkc,rfl,rfl⟩
   ·have t6:decide ((i:Int)≥(P.length:Int))=true:=decide_eq_true (by omega)
    have t7:=dge (show ¬i<P.length by omega)
    have hx0:M.getD (i*c+k) 0=0:=by rw[hx];exact h.low i (by omega) hlt k hkc
    clear hX hx
    (repeat((first|refine tst_tt t4 ?_|refine g_o (op_loadA rfl (ev_ok rfl) (tgt rfl) rfl (Nat.succ_ne_zero _) rfl) ?_|refine g_o (op_indexM (α:=Rat) (d:=0) rfl (ev_ok rfl) (ev_ok rfl) (tgt rfl) rfl (tgt rfl) rfl (by omega)) ?_|refine g_o (op_fieldA rfl (ev_ok rfl) (tgt rfl) rfl rfl (Nat.succ_ne_zero _) rfl) ?_|rw[t4]|rw[w1]|rw[w2]|rw[Int.toNat_natCast]);conv=>whnf))
    refine SWx_then (fr1:= ?frh4) (hp1:= ?hph4) (fun K hK=>SWx_go hE ?rah4) ?rbh4
    case rah4=>
     conv=>whnf
     (repeat((first|refine step_w1 rfl rfl ?_|refine step_i (by kernel_rfl) ?_|refine g_o (op_pickT rfl (ev_ok rfl) (ev_ok rfl)) ?_|refine g_o (op_pickF rfl (ev_ok rfl) (ev_ok rfl)) ?_|refine tst_tt t6 ?_|refine tst_ff t7 ?_|refine g_o (op_lenM rfl rfl rfl (ev_ok rfl) (tgt rfl) rfl) ?_|refine⟨_,op_neAgg tabOK goodOK rfl (ev_ok rfl) (ev_ok rfl) rfl rfl rfl rfl (q_eq (hx0)) q_guard, ?_⟩|rw[t6]|rw[t7]);conv=>whnf))
     exact hK
    conv=>whnf
    (repeat(first|(refine step_w2 rfl rfl ?_;conv=>whnf)))
    refine SW_loopN hE (fun k=>k) [1,2,5,6,7,8] [7] (fun m fr hp=>∃p:Nat,m=sp.length - p∧p≤sp.length∧fr=[(1,ivec .i64 P),(2,ptrA (mC r c M)),(5,iv i),(6,iv k),(7,.ptr 7 0 0 0),(8,iv p)]∧hp=[(7,⟨53,true,.one [.frac (M.getD (i*c+k) 0)]⟩)]) sp.length ?_ ?_ ?_
    ·kernel_rfl
    ·exact⟨0,rfl,Nat.zero_le _,rfl,rfl⟩
    rintro m _ _ ⟨p,rfl,hp,rfl,rfl⟩
    conv=>whnf
    by_cases hps:p<sp.length
    ·have s1:=dlt (show p<P.length by omega)
     have s2:=winc (i:=p) (by omega)
     have s3:P.getD p 0=((sp.getD p 0:Nat):Int):=hpp p hps
     have b2:p<P.length:=by omega
     by_cases e:sp.getD p 0=k
     ·have s4:((k:Int)==(k:Int))=true:=beq_self_eq_true _
      rw[e]at s3
      by_cases f:p=i
      ·have s5:((p:Int) != (i:Int))=false:=by rw[f];exact bne_self_eq_false _
       clear hpp hL3
       (repeat(first|(refine tst_tt s1 ?_;conv=>whnf)|(refine g_o (op_lenM rfl rfl rfl (ev_ok rfl) (tgt rfl) rfl) ?_;conv=>whnf)|(rw[s1];conv=>whnf)))
       refine SWx_then (fr1:= ?frah4) (hp1:= ?hpah4) (fun K hK=>SWx_go hE ?raah4) ?rbah4
       case raah4=>
        conv=>whnf
        (repeat((first|refine step_w1 rfl rfl ?_|refine g_o (op_pickT rfl (ev_ok rfl) (ev_ok rfl)) ?_|refine g_o (op_pickF rfl (ev_ok rfl) (ev_ok rfl)) ?_|rw[beq_self_eq_true]|refine tst_ff s5 ?_|refine g_o (op_loadA rfl (ev_ok rfl) (tgt rfl) rfl (Nat.succ_ne_zero _) rfl) ?_|refine g_o (op_indexN (α:=Int) (d:=0) rfl (ev_ok rfl) (ev_ok rfl) (tgt rfl) rfl (tgt rfl) rfl (by omega)) ?_|rw[s3]|rw[s5]);conv=>whnf))
        exact hK
       conv=>whnf
       (repeat(first|(refine step_w2 rfl rfl ?_;conv=>whnf)|(rw[s2];conv=>whnf)))
       exact⟨sp.length - (p+1),fun k=>k,[1,2,5,6,7,8],[7],by omega,by kernel_rfl,p+1,rfl,hps,rfl,rfl⟩
      ·have s5:((p:Int) != (i:Int))=true:=bne_iff_ne.2 (by omega)
       have hz:=hL3 p hps e f
       clear hpp hL3
       (repeat(first|(refine tst_tt s1 ?_;conv=>whnf)|(refine g_o (op_lenM rfl rfl rfl (ev_ok rfl) (tgt rfl) rfl) ?_;conv=>whnf)|(rw[s1];conv=>whnf)))
       refine SWx_then (fr1:= ?frbh4) (hp1:= ?hpbh4) (fun K hK=>SWx_go hE ?rabh4) ?rbbh4
       case rabh4=>
        conv=>whnf
        (repeat((first|refine step_w1 rfl rfl ?_|refine g_o (op_pickT rfl (ev_ok rfl) (ev_ok rfl)) ?_|rw[beq_self_eq_true]|refine tst_tt s5 ?_|refine g_o (op_loadA rfl (ev_ok rfl) (tgt rfl) rfl (Nat.succ_ne_zero _) rfl) ?_|refine g_o (op_indexN (α:=Int) (d:=0) rfl (ev_ok rfl) (ev_ok rfl) (tgt rfl) rfl (tgt rfl) rfl (by omega)) ?_|refine⟨_,op_neAgg tabOK goodOK rfl (ev_ok rfl) (ev_ok rfl) rfl rfl rfl rfl (q_eq (hz)) q_guard, ?_⟩|rw[s3]|rw[s5]);conv=>whnf))
        exact hK
       conv=>whnf
       (repeat(first|(refine step_w2 rfl rfl ?_;conv=>whnf)|(rw[s2];conv=>whnf)))
       exact⟨sp.length - (p+1),fun k=>k,[1,2,5,6,7,8],[7],by omega,by kernel_rfl,p+1,rfl,hps,rfl,rfl⟩
     ·clear hpp hL3
      generalize sp.getD p 0=z at*
      have s4:((z:Int)==(k:Int))=false:=beq_eq_false_iff_ne.2 (by omega)
      (repeat(first|(refine tst_tt s1 ?_;conv=>whnf)|(refine g_o (op_lenM rfl rfl rfl (ev_ok rfl) (tgt rfl) rfl) ?_;conv=>whnf)|(rw[s1];conv=>whnf)))
      refine SWx_then (fr1:= ?frch4) (hp1:= ?hpch4) (fun K hK=>SWx_go hE ?rach4) ?rbch4
      case rach4=>
       conv=>whnf
       (repeat((first|refine step_w2 rfl rfl ?_|refine g_o (op_pickF rfl (ev_ok rfl) (ev_ok rfl)) ?_|refine tst_ff s4 ?_|refine g_o (op_loadA rfl (ev_ok rfl) (tgt rfl) rfl (Nat.succ_ne_zero _) rfl) ?_|refine g_o (op_indexN (α:=Int) (d:=0) rfl (ev_ok rfl) (ev_ok rfl) (tgt rfl) rfl (tgt rfl) rfl (by omega)) ?_|rw[s3]|rw[s4]);conv=>whnf))
       exact hK
      conv=>whnf
      (repeat(first|(refine step_w2 rfl rfl ?_;conv=>whnf)|(rw[s2];conv=>whnf)))
      exact⟨sp.length - (p+1),fun k=>k,[1,2,5,6,7,8],[7],by omega,by kernel_rfl,p+1,rfl,hps,rfl,rfl⟩
    ·have s1:=dge (show ¬p<P.length by omega)
     (repeat((first|refine tst_ff s1 ?_|refine g_o (op_lenM rfl rfl rfl (ev_ok rfl) (tgt rfl) rfl) ?_|rw[s1]|rw[t5]);conv=>whnf))
     exact⟨c - (k+1),fun k=>k,[1,2,5,6],[],by omega,by kernel_rfl,k+1,rfl,hkc,rfl,rfl⟩
  ·have t4:=dge hkc
   (repeat((first|refine tst_ff t4 ?_|refine g_o (op_loadA rfl (ev_ok rfl) (tgt rfl) rfl (Nat.succ_ne_zero _) rfl) ?_|refine g_o (op_fieldA rfl (ev_ok rfl) (tgt rfl) rfl rfl (Nat.succ_ne_zero _) rfl) ?_|rw[t4]|rw[t3]);conv=>whnf))
   exact⟨r - (i+1),fun k=>k,[1,2,5],[],by omega,by kernel_rfl,i+1,rfl,hlt,rfl,rfl⟩
 ·have t2:=dge hlt
  clear hX hXl
  (repeat((first|refine tst_ff t2 ?_|refine g_o (op_loadA rfl (ev_ok rfl) (tgt rfl) rfl (Nat.succ_ne_zero _) rfl) ?_|refine g_o (op_fieldA rfl (ev_ok rfl) (tgt rfl) rfl rfl (Nat.succ_ne_zero _) rfl) ?_|rw[t2]);conv=>whnf))
  refine SW_loopN hE (fun k=>k) [1,2,9] [] (fun m fr hp=>∃p:Nat,m=sp.length - p∧p≤sp.length∧fr=[(1,ivec .i64 P),(2,ptrA (mC r c M)),(9,iv p)]∧hp=[]) sp.length ?_ ?_ ?_
  ·kernel_rfl
  ·exact⟨0,rfl,Nat.zero_le _,rfl,rfl⟩
  rintro m _ _ ⟨p,rfl,hp,rfl,rfl⟩
  conv=>whnf
  by_cases hps:p<sp.length
  ·have t3:=dlt (show p<P.length by omega)
   have t4:=winc (i:=p) (by omega)
   have g1:=hpg p hps
   have g2:=h.lt p hps
   have b1:p<P.length:=by omega
   rcases Nat.eq_zero_or_pos p with g|g
   ·have t5:decide ((p:Int)>0)=false:=decide_eq_false (by omega)
    clear hpg
    generalize sp.getD p 0=y at*
    have t6:decide ((y:Int)<0)=false:=decide_eq_false (by omega)
    have t7:decide ((y:Int)≥(c:Int))=false:=decide_eq_false (by omega)
    (repeat((first|refine step_w1 rfl rfl ?_|refine step_w2 rfl rfl ?_|refine step_i (by kernel_rfl) ?_|refine g_o (op_pickF rfl (ev_ok rfl) (ev_ok rfl)) ?_|refine tst_tt t3 ?_|refine tst_ff t5 ?_|refine g_o (op_lenM rfl rfl rfl (ev_ok rfl) (tgt rfl) rfl) ?_|refine g_o (op_loadA rfl (ev_ok rfl) (tgt rfl) rfl (Nat.succ_ne_zero _) rfl) ?_|refine g_o (op_indexN (α:=Int) (d:=0) rfl (ev_ok rfl) (ev_ok rfl) (tgt rfl) rfl (tgt rfl) rfl (by omega)) ?_|refine g_o (op_fieldA rfl (ev_ok rfl) (tgt rfl) rfl rfl (Nat.succ_ne_zero _) rfl) ?_|rw[t3]|rw[g1]|rw[t6]|rw[t7]|rw[t5]|rw[t4]);conv=>whnf))
    exact⟨sp.length - (p+1),fun k=>k,[1,2,9],[],by omega,by kernel_rfl,p+1,rfl,hps,rfl,rfl⟩
   ·have t5:decide ((p:Int)>0)=true:=decide_eq_true (by omega)
    have g3:=hpg (p - 1) (by omega)
    have g4:=h.inc (p - 1) p (by omega) hps
    have t8:IntKind.i64.wrap ((p:Int) - 1)=((p - 1:Nat):Int):=by rw[wrap_i64 (by omega) (by omega)];omega
    have b2:p - 1<P.length:=by omega
    clear hpg
    generalize sp.getD p 0=y at*
    generalize sp.getD (p - 1) 0=z at*
    have t6:decide ((y:Int)<0)=false:=decide_eq_false (by omega)
    have t7:decide ((y:Int)≥(c:Int))=false:=decide_eq_false (by omega)
    have t9:decide ((y:Int)≤(z:Int))=false:=decide_eq_false (by omega)
    (repeat((first|refine step_w1 rfl rfl ?_|refine step_i (by kernel_rfl) ?_|refine g_o (op_pickT rfl (ev_ok rfl) (ev_ok rfl)) ?_|refine g_o (op_pickF rfl (ev_ok rfl) (ev_ok rfl)) ?_|refine tst_tt t3 ?_|refine tst_tt t5 ?_|refine tst_ff t9 ?_|refine g_o (op_lenM rfl rfl rfl (ev_ok rfl) (tgt rfl) rfl) ?_|refine g_o (op_loadA rfl (ev_ok rfl) (tgt rfl) rfl (Nat.succ_ne_zero _) rfl) ?_|refine g_o (op_indexN (α:=Int) (d:=0) rfl (ev_ok rfl) (ev_ok rfl) (tgt rfl) rfl (tgt rfl) rfl (by omega)) ?_|refine g_o (op_indexM (α:=Int) (d:=0) rfl (ev_ok rfl) (ev_ok rfl) (tgt rfl) rfl (tgt rfl) rfl (by omega)) ?_|refine g_o (op_fieldA rfl (ev_ok rfl) (tgt rfl) rfl rfl (Nat.succ_ne_zero _) rfl) ?_|rw[t3]|rw[g1]|rw[g3]|rw[t6]|rw[t7]|rw[t5]|rw[t8]|rw[t9]|rw[t4]|rw[Int.toNat_natCast]);conv=>whnf))
    exact⟨sp.length - (p+1),fun k=>k,[1,2,9],[],by omega,by kernel_rfl,p+1,rfl,hps,rfl,rfl⟩
  ·have t3:=dge (show ¬p<P.length by omega)
   (repeat(first|(refine tst_ff t3 ?_;conv=>whnf)|(refine g_o (op_lenM rfl rfl rfl (ev_ok rfl) (tgt rfl) rfl) ?_;conv=>whnf)));(first|exact Recast.refl _|exact Frz.recast (Recast.refl _) rfl|(refine Frz.one rfl rfl ?_;skip)|(refine Frz.tup ?_;skip))
end Go.Proofs.YtbopchpncgdaaaaGreatDoor
