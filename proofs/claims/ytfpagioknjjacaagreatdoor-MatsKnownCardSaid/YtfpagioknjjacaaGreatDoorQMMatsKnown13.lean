/- The texts Lb. -/
import Derived.Test.YtfpagioknjjacaaGreatDoorQMMatsKnown12
namespace Go.Proofs.YtfpagioknjjacaaGreatDoor
open Go.Sx
set_option linter.unusedSimpArgs false
set_option linter.unusedVariables false
set_option maxRecDepth 100000
set_option maxHeartbeats 40000000
theorem c_MakesBad (r c:Int) (v:List (Int×Int)) (hr:r≤12∨2048<r) (hc:c≤12∨2048<c) (hs:sidesF r c≠0) (hv:v.length≤12) (hq:∀q∈v,qOK q):CallOK Tryz.prog 14 [iv r,iv c,mvec 2 qA v] [] (.val (.bool true)) [] []:=by
 have kw:=l_works13
 have kV:=c_V v (by omega) hq
 have hx12:(v.map qV).length≤12:=by rw[List.length_map];exact hv
 generalize v.map qV=x at*
 have kD:=m_Diag (v:=x) (by omega)
 have kI:=m_One x.length (by omega)
 have kf:=c_fInt 1 (by decide) (by decide)
 obtain⟨n9,hn9⟩:∃n:Nat,n=2049:=⟨_,rfl⟩
 have h9:(2049:Int)=(n9:Int):=by omega
 have kE:=m_DiagE (v:=zL n9) (by rw[zL_len];exact hn9)
 obtain⟨ox,oy,ow,oe,kO,hO⟩:=m_OneX r (by omega)
 have kM:=m_MakeEM (r:=r) (c:=c) 98 (ptrP [iv c]) 9 8 _ _ rfl rfl (by decide) hs
 have kN:=m_MakeNE hs
 obtain⟨W,hW⟩:∃W,sidesF r c=W:=⟨_,rfl⟩
 rw[hW]at kM kN hs
 have hnn:=Nat.mul_le_mul hx12 hx12
 have w6:IntKind.i64.wrap ((x.length:Int)*(x.length:Int))=((x.length*x.length:Nat):Int):=by rw[←Int.natCast_mul,wrap_i64 (by omega) (by omega)]
 have q6:(((mdiag x).length:Int) != ((x.length*x.length:Nat):Int))=false:=by rw[mk_len];exact bne_self_eq_false _
 have q7:(((mone x.length).length:Int) != ((mdiag x).length:Int))=false:=by rw[mk_len,mk_len];exact bne_self_eq_false _
 have gD:∀i k,i<x.length→k<x.length→(mdiag x).getD (i*x.length+k) 0=if i=k then x.getD i 0 else 0:=fun i k hi hk=>diag_eq hi hk
 have gI:∀i k,i<x.length→k<x.length→(mone x.length).getD (i*x.length+k) 0=if i=k then((1:Int):Rat)else 0:=fun i k hi hk=>one_eq hi hk
 have lD:(mdiag x).length=x.length*x.length:=mk_len ..
 have lI:(mone x.length).length=x.length*x.length:=mk_len ..
 generalize mdiag x=D at*
 generalize mone x.length=I1 at*
 have a5:decide ((v.length:Int)>12)=false:=decide_eq_false (by omega)
 have q5:((x.length:Int) != (x.length:Int))=false:=bne_self_eq_false _
 have q8:(W != W)=false:=bne_self_eq_false _
 have q9:(W==0)=false:=beq_false_of_ne hs
 have q10:(W != 0)=true:=bne_iff_ne.2 hs
 refine callV (Z:=[100000,100038,4]) tabOK mixedOK Tryz.func14 rfl (by kernel_rfl) rfl rfl (by kernel_rfl) rfl ?_
 intro W0 w0 ρ0 hE
 conv=>whnf
 refine SWx_addKey 284 (blk:=fblk []) rfl rfl ?_
 refine by_tail2 ?_
 apply Exists.intro
 apply And.intro
 case right=>
  intro tail
  refine SWx_go hE ?_
  have hr3:r<0∨(0≤r∧r≤12)∨2048<r:=by omega
  have hc3:c<0∨(0≤c∧c≤12)∨2048<c:=by omega
  rcases hr3 with hr3|hr3|hr3
  ·rcases hc3 with hc3|hc3|hc3
   ·skip
    have f1:decide (r>12)=false:=decide_eq_false (by omega)
    have f2:decide (r≤2048)=true:=decide_eq_true (by omega)
    have f5:decide (r<0)=true:=decide_eq_true (by omega)
    have f7:decide (r>2048)=false:=decide_eq_false (by omega)
    have f3:decide (c>12)=false:=decide_eq_false (by omega)
    have f4:decide (c≤2048)=true:=decide_eq_true (by omega)
    have f6:decide (c<0)=true:=decide_eq_true (by omega)
    have f8:decide (c>2048)=false:=decide_eq_false (by omega)
    have hl:(1:Int)=W:=by rw[←hW];unfold sidesF;first|(rw[if_pos (by omega)];done)|rw[if_neg (by omega),if_pos (by omega)]
    have q11:(W != 1)=false:=by rw[←hl];rfl
    conv=>whnf
    (repeat((first|refine step_w1 rfl rfl ?_|refine step_w2 rfl rfl ?_|refine⟨[_,_],_,[],[_,_],(by assumption),two_fk rfl rfl,nil_new,two_upd (List.mem_cons_self ..) rfl rfl rfl (List.mem_cons_of_mem _ (List.mem_cons_self ..)) rfl rfl rfl, ?_⟩|refine g_o (op_pickT rfl (ev_ok rfl) (ev_ok rfl)) ?_|refine g_o (op_pickF rfl (ev_ok rfl) (ev_ok rfl)) ?_|rw[bne_self_eq_false]|refine tst_ff f1 ?_|refine tst_ff f3 ?_|refine tst_ff a5 ?_|refine g_o (op_lenM rfl rfl rfl (ev_ok rfl) (tgt rfl) rfl) ?_|refine g_o (op_loadA rfl (ev_ok rfl) (tgt rfl) rfl (Nat.succ_ne_zero _) rfl) ?_|refine g_o (op_makeFunc rfl rfl rfl) ?_|rw[f1]|rw[f3]|rw[f5]|rw[a5]|rw[q11]|rw[Nat.zero_add]);conv=>whnf))
    refine SW_loopN hE (fun k=>k) [0,2,4,7,10,12] [10,284] (fun m fr hp=>m=0∧fr=[(0,iv r),(2,mvec 2 qA v),(4,ptrA [iv c]),(7,iv W),(10,.ptr 10 0 0 0),(12,iv 0)]∧hp=[(10,zM),(284,fblk [])]) 0 ?_ ?_ tail.out
    ·kernel_rfl
    ·exact⟨rfl,by rw[←hl];rfl,rfl⟩
   ·skip
    have f1:decide (r>12)=false:=decide_eq_false (by omega)
    have f2:decide (r≤2048)=true:=decide_eq_true (by omega)
    have f5:decide (r<0)=true:=decide_eq_true (by omega)
    have f7:decide (r>2048)=false:=decide_eq_false (by omega)
    have f3:decide (c>12)=false:=decide_eq_false (by omega)
    have f4:decide (c≤2048)=true:=decide_eq_true (by omega)
    have f6:decide (c<0)=false:=decide_eq_false (by omega)
    have f8:decide (c>2048)=false:=decide_eq_false (by omega)
    have hl:(1:Int)=W:=by rw[←hW];unfold sidesF;first|(rw[if_pos (by omega)];done)|rw[if_neg (by omega),if_pos (by omega)]
    have q11:(W != 1)=false:=by rw[←hl];rfl
    conv=>whnf
    (repeat((first|refine step_w1 rfl rfl ?_|refine step_w2 rfl rfl ?_|refine⟨[_,_],_,[],[_,_],(by assumption),two_fk rfl rfl,nil_new,two_upd (List.mem_cons_self ..) rfl rfl rfl (List.mem_cons_of_mem _ (List.mem_cons_self ..)) rfl rfl rfl, ?_⟩|refine g_o (op_pickT rfl (ev_ok rfl) (ev_ok rfl)) ?_|refine g_o (op_pickF rfl (ev_ok rfl) (ev_ok rfl)) ?_|rw[bne_self_eq_false]|refine tst_ff f1 ?_|refine tst_ff f3 ?_|refine tst_ff a5 ?_|refine g_o (op_lenM rfl rfl rfl (ev_ok rfl) (tgt rfl) rfl) ?_|refine g_o (op_loadA rfl (ev_ok rfl) (tgt rfl) rfl (Nat.succ_ne_zero _) rfl) ?_|refine g_o (op_makeFunc rfl rfl rfl) ?_|rw[f1]|rw[f3]|rw[f5]|rw[a5]|rw[q11]|rw[Nat.zero_add]);conv=>whnf))
    refine SW_loopN hE (fun k=>k) [0,2,4,7,10,12] [10,284] (fun m fr hp=>m=0∧fr=[(0,iv r),(2,mvec 2 qA v),(4,ptrA [iv c]),(7,iv W),(10,.ptr 10 0 0 0),(12,iv 0)]∧hp=[(10,zM),(284,fblk [])]) 0 ?_ ?_ tail.out
    ·kernel_rfl
    ·exact⟨rfl,by rw[←hl];rfl,rfl⟩
   ·skip
    have f1:decide (r>12)=false:=decide_eq_false (by omega)
    have f2:decide (r≤2048)=true:=decide_eq_true (by omega)
    have f5:decide (r<0)=true:=decide_eq_true (by omega)
    have f7:decide (r>2048)=false:=decide_eq_false (by omega)
    have f3:decide (c>12)=true:=decide_eq_true (by omega)
    have f4:decide (c≤2048)=false:=decide_eq_false (by omega)
    have f6:decide (c<0)=false:=decide_eq_false (by omega)
    have f8:decide (c>2048)=true:=decide_eq_true (by omega)
    have hl:(1:Int)=W:=by rw[←hW];unfold sidesF;first|(rw[if_pos (by omega)];done)|rw[if_neg (by omega),if_pos (by omega)]
    have q11:(W != 1)=false:=by rw[←hl];rfl
    conv=>whnf
    (repeat((first|refine step_w1 rfl rfl ?_|refine step_w2 rfl rfl ?_|refine⟨[_,_],_,[],[_,_],(by assumption),two_fk rfl rfl,nil_new,two_upd (List.mem_cons_self ..) rfl rfl rfl (List.mem_cons_of_mem _ (List.mem_cons_self ..)) rfl rfl rfl, ?_⟩|refine g_o (op_pickT rfl (ev_ok rfl) (ev_ok rfl)) ?_|refine g_o (op_pickF rfl (ev_ok rfl) (ev_ok rfl)) ?_|rw[bne_self_eq_false]|refine tst_ff f1 ?_|refine tst_tt f3 ?_|refine tst_ff a5 ?_|refine g_o (op_lenM rfl rfl rfl (ev_ok rfl) (tgt rfl) rfl) ?_|refine g_o (op_loadA rfl (ev_ok rfl) (tgt rfl) rfl (Nat.succ_ne_zero _) rfl) ?_|refine g_o (op_makeFunc rfl rfl rfl) ?_|rw[f1]|rw[f3]|rw[f4]|rw[f5]|rw[a5]|rw[q11]|rw[Nat.zero_add]);conv=>whnf))
    refine SW_loopN hE (fun k=>k) [0,2,4,7,10,12] [10,284] (fun m fr hp=>m=0∧fr=[(0,iv r),(2,mvec 2 qA v),(4,ptrA [iv c]),(7,iv W),(10,.ptr 10 0 0 0),(12,iv 0)]∧hp=[(10,zM),(284,fblk [])]) 0 ?_ ?_ tail.out
    ·kernel_rfl
    ·exact⟨rfl,by rw[←hl];rfl,rfl⟩
  ·rcases hc3 with hc3|hc3|hc3
   ·skip
    have f1:decide (r>12)=false:=decide_eq_false (by omega)
    have f2:decide (r≤2048)=true:=decide_eq_true (by omega)
    have f5:decide (r<0)=false:=decide_eq_false (by omega)
    have f7:decide (r>2048)=false:=decide_eq_false (by omega)
    have f3:decide (c>12)=false:=decide_eq_false (by omega)
    have f4:decide (c≤2048)=true:=decide_eq_true (by omega)
    have f6:decide (c<0)=true:=decide_eq_true (by omega)
    have f8:decide (c>2048)=false:=decide_eq_false (by omega)
    have hl:(1:Int)=W:=by rw[←hW];unfold sidesF;first|(rw[if_pos (by omega)];done)|rw[if_neg (by omega),if_pos (by omega)]
    have q11:(W != 1)=false:=by rw[←hl];rfl
    conv=>whnf
    (repeat((first|refine step_w1 rfl rfl ?_|refine step_w2 rfl rfl ?_|refine⟨[_,_],_,[],[_,_],(by assumption),two_fk rfl rfl,nil_new,two_upd (List.mem_cons_self ..) rfl rfl rfl (List.mem_cons_of_mem _ (List.mem_cons_self ..)) rfl rfl rfl, ?_⟩|refine g_o (op_pickT rfl (ev_ok rfl) (ev_ok rfl)) ?_|refine g_o (op_pickF rfl (ev_ok rfl) (ev_ok rfl)) ?_|rw[bne_self_eq_false]|refine tst_ff f1 ?_|refine tst_ff f3 ?_|refine tst_tt f6 ?_|refine tst_ff a5 ?_|refine g_o (op_lenM rfl rfl rfl (ev_ok rfl) (tgt rfl) rfl) ?_|refine g_o (op_loadA rfl (ev_ok rfl) (tgt rfl) rfl (Nat.succ_ne_zero _) rfl) ?_|refine g_o (op_makeFunc rfl rfl rfl) ?_|rw[f1]|rw[f3]|rw[f5]|rw[f6]|rw[a5]|rw[q11]|rw[Nat.zero_add]);conv=>whnf))
    refine SW_loopN hE (fun k=>k) [0,2,4,7,10,12] [10,284] (fun m fr hp=>m=0∧fr=[(0,iv r),(2,mvec 2 qA v),(4,ptrA [iv c]),(7,iv W),(10,.ptr 10 0 0 0),(12,iv 0)]∧hp=[(10,zM),(284,fblk [])]) 0 ?_ ?_ tail.out
    ·kernel_rfl
    ·exact⟨rfl,by rw[←hl];rfl,rfl⟩
   ·exact absurd (hW.symm.trans (sides_of (by omega))) hs
   ·skip
    have f1:decide (r>12)=false:=decide_eq_false (by omega)
    have f2:decide (r≤2048)=true:=decide_eq_true (by omega)
    have f5:decide (r<0)=false:=decide_eq_false (by omega)
    have f7:decide (r>2048)=false:=decide_eq_false (by omega)
    have f3:decide (c>12)=true:=decide_eq_true (by omega)
    have f4:decide (c≤2048)=false:=decide_eq_false (by omega)
    have f6:decide (c<0)=false:=decide_eq_false (by omega)
    have f8:decide (c>2048)=true:=decide_eq_true (by omega)
    have hl:(3:Int)=W:=by rw[←hW];unfold sidesF;first|(rw[if_pos (by omega)];done)|rw[if_neg (by omega),if_pos (by omega)]
    have q11:(W != 3)=false:=by rw[←hl];rfl
    conv=>whnf
    (repeat((first|refine step_w1 rfl rfl ?_|refine step_w2 rfl rfl ?_|refine⟨[_,_],_,[],[_,_],(by assumption),two_fk rfl rfl,nil_new,two_upd (List.mem_cons_self ..) rfl rfl rfl (List.mem_cons_of_mem _ (List.mem_cons_self ..)) rfl rfl rfl, ?_⟩|refine g_o (op_pickT rfl (ev_ok rfl) (ev_ok rfl)) ?_|refine g_o (op_pickF rfl (ev_ok rfl) (ev_ok rfl)) ?_|rw[bne_self_eq_false]|refine tst_ff f1 ?_|refine tst_tt f3 ?_|refine tst_ff f6 ?_|refine tst_tt f8 ?_|refine tst_ff a5 ?_|refine g_o (op_lenM rfl rfl rfl (ev_ok rfl) (tgt rfl) rfl) ?_|refine g_o (op_loadA rfl (ev_ok rfl) (tgt rfl) rfl (Nat.succ_ne_zero _) rfl) ?_|refine g_o (op_makeFunc rfl rfl rfl) ?_|rw[f1]|rw[f3]|rw[f4]|rw[f5]|rw[f6]|rw[f7]|rw[f8]|rw[a5]|rw[q11]|rw[Nat.zero_add]);conv=>whnf))
    refine SW_loopN hE (fun k=>k) [0,2,4,7,10,12] [10,284] (fun m fr hp=>m=0∧fr=[(0,iv r),(2,mvec 2 qA v),(4,ptrA [iv c]),(7,iv W),(10,.ptr 10 0 0 0),(12,iv 0)]∧hp=[(10,zM),(284,fblk [])]) 0 ?_ ?_ tail.out
    ·kernel_rfl
    ·exact⟨rfl,by rw[←hl];rfl,rfl⟩
  ·rcases hc3 with hc3|hc3|hc3
   ·skip
    have f1:decide (r>12)=true:=decide_eq_true (by omega)
    have f2:decide (r≤2048)=false:=decide_eq_false (by omega)
    have f5:decide (r<0)=false:=decide_eq_false (by omega)
    have f7:decide (r>2048)=true:=decide_eq_true (by omega)
    have f3:decide (c>12)=false:=decide_eq_false (by omega)
    have f4:decide (c≤2048)=true:=decide_eq_true (by omega)
    have f6:decide (c<0)=true:=decide_eq_true (by omega)
    have f8:decide (c>2048)=false:=decide_eq_false (by omega)
    have hl:(1:Int)=W:=by rw[←hW];unfold sidesF;first|(rw[if_pos (by omega)];done)|rw[if_neg (by omega),if_pos (by omega)]
    have q11:(W != 1)=false:=by rw[←hl];rfl
    conv=>whnf
    (repeat((first|refine step_w1 rfl rfl ?_|refine step_w2 rfl rfl ?_|refine⟨[_,_],_,[],[_,_],(by assumption),two_fk rfl rfl,nil_new,two_upd (List.mem_cons_self ..) rfl rfl rfl (List.mem_cons_of_mem _ (List.mem_cons_self ..)) rfl rfl rfl, ?_⟩|refine g_o (op_pickT rfl (ev_ok rfl) (ev_ok rfl)) ?_|refine g_o (op_pickF rfl (ev_ok rfl) (ev_ok rfl)) ?_|rw[bne_self_eq_false]|refine tst_tt f1 ?_|refine tst_ff f3 ?_|refine tst_tt f6 ?_|refine tst_ff a5 ?_|refine g_o (op_lenM rfl rfl rfl (ev_ok rfl) (tgt rfl) rfl) ?_|refine g_o (op_loadA rfl (ev_ok rfl) (tgt rfl) rfl (Nat.succ_ne_zero _) rfl) ?_|refine g_o (op_makeFunc rfl rfl rfl) ?_|rw[f1]|rw[f2]|rw[f3]|rw[f5]|rw[f6]|rw[a5]|rw[q11]|rw[Nat.zero_add]);conv=>whnf))
    refine SW_loopN hE (fun k=>k) [0,2,4,7,10,12] [10,284] (fun m fr hp=>m=0∧fr=[(0,iv r),(2,mvec 2 qA v),(4,ptrA [iv c]),(7,iv W),(10,.ptr 10 0 0 0),(12,iv 0)]∧hp=[(10,zM),(284,fblk [])]) 0 ?_ ?_ tail.out
    ·kernel_rfl
    ·exact⟨rfl,by rw[←hl];rfl,rfl⟩
   ·skip
    have f1:decide (r>12)=true:=decide_eq_true (by omega)
    have f2:decide (r≤2048)=false:=decide_eq_false (by omega)
    have f5:decide (r<0)=false:=decide_eq_false (by omega)
    have f7:decide (r>2048)=true:=decide_eq_true (by omega)
    have f3:decide (c>12)=false:=decide_eq_false (by omega)
    have f4:decide (c≤2048)=true:=decide_eq_true (by omega)
    have f6:decide (c<0)=false:=decide_eq_false (by omega)
    have f8:decide (c>2048)=false:=decide_eq_false (by omega)
    have hl:(3:Int)=W:=by rw[←hW];unfold sidesF;first|(rw[if_pos (by omega)];done)|rw[if_neg (by omega),if_pos (by omega)]
    have q11:(W != 3)=false:=by rw[←hl];rfl
    conv=>whnf
    (repeat((first|refine step_w1 rfl rfl ?_|refine step_w2 rfl rfl ?_|refine⟨[_,_],_,[],[_,_],(by assumption),two_fk rfl rfl,nil_new,two_upd (List.mem_cons_self ..) rfl rfl rfl (List.mem_cons_of_mem _ (List.mem_cons_self ..)) rfl rfl rfl, ?_⟩|refine g_o (op_pickT rfl (ev_ok rfl) (ev_ok rfl)) ?_|refine g_o (op_pickF rfl (ev_ok rfl) (ev_ok rfl)) ?_|rw[bne_self_eq_false]|refine tst_tt f1 ?_|refine tst_ff f3 ?_|refine tst_ff f6 ?_|refine tst_ff a5 ?_|refine g_o (op_lenM rfl rfl rfl (ev_ok rfl) (tgt rfl) rfl) ?_|refine g_o (op_loadA rfl (ev_ok rfl) (tgt rfl) rfl (Nat.succ_ne_zero _) rfl) ?_|refine g_o (op_makeFunc rfl rfl rfl) ?_|rw[f1]|rw[f2]|rw[f3]|rw[f5]|rw[f6]|rw[f7]|rw[a5]|rw[q11]|rw[Nat.zero_add]);conv=>whnf))
    refine SW_loopN hE (fun k=>k) [0,2,4,7,10,12] [10,284] (fun m fr hp=>m=0∧fr=[(0,iv r),(2,mvec 2 qA v),(4,ptrA [iv c]),(7,iv W),(10,.ptr 10 0 0 0),(12,iv 0)]∧hp=[(10,zM),(284,fblk [])]) 0 ?_ ?_ tail.out
    ·kernel_rfl
    ·exact⟨rfl,by rw[←hl];rfl,rfl⟩
   ·skip
    have f1:decide (r>12)=true:=decide_eq_true (by omega)
    have f2:decide (r≤2048)=false:=decide_eq_false (by omega)
    have f5:decide (r<0)=false:=decide_eq_false (by omega)
    have f7:decide (r>2048)=true:=decide_eq_true (by omega)
    have f3:decide (c>12)=true:=decide_eq_true (by omega)
    have f4:decide (c≤2048)=false:=decide_eq_false (by omega)
    have f6:decide (c<0)=false:=decide_eq_false (by omega)
    have f8:decide (c>2048)=true:=decide_eq_true (by omega)
    have hl:(3:Int)=W:=by rw[←hW];unfold sidesF;first|(rw[if_pos (by omega)];done)|rw[if_neg (by omega),if_pos (by omega)]
    have q11:(W != 3)=false:=by rw[←hl];rfl
    conv=>whnf
    (repeat((first|refine step_w1 rfl rfl ?_|refine step_w2 rfl rfl ?_|refine⟨[_,_],_,[],[_,_],(by assumption),two_fk rfl rfl,nil_new,two_upd (List.mem_cons_self ..) rfl rfl rfl (List.mem_cons_of_mem _ (List.mem_cons_self ..)) rfl rfl rfl, ?_⟩|refine g_o (op_pickT rfl (ev_ok rfl) (ev_ok rfl)) ?_|refine g_o (op_pickF rfl (ev_ok rfl) (ev_ok rfl)) ?_|rw[bne_self_eq_false]|refine tst_tt f1 ?_|refine tst_tt f3 ?_|refine tst_ff f6 ?_|refine tst_ff a5 ?_|refine g_o (op_lenM rfl rfl rfl (ev_ok rfl) (tgt rfl) rfl) ?_|refine g_o (op_loadA rfl (ev_ok rfl) (tgt rfl) rfl (Nat.succ_ne_zero _) rfl) ?_|refine g_o (op_makeFunc rfl rfl rfl) ?_|rw[f1]|rw[f2]|rw[f3]|rw[f4]|rw[f5]|rw[f6]|rw[f7]|rw[a5]|rw[q11]|rw[Nat.zero_add]);conv=>whnf))
    refine SW_loopN hE (fun k=>k) [0,2,4,7,10,12] [10,284] (fun m fr hp=>m=0∧fr=[(0,iv r),(2,mvec 2 qA v),(4,ptrA [iv c]),(7,iv W),(10,.ptr 10 0 0 0),(12,iv 0)]∧hp=[(10,zM),(284,fblk [])]) 0 ?_ ?_ tail.out
    ·kernel_rfl
    ·exact⟨rfl,by rw[←hl];rfl,rfl⟩
 clear kM hr hc
 rintro m _ _ ⟨rfl,rfl,rfl⟩
 conv=>whnf
 have u0:decide ((0:Int)<((0:Nat):Int))=false:=by decide
 (repeat((first|refine step_w1 rfl rfl ?_|refine step_w2 rfl rfl ?_|refine g_c (by assumption) ?_|refine g_o (op_pickF rfl (ev_ok rfl) (ev_ok rfl)) ?_|rw[bne_self_eq_false]|refine tst_ff q7 ?_|refine g_o (op_lenM rfl rfl rfl (ev_ok rfl) (tgt rfl) rfl) ?_|rw[u0]|rw[q6]|rw[q7]|rw[w6]|rw[Nat.zero_add]);conv=>whnf))
 refine SW_loopN hE (fun k=>k) [0,4,7,13,14,16,18] [14,16,284] (fun m fr hp=>∃i:Nat,m=x.length - i∧i≤x.length∧fr=[(0,iv r),(4,ptrA [iv c]),(7,iv W),(13,fvec x),(14,.ptr 14 0 0 0),(16,.ptr 16 0 0 0),(18,iv (i:Nat))]∧
  hp=[(14,mblk x.length x.length D),(16,mblk x.length x.length I1),(284,fblk [])]) x.length ?_ ?_ ?_
 ·kernel_rfl
 ·exact⟨0,rfl,Nat.zero_le _,rfl,rfl⟩
 rintro m _ _ ⟨i,rfl,hi,rfl,rfl⟩
 conv=>whnf
 by_cases hlt:i<x.length
 ·have u1:=dlt hlt
  have u2:=winc (i:=i) (by omega)
  (repeat(first|(refine tst_tt u1 ?_;conv=>whnf)|(refine g_o (op_lenM rfl rfl rfl (ev_ok rfl) (tgt rfl) rfl) ?_;conv=>whnf)|(rw[u1];conv=>whnf)))
  refine SW_loopN hE (fun k=>k) [0,4,7,13,14,16,18,19] [14,16,284] (fun m fr hp=>∃k:Nat,m=x.length - k∧k≤x.length∧fr=[(0,iv r),(4,ptrA [iv c]),(7,iv W),(13,fvec x),(14,.ptr 14 0 0 0),(16,.ptr 16 0 0 0),(18,iv (i:Nat)),(19,iv (k:Nat))]∧
   hp=[(14,mblk x.length x.length D),(16,mblk x.length x.length I1),(284,fblk [])]) x.length ?_ ?_ ?_
  ·kernel_rfl
  ·exact⟨0,rfl,Nat.zero_le _,rfl,rfl⟩
  rintro m _ _ ⟨k,rfl,hk,rfl,rfl⟩
  conv=>whnf
  by_cases hlk:k<x.length
  ·have u3:=dlt hlk
   have u4:=winc (i:=k) (by omega)
   obtain⟨w1,w2⟩:=idx_w (i:=i) (k:=k) (c:=x.length) (by omega) (by omega) (by omega)
   have g1:=gD i k hlt hlk
   have g2:=gI i k hlt hlk
   have hix:=idx_lt hlt hlk
   by_cases hik:i=k
   ·have u5:((i:Int)==(k:Int))=true:=beq_iff_eq.2 (by omega)
    rw[if_pos hik]at g1 g2
    (repeat((first|refine step_w1 rfl rfl ?_|refine step_w2 rfl rfl ?_|refine step_i (by kernel_rfl) ?_|refine g_c (by assumption) ?_|refine g_o (op_pickF rfl (ev_ok rfl) (ev_ok rfl)) ?_|refine tst_tt u3 ?_|refine tst_tt u5 ?_|refine g_o (op_lenM rfl rfl rfl (ev_ok rfl) (tgt rfl) rfl) ?_|refine g_o (op_indexN (α:=Rat) (d:=0) rfl (ev_ok rfl) (ev_ok rfl) (tgt rfl) rfl (tgt rfl) rfl (by omega)) ?_|refine g_o (op_loadA rfl (ev_ok rfl) (tgt rfl) rfl (Nat.succ_ne_zero _) rfl) ?_|refine g_o (op_indexM (α:=Rat) (d:=0) rfl (ev_ok rfl) (ev_ok rfl) (tgt rfl) rfl (tgt rfl) rfl (by omega)) ?_|refine⟨_,op_neAgg tabOK goodOK rfl (ev_ok rfl) (ev_ok rfl) rfl rfl rfl rfl (q_eq (g1)) q_guard, ?_⟩|refine⟨_,op_neAgg tabOK goodOK rfl (ev_ok rfl) (ev_ok rfl) rfl rfl rfl rfl (q_eq (g2)) q_guard, ?_⟩|rw[u3]|rw[u5]|rw[u4]|rw[w1]|rw[w2]|rw[Int.toNat_natCast]|rw[Nat.zero_add]);conv=>whnf))
    exact⟨x.length - (k+1),fun k=>k,[0,4,7,13,14,16,18,19],[14,16,284],by omega,by kernel_rfl,k+1,rfl,hlk,rfl,rfl⟩
   ·have u5:((i:Int)==(k:Int))=false:=beq_false_of_ne (by omega)
    rw[if_neg hik]at g1 g2
    (repeat((first|refine step_w1 rfl rfl ?_|refine step_w2 rfl rfl ?_|refine step_i (by kernel_rfl) ?_|refine g_o (op_pickF rfl (ev_ok rfl) (ev_ok rfl)) ?_|refine tst_tt u3 ?_|refine tst_ff u5 ?_|refine g_o (op_lenM rfl rfl rfl (ev_ok rfl) (tgt rfl) rfl) ?_|refine g_o (op_loadA rfl (ev_ok rfl) (tgt rfl) rfl (Nat.succ_ne_zero _) rfl) ?_|refine g_o (op_indexM (α:=Rat) (d:=0) rfl (ev_ok rfl) (ev_ok rfl) (tgt rfl) rfl (tgt rfl) rfl (by omega)) ?_|refine⟨_,op_neAgg tabOK goodOK rfl (ev_ok rfl) (ev_ok rfl) rfl rfl rfl rfl (q_eq (g1)) q_guard, ?_⟩|refine⟨_,op_neAgg tabOK goodOK rfl (ev_ok rfl) (ev_ok rfl) rfl rfl rfl rfl (q_eq (g2)) q_guard, ?_⟩|rw[u3]|rw[u5]|rw[u4]|rw[w1]|rw[w2]|rw[Int.toNat_natCast]|rw[Nat.zero_add]);conv=>whnf))
    exact⟨x.length - (k+1),fun k=>k,[0,4,7,13,14,16,18,19],[14,16,284],by omega,by kernel_rfl,k+1,rfl,hlk,rfl,rfl⟩
  ·have u3:=dge hlk
   (repeat((first|refine tst_ff u3 ?_|refine g_o (op_lenM rfl rfl rfl (ev_ok rfl) (tgt rfl) rfl) ?_|rw[u3]|rw[u2]);conv=>whnf))
   exact⟨x.length - (i+1),fun k=>k,[0,4,7,13,14,16,18],[14,16,284],by omega,by kernel_rfl,i+1,rfl,hlt,rfl,rfl⟩
 have u1:=dge hlt
 clear gD gI hlt
 by_cases h1:r<0
 ·have b1:decide (r≥0)=false:=decide_eq_false (by omega)
  rw[decide_eq_false (by omega)]at hO
  (repeat((first|refine step_w1 rfl rfl ?_|refine step_w2 rfl rfl ?_|refine g_c (by assumption) ?_|refine g_o (op_pickF rfl (ev_ok rfl) (ev_ok rfl)) ?_|rw[bne_self_eq_false]|refine tst_ff u1 ?_|refine tst_ff q9 ?_|refine g_o (op_lenM rfl rfl rfl (ev_ok rfl) (tgt rfl) rfl) ?_|refine g_o (op_loadA rfl (ev_ok rfl) (tgt rfl) rfl (Nat.succ_ne_zero _) rfl) ?_|rw[u1]|rw[q9]);conv=>whnf))
  refine SWx_go hE ?_
  conv=>whnf
  refine g_o (op_make2049 h9 rfl) ?_
  conv=>whnf
  (repeat((first|refine step_w1 rfl rfl ?_|refine g_c (by assumption) ?_|refine g_o (op_pickT rfl (ev_ok rfl) (ev_ok rfl)) ?_|refine g_o (op_pickF rfl (ev_ok rfl) (ev_ok rfl)) ?_|rw[beq_self_eq_true]|refine tst_ff b1 ?_|rw[b1]|rw[hO]);conv=>whnf));(first|exact Recast.refl _|exact Frz.recast (Recast.refl _) rfl|(refine Frz.one rfl rfl ?_;skip)|(refine Frz.tup ?_;skip))
 ·have b1:decide (r≥0)=true:=decide_eq_true (by omega)
  by_cases h2:r≤2048
  ·have b2:decide (r≤2048)=true:=decide_eq_true h2
   rw[decide_eq_true (by omega)]at hO
   (repeat((first|refine step_w1 rfl rfl ?_|refine step_w2 rfl rfl ?_|refine g_c (by assumption) ?_|refine g_o (op_pickF rfl (ev_ok rfl) (ev_ok rfl)) ?_|rw[bne_self_eq_false]|refine tst_ff u1 ?_|refine tst_ff q9 ?_|refine g_o (op_lenM rfl rfl rfl (ev_ok rfl) (tgt rfl) rfl) ?_|refine g_o (op_loadA rfl (ev_ok rfl) (tgt rfl) rfl (Nat.succ_ne_zero _) rfl) ?_|rw[u1]|rw[q9]);conv=>whnf))
   refine SWx_go hE ?_
   conv=>whnf
   refine g_o (op_make2049 h9 rfl) ?_
   conv=>whnf
   (repeat((first|refine step_w1 rfl rfl ?_|refine g_c (by assumption) ?_|refine g_o (op_pickT rfl (ev_ok rfl) (ev_ok rfl)) ?_|rw[beq_self_eq_true]|refine tst_tt b1 ?_|rw[b1]|rw[b2]|rw[hO]);conv=>whnf));(first|exact Recast.refl _|exact Frz.recast (Recast.refl _) rfl|(refine Frz.one rfl rfl ?_;skip)|(refine Frz.tup ?_;skip))
  ·have b2:decide (r≤2048)=false:=decide_eq_false h2
   rw[decide_eq_false (by omega)]at hO
   (repeat((first|refine step_w1 rfl rfl ?_|refine step_w2 rfl rfl ?_|refine g_c (by assumption) ?_|refine g_o (op_pickF rfl (ev_ok rfl) (ev_ok rfl)) ?_|rw[bne_self_eq_false]|refine tst_ff u1 ?_|refine tst_ff q9 ?_|refine g_o (op_lenM rfl rfl rfl (ev_ok rfl) (tgt rfl) rfl) ?_|refine g_o (op_loadA rfl (ev_ok rfl) (tgt rfl) rfl (Nat.succ_ne_zero _) rfl) ?_|rw[u1]|rw[q9]);conv=>whnf))
   refine SWx_go hE ?_
   conv=>whnf
   refine g_o (op_make2049 h9 rfl) ?_
   conv=>whnf
   (repeat((first|refine step_w1 rfl rfl ?_|refine g_c (by assumption) ?_|refine g_o (op_pickT rfl (ev_ok rfl) (ev_ok rfl)) ?_|rw[beq_self_eq_true]|refine tst_tt b1 ?_|rw[b1]|rw[b2]|rw[hO]);conv=>whnf));(first|exact Recast.refl _|exact Frz.recast (Recast.refl _) rfl|(refine Frz.one rfl rfl ?_;skip)|(refine Frz.tup ?_;skip))
theorem c_Makes (r c:Int) (v:List (Int×Int)) (hv:v.length≤maxLen) (hq:∀q∈v,qOK q):CallOK Tryz.prog 14 [iv r,iv c,mvec 2 qA v] [] (.val (.bool true)) [] []:=by
 have kw:=l_works13
 by_cases h1:r>12∧r≤2048
 ·have f1:decide (r>12)=true:=decide_eq_true h1.1
  have f2:decide (r≤2048)=true:=decide_eq_true h1.2
  refine callV (Z:=[4]) tabOK mixedOK Tryz.func14 rfl (by kernel_rfl) rfl rfl (by kernel_rfl) rfl ?_
  intro W0 w0 ρ0 hE
  conv=>whnf
  (repeat((first|refine step_w1 rfl rfl ?_|refine step_w2 rfl rfl ?_|refine g_c (by assumption) ?_|refine g_o (op_pickT rfl (ev_ok rfl) (ev_ok rfl)) ?_|refine tst_tt f1 ?_|rw[f1]|rw[f2]);conv=>whnf));(first|exact Recast.refl _|exact Frz.recast (Recast.refl _) rfl|(refine Frz.one rfl rfl ?_;skip)|(refine Frz.tup ?_;skip))
 have hr:r≤12∨2048<r:=by omega
 by_cases h2:c>12∧c≤2048
 ·have f3:decide (c>12)=true:=decide_eq_true h2.1
  have f4:decide (c≤2048)=true:=decide_eq_true h2.2
  rcases hr with hr|hr
  ·have f1:decide (r>12)=false:=decide_eq_false (by omega)
   refine callV (Z:=[4]) tabOK mixedOK Tryz.func14 rfl (by kernel_rfl) rfl rfl (by kernel_rfl) rfl ?_
   intro W0 w0 ρ0 hE
   conv=>whnf
   (repeat((first|refine step_w1 rfl rfl ?_|refine step_w2 rfl rfl ?_|refine g_c (by assumption) ?_|refine g_o (op_pickT rfl (ev_ok rfl) (ev_ok rfl)) ?_|refine g_o (op_pickF rfl (ev_ok rfl) (ev_ok rfl)) ?_|refine tst_ff f1 ?_|refine tst_tt f3 ?_|refine g_o (op_loadA rfl (ev_ok rfl) (tgt rfl) rfl (Nat.succ_ne_zero _) rfl) ?_|rw[f1]|rw[f3]|rw[f4]);conv=>whnf));(first|exact Recast.refl _|exact Frz.recast (Recast.refl _) rfl|(refine Frz.one rfl rfl ?_;skip)|(refine Frz.tup ?_;skip))
  ·have f1:decide (r>12)=true:=decide_eq_true (by omega)
   have f2:decide (r≤2048)=false:=decide_eq_false (by omega)
   refine callV (Z:=[4]) tabOK mixedOK Tryz.func14 rfl (by kernel_rfl) rfl rfl (by kernel_rfl) rfl ?_
   intro W0 w0 ρ0 hE
   conv=>whnf
   (repeat((first|refine step_w1 rfl rfl ?_|refine step_w2 rfl rfl ?_|refine g_c (by assumption) ?_|refine g_o (op_pickT rfl (ev_ok rfl) (ev_ok rfl)) ?_|refine g_o (op_pickF rfl (ev_ok rfl) (ev_ok rfl)) ?_|refine tst_tt f1 ?_|refine tst_tt f3 ?_|refine g_o (op_loadA rfl (ev_ok rfl) (tgt rfl) rfl (Nat.succ_ne_zero _) rfl) ?_|rw[f1]|rw[f2]|rw[f3]|rw[f4]);conv=>whnf));(first|exact Recast.refl _|exact Frz.recast (Recast.refl _) rfl|(refine Frz.one rfl rfl ?_;skip)|(refine Frz.tup ?_;skip))
 have hc:c≤12∨2048<c:=by omega
 by_cases h3:v.length>12
 ·have f5:decide ((v.length:Int)>12)=true:=decide_eq_true (by omega)
  rcases hr with hr|hr
  ·have f1:decide (r>12)=false:=decide_eq_false (by omega)
   rcases hc with hc|hc
   ·have f3:decide (c>12)=false:=decide_eq_false (by omega)
    refine callV (Z:=[4]) tabOK mixedOK Tryz.func14 rfl (by kernel_rfl) rfl rfl (by kernel_rfl) rfl ?_
    intro W0 w0 ρ0 hE
    conv=>whnf
    (repeat((first|refine step_w1 rfl rfl ?_|refine g_c (by assumption) ?_|refine g_o (op_pickF rfl (ev_ok rfl) (ev_ok rfl)) ?_|refine tst_ff f1 ?_|refine tst_ff f3 ?_|refine tst_tt f5 ?_|refine g_o (op_lenM rfl rfl rfl (ev_ok rfl) (tgt rfl) rfl) ?_|refine g_o (op_loadA rfl (ev_ok rfl) (tgt rfl) rfl (Nat.succ_ne_zero _) rfl) ?_|rw[f1]|rw[f3]);conv=>whnf));(first|exact Recast.refl _|exact Frz.recast (Recast.refl _) rfl|(refine Frz.one rfl rfl ?_;skip)|(refine Frz.tup ?_;skip))
   ·have f3:decide (c>12)=true:=decide_eq_true (by omega)
    have f4:decide (c≤2048)=false:=decide_eq_false (by omega)
    refine callV (Z:=[4]) tabOK mixedOK Tryz.func14 rfl (by kernel_rfl) rfl rfl (by kernel_rfl) rfl ?_
    intro W0 w0 ρ0 hE
    conv=>whnf
    (repeat((first|refine step_w1 rfl rfl ?_|refine g_c (by assumption) ?_|refine g_o (op_pickT rfl (ev_ok rfl) (ev_ok rfl)) ?_|refine g_o (op_pickF rfl (ev_ok rfl) (ev_ok rfl)) ?_|refine tst_ff f1 ?_|refine tst_tt f3 ?_|refine tst_tt f5 ?_|refine g_o (op_lenM rfl rfl rfl (ev_ok rfl) (tgt rfl) rfl) ?_|refine g_o (op_loadA rfl (ev_ok rfl) (tgt rfl) rfl (Nat.succ_ne_zero _) rfl) ?_|rw[f1]|rw[f3]|rw[f4]);conv=>whnf));(first|exact Recast.refl _|exact Frz.recast (Recast.refl _) rfl|(refine Frz.one rfl rfl ?_;skip)|(refine Frz.tup ?_;skip))
  ·have f1:decide (r>12)=true:=decide_eq_true (by omega)
   have f2:decide (r≤2048)=false:=decide_eq_false (by omega)
   rcases hc with hc|hc
   ·have f3:decide (c>12)=false:=decide_eq_false (by omega)
    refine callV (Z:=[4]) tabOK mixedOK Tryz.func14 rfl (by kernel_rfl) rfl rfl (by kernel_rfl) rfl ?_
    intro W0 w0 ρ0 hE
    conv=>whnf
    (repeat((first|refine step_w1 rfl rfl ?_|refine g_c (by assumption) ?_|refine g_o (op_pickT rfl (ev_ok rfl) (ev_ok rfl)) ?_|refine g_o (op_pickF rfl (ev_ok rfl) (ev_ok rfl)) ?_|refine tst_tt f1 ?_|refine tst_ff f3 ?_|refine tst_tt f5 ?_|refine g_o (op_lenM rfl rfl rfl (ev_ok rfl) (tgt rfl) rfl) ?_|refine g_o (op_loadA rfl (ev_ok rfl) (tgt rfl) rfl (Nat.succ_ne_zero _) rfl) ?_|rw[f1]|rw[f2]|rw[f3]);conv=>whnf));(first|exact Recast.refl _|exact Frz.recast (Recast.refl _) rfl|(refine Frz.one rfl rfl ?_;skip)|(refine Frz.tup ?_;skip))
   ·have f3:decide (c>12)=true:=decide_eq_true (by omega)
    have f4:decide (c≤2048)=false:=decide_eq_false (by omega)
    refine callV (Z:=[4]) tabOK mixedOK Tryz.func14 rfl (by kernel_rfl) rfl rfl (by kernel_rfl) rfl ?_
    intro W0 w0 ρ0 hE
    conv=>whnf
    (repeat((first|refine step_w1 rfl rfl ?_|refine g_c (by assumption) ?_|refine g_o (op_pickT rfl (ev_ok rfl) (ev_ok rfl)) ?_|refine g_o (op_pickF rfl (ev_ok rfl) (ev_ok rfl)) ?_|refine tst_tt f1 ?_|refine tst_tt f3 ?_|refine tst_tt f5 ?_|refine g_o (op_lenM rfl rfl rfl (ev_ok rfl) (tgt rfl) rfl) ?_|refine g_o (op_loadA rfl (ev_ok rfl) (tgt rfl) rfl (Nat.succ_ne_zero _) rfl) ?_|rw[f1]|rw[f2]|rw[f3]|rw[f4]);conv=>whnf));(first|exact Recast.refl _|exact Frz.recast (Recast.refl _) rfl|(refine Frz.one rfl rfl ?_;skip)|(refine Frz.tup ?_;skip))
 by_cases hs:sidesF r c=0
 ·obtain⟨g1,g2⟩:=sides_ok hs
  obtain⟨R,rfl⟩:=Int.eq_ofNat_of_zero_le g1.1
  obtain⟨C,rfl⟩:=Int.eq_ofNat_of_zero_le g2.1
  exact c_MakesOk R C v (by omega) (by omega) (by omega) hq
 ·exact c_MakesBad r c v hr hc hs (by omega) hq
end Go.Proofs.YtfpagioknjjacaaGreatDoor
