/- The texts At. -/
import Derived.Test.YtfjhnollamkdcaaGreatDoorQLModesQuotient3
namespace Go.Proofs.YtfjhnollamkdcaaGreatDoor
open Go.Sx
set_option linter.unusedSimpArgs false
set_option linter.unusedVariables false
set_option maxRecDepth 100000
set_option maxHeartbeats 40000000
def qtR (n:Nat) (a m v:List Rat):Rat:=mform n n a v v/mform n n m v v
theorem qt_ray {n:Nat} {a m v:List Rat} (hv:v.length=n):qtR n a m v=qf n (el a n) (fun i=>v.getD i 0)/qf n (el m n) fun i=>v.getD i 0:=by unfold qtR;rw[form_qf hv,form_qf hv]
theorem qt_times {n:Nat} {a m v:List Rat} {c:Rat} (hv:v.length=n) (hc:c≠0):qtR n a m (vscale c v)=qtR n a m v:=by
 have lz:(vscale c v).length=n:=zip_len hv hv
 rw[qt_ray hv,qt_ray lz,←ray_times (x:=fun i=>v.getD i 0) hc]
 rw[qf_congr (A:=el a n) (y:=fun i=>c*v.getD i 0) fun i hi=>get_scale hv hi,qf_congr (A:=el m n) (y:=fun i=>c*v.getD i 0) fun i hi=>get_scale hv hi]
abbrev aQ (t:Int×Int):SV:=ptrA [iel .i64 t.1,iel .u32 t.2]
abbrev mBk (n:Nat) (a:List Rat):Blk:=⟨30,true,.one (mC n n a)⟩
theorem c_MQuot (l b v:List (Int×Int)) (n:Int) (t c:Int×Int) (hl:lOK l) (hb:lOK b) (hv:lOK v) (hn:0≤n∧n<256) (ht:qOK t) (hc:qOK c):
  CallOK Tryz.prog 10 [lQ l,lQ b,lQ v,iel .u8 n,qA t,qA c] [] (.val (.bool true)) [] []:=by
 have kw:=l_works22
 have kf:=c_few22 [l,b,v] (by simp) (three_mem hl.1 hb.1 hv.1)
 cases hF:[l,b,v].all fun l=>decide (l.length≤40)
 ·rw[hF]at kf
  refine callV (Z:=[10,11,41]) tabOK mixedOK Tryz.func10 rfl (by kernel_rfl) rfl rfl (by kernel_rfl) rfl ?_
  intro W0 w0 ρ0 hE
  conv=>whnf
  (repeat(first|(refine step_w1 rfl rfl ?_;conv=>whnf)|(refine g_c (by assumption) ?_;conv=>whnf)));(first|exact Recast.refl _|exact Frz.recast (Recast.refl _) rfl|(refine Frz.one rfl rfl ?_;skip)|(refine Frz.tup ?_;skip))
 rw[hF]at kf
 obtain⟨e1,e2⟩:=u8_mod n hn 5 (by decide)
 have r4:(n % 5).toNat≤4:=by omega
 obtain⟨r,hr⟩:∃r,r=(n % 5).toNat+1:=⟨_,rfl⟩
 have e3:IntKind.i64.wrap (1+(((n % 5).toNat:Nat):Int))=((r:Nat):Int):=by rw[wrap_i64 (by omega) (by omega)];omega
 generalize (n % 5).toNat=r0 at*
 have r5:r≤5:=by omega
 have kp:=c_pencil l b hl hb r5
 have P:=pen_law hl.2 hb.2 r5
 have qt:=c_QOf t ht
 have qc:=c_QOf c hc
 have ft:=fs_qV ht
 have fc:=fs_qV hc
 have lW:=someL_len v r
 have sW:=Sm_some hv.2 r
 have gW:∀i,i<r→(someL v r).getD i 0=qV (v.getD i (0,0)):=fun i hi=>someL_get hi
 have hWz:∀i,v.length≤i→someL v r=(someL v r).take i++List.replicate (r - i) 0:=fun i hi=>someL_zero hi
 generalize symL l r=a at*
 generalize plusL b r=m at*
 generalize qV t=T at*
 generalize qV c=CC at*
 generalize someL v r=W at*
 have hvl:=hv.1
 refine callF (Z:=[10,11,41,100012]) tabOK mixedOK Tryz.func10 rfl (by kernel_rfl) (by first|rfl|(simp[keylessL,keyless,keylessL_map, *];done)) (by first|rfl|(simp[keylessL,keyless,keylessL_map, *];done)) (by kernel_rfl) rfl ?_
 intro w0 ρ0 hE
 conv=>whnf
 (repeat((first|refine step_w2 rfl rfl ?_|refine step_oA (by first|omega|decide|(simp only[tl0,dlen,List.length_replicate,List.length_set,List.length_map,List.length_zipWith,List.length_take,List.length_append,List.length_cons,List.length_nil];omega)) ?_|refine step_oN (by first|omega|decide|(simp only[tl0,dlen,List.length_replicate,List.length_set,List.length_map,List.length_zipWith,List.length_take,List.length_append,List.length_cons,List.length_nil];omega)) ?_|refine g_c (by assumption) ?_|rw[e2]|rw[e3]|rw[Int.toNat_natCast]);conv=>whnf))
 refine SW_loopN hE (fun k=>k) [2,10,11,13,14,15,16,17,18] [14,15,57] (fun M fr hp=>∃(i:Nat) (al:Bool),M=r - i∧i≤r∧(al=true↔∀j,j<i→W.getD j 0=0)∧
  fr=[(2,lQ v),(10,aQ t),(11,aQ c),(13,iv (r:Nat)),(14,.ptr 14 0 0 0),(15,.ptr 15 0 0 0),(16,.slc 57 5 0 r),(17,.val (.bool al)),(18,iv (i:Nat))]∧hp=[(14,mBk r a),(15,mBk r m),(57,fblk (W.take i++List.replicate (r - i) 0))]) r ?_ ?_ ?_
 ·kernel_rfl
 ·exact⟨0,true,rfl,Nat.zero_le _,⟨fun _ j hj=>by omega,fun _=>rfl⟩,rfl,rfl⟩
 rintro M _ _ ⟨i,al,rfl,hi,hal,rfl,rfl⟩
 have hlen:=fill_len (d:=(0:Rat)) hi lW
 by_cases hlt:i<r∧i<v.length
 ·have t1:=dlt hlt.1
  have t2:=dlt hlt.2
  have t3:=winc (i:=i) (by omega)
  have o1:=c_QOf (v.getD i (0,0)) (qOK_at hv.2 i)
  rw[←gW i hlt.1]at o1
  have o2:=c_fSign (W.getD i 0)
  have hset:=fill_set (d:=(0:Rat)) (e:=0) hlt.1 lW
  have hget:(W.take (i+1)++List.replicate (r - (i+1)) 0).getD i 0=W.getD i 0:=by
   rw[←hset];exact set_at (by rw[hlen];exact hlt.1)
  have hlen2:=fill_len (d:=(0:Rat)) (show i+1≤r from hlt.1) lW
  have hnx:(∀j,j<i+1→W.getD j 0=0)↔(∀j,j<i→W.getD j 0=0)∧W.getD i 0=0:=
   ⟨fun g=>⟨fun j hj=>g j (by omega),g i (by omega)⟩,fun g j hj=>by
    by_cases e:j=i
    ·rw[e];exact g.2
    ·exact g.1 j (by omega)⟩
  clear P
  conv=>whnf
  cases al
  ·(repeat((first|refine step_w2 rfl rfl ?_|refine step_oL (by first|omega|decide|(simp only[tl0,dlen,List.length_replicate,List.length_set,List.length_map,List.length_zipWith,List.length_take,List.length_append,List.length_cons,List.length_nil];omega)) ?_|refine step_oA (by first|omega|decide|(simp only[tl0,dlen,List.length_replicate,List.length_set,List.length_map,List.length_zipWith,List.length_take,List.length_append,List.length_cons,List.length_nil];omega)) ?_|refine g_c (by assumption) ?_|refine g_o (op_pickT rfl (ev_ok rfl) (ev_ok rfl)) ?_|refine g_o (op_pickF rfl (ev_ok rfl) (ev_ok rfl)) ?_|refine tst_tt t1 ?_|refine tst_tt t2 ?_|refine g_o (op_lenM rfl rfl rfl (ev_ok rfl) (tgt rfl) rfl) ?_|refine g_o (op_loadA rfl (ev_ok rfl) (tgt rfl) rfl (Nat.succ_ne_zero _) rfl) ?_|refine g_o (op_indexN (α:=Int×Int) (d:=(0,0)) rfl (ev_ok rfl) (ev_ok rfl) (tgt rfl) rfl (tgt rfl) rfl (by omega)) ?_|rw[t1]|rw[t2]|rw[t3]|rw[Int.toNat_natCast]|rw[Nat.zero_add]);conv=>whnf))
   refine⟨r - (i+1),fun k=>k,[2,10,11,13,14,15,16,17,18],[14,15,57],by omega,by kernel_rfl,i+1,false,rfl,hlt.1, ?_,rfl,by rw[fblk,←hset];rfl⟩
   rw[hnx]
   exact⟨(fun g=>by cases g),fun g=>hal.2 g.1⟩
  ·by_cases hz:W.getD i 0=0
   ·have t4:((W.getD i 0).num.sign==0)=true:=by rw[sign0];exact decide_eq_true hz
    (repeat((first|refine step_w1 rfl rfl ?_|refine step_oL (by first|omega|decide|(simp only[tl0,dlen,List.length_replicate,List.length_set,List.length_map,List.length_zipWith,List.length_take,List.length_append,List.length_cons,List.length_nil];omega)) ?_|refine step_oA (by first|omega|decide|(simp only[tl0,dlen,List.length_replicate,List.length_set,List.length_map,List.length_zipWith,List.length_take,List.length_append,List.length_cons,List.length_nil];omega)) ?_|refine g_c (by assumption) ?_|refine g_o (op_pickT rfl (ev_ok rfl) (ev_ok rfl)) ?_|refine tst_tt t1 ?_|refine tst_tt t2 ?_|refine g_o (op_lenM rfl rfl rfl (ev_ok rfl) (tgt rfl) rfl) ?_|refine g_o (op_loadA rfl (ev_ok rfl) (tgt rfl) rfl (Nat.succ_ne_zero _) rfl) ?_|refine g_o (op_indexN (α:=Int×Int) (d:=(0,0)) rfl (ev_ok rfl) (ev_ok rfl) (tgt rfl) rfl (tgt rfl) rfl (by omega)) ?_|rw[t1]|rw[t2]|rw[hset]|rw[hget]|rw[t4]|rw[t3]|rw[Int.toNat_natCast]|rw[Nat.zero_add]);conv=>whnf))
    refine⟨r - (i+1),fun k=>k,[2,10,11,13,14,15,16,17,18],[14,15,57],by omega,by kernel_rfl,i+1,true,rfl,hlt.1, ?_,rfl,by rw[fblk,←hset];rfl⟩
    rw[hnx]
    exact⟨fun _=>⟨hal.1 rfl,hz⟩,fun _=>rfl⟩
   ·have t4:((W.getD i 0).num.sign==0)=false:=by rw[sign0];exact decide_eq_false hz
    (repeat((first|refine step_w1 rfl rfl ?_|refine step_oL (by first|omega|decide|(simp only[tl0,dlen,List.length_replicate,List.length_set,List.length_map,List.length_zipWith,List.length_take,List.length_append,List.length_cons,List.length_nil];omega)) ?_|refine step_oA (by first|omega|decide|(simp only[tl0,dlen,List.length_replicate,List.length_set,List.length_map,List.length_zipWith,List.length_take,List.length_append,List.length_cons,List.length_nil];omega)) ?_|refine g_c (by assumption) ?_|refine g_o (op_pickT rfl (ev_ok rfl) (ev_ok rfl)) ?_|refine tst_tt t1 ?_|refine tst_tt t2 ?_|refine g_o (op_lenM rfl rfl rfl (ev_ok rfl) (tgt rfl) rfl) ?_|refine g_o (op_loadA rfl (ev_ok rfl) (tgt rfl) rfl (Nat.succ_ne_zero _) rfl) ?_|refine g_o (op_indexN (α:=Int×Int) (d:=(0,0)) rfl (ev_ok rfl) (ev_ok rfl) (tgt rfl) rfl (tgt rfl) rfl (by omega)) ?_|rw[t1]|rw[t2]|rw[hset]|rw[hget]|rw[t4]|rw[t3]|rw[Int.toNat_natCast]|rw[Nat.zero_add]);conv=>whnf))
    refine⟨r - (i+1),fun k=>k,[2,10,11,13,14,15,16,17,18],[14,15,57],by omega,by kernel_rfl,i+1,false,rfl,hlt.1, ?_,rfl,by rw[fblk,←hset];rfl⟩
    rw[hnx]
    exact⟨(fun g=>by cases g),fun g=>absurd g.2 hz⟩
 ·have hWi:W.take i++List.replicate (r - i) 0=W:=by
   by_cases g:i<r
   ·exact(hWz i (by omega)).symm
   ·obtain rfl:i=r:=by omega
    exact fill_all lW
  rw[hWi]
  have hz:al=true↔∀j,j<r→W.getD j 0=0:=by
   rw[hal]
   refine⟨fun g j hj=> ?_,fun g j hj=>g j (by omega)⟩
   by_cases e:j<i
   ·exact g j e
   ·rw[←hWi,List.getD_eq_getElem?_getD,List.getElem?_append_right (by rw[List.length_take];omega),List.length_take,←List.getD_eq_getElem?_getD]
    exact get_zero (by omega)
  have q1:=P.quot (v:=W) (D:=130) (by decide) (by decide) lW sW (by decide) (by decide)
  have q0:=P.quotZ (v:=W) (D:=130) (by decide) (by decide) lW sW (by decide) (by decide)
  have hexit:(decide ((i:Int)<(r:Int))=true∧decide ((i:Int)<(v.length:Int))=false)∨decide ((i:Int)<(r:Int))=false:=by
   by_cases g:i<r
   ·exact .inl ⟨dlt g,dge fun g2=>hlt ⟨g,g2⟩⟩
   ·exact .inr (dge g)
  cases al
  ·have hne:∃i,i<r∧W.getD i 0≠0:=Classical.byContradiction fun hno=>by
    have:=hz.2 fun j hj=>Classical.byContradiction fun g=>hno ⟨j,hj,g⟩
    cases this
   have k1:=q1 hne
   have fq:fs (qtR r a m W)≤50000:=by
    have g1:=form_fs r5 P.oa lW P.za sW
    have g2:=form_fs r5 P.om lW P.zm sW
    have g3:=fs_div (mform r r a W W) (mform r r m W W)
    unfold qtR;omega
   have hray:1≤(countF r a m (qtR r a m W)).m+(countF r a m (qtR r a m W)).left∧1≤(countF r a m (qtR r a m W)).left+(countF r a m (qtR r a m W)).p:=by
    have hi:=P.iner (qtR r a m W)
    generalize countF r a m (qtR r a m W)=F at*
    rw[qt_ray lW]at hi
    exact hi.ray P.pos hne
   have k2:=P.count (T:=50000) (qtR r a m W) fq (by decide) (by decide)
   have hsum:=P.sum (qtR r a m W)
   have kS:=v_Scale CC W (by omega) (fun i hi=>by have:=sW i hi;omega)
   have lS:(vscale CC W).length=r:=zip_len lW lW
   have sS:Sm 260 (vscale CC W):=Sm_scale fc sW
   have qS:=P.quot (v:=vscale CC W) (D:=260) (by decide) (by decide) lS sS (by decide) (by decide)
   have kC:=c_fSign CC
   obtain⟨d1,d2,d3,d4⟩:=P.diff ft
   have o1:=m_Scale P.km ft P.zm (by decide)
   have ov:OKM r r (vscale T m):=OKM_zip P.km P.km
   have o2:=m_Sub P.ka ov P.za (Sm_scale ft P.zm) (by decide)
   have hd:OKM r r (vsub a (vscale T m)):=⟨P.ka.r,P.ka.c,d1⟩
   have kK:=e_KernelS hd (by omega) (by omega) d2 (by decide) (by decide)
   have hVq:∀i,i<(KL r r (vsub a (vscale T m))).length→CallOK Tryz.prog 28 [mA r r a,mA r r m,fvec ((KL r r (vsub a (vscale T m))).getD i [])] [] (.tup [.frac T,iv 0]) [] []:=fun i hi=>by
    have lV:=KL_vlen (r:=r) (c:=r) (a:=vsub a (vscale T m)) hi
    have kV:=KL_ker (r:=r) (c:=r) (a:=vsub a (vscale T m)) hi
    have fV:=KL_free (r:=r) (c:=r) (a:=vsub a (vscale T m)) hi hi
    have sV:=KL_sm (i:=i) hd (by omega) d2 (by decide) hi
    have hfr:=(free_get (sp:=pivL r r (vsub a (vscale T m))) (c:=r) (i:=i) (by rw[←KL_len];exact hi)).1
    have hneV:∃j,j<r∧((KL r r (vsub a (vscale T m))).getD i []).getD j 0≠0:=⟨_,hfr,by rw[fV,if_pos rfl];decide⟩
    have q:=P.quot (by decide) (by decide) lV sV (by decide) (by decide) hneV
    rw[show mform r r a ((KL r r (vsub a (vscale T m))).getD i []) ((KL r r (vsub a (vscale T m))).getD i [])/mform r r m ((KL r r (vsub a (vscale T m))).getD i []) ((KL r r (vsub a (vscale T m))).getD i [])=T from by
     rw[form_qf lV,form_qf lV]
     refine ray_ker P.pos hneV fun j hj=> ?_
     exact(sum_congr r fun q hq=>by rw[←d3 j q hj hq]).trans (kV j hj)]at q
    exact q
   have hKl:(KL r r (vsub a (vscale T m))).length≤r:=by have:=KL_cnt r r (vsub a (vscale T m));omega
   rw[show mform r r a W W/mform r r m W W=qtR r a m W from rfl]at k1
   have hqS:CC≠0→CallOK Tryz.prog 28 [mA r r a,mA r r m,fvec (vscale CC W)] [] (.tup [.frac (qtR r a m W),iv 0]) [] []:=fun hcc=>by
    obtain⟨j,hj,hjne⟩:=hne
    have:=qS ⟨j,hj,by rw[get_scale lW hj];exact fun e=>(Rat.mul_eq_zero.1 e).elim hcc hjne⟩
    rwa [show mform r r a (vscale CC W) (vscale CC W)/mform r r m (vscale CC W) (vscale CC W)=qtR r a m W from qt_times lW hcc]at this
   clear ov q1 q0 qS hz hal gW hWz P d1 d2 d3 d4 hd fq ft fc sW sS hne hlt hF hl hb hv hn ht hc
   generalize KL r r (vsub a (vscale T m))=L at*
   generalize vsub a (vscale T m)=DF at*
   generalize vscale T m=TM at*
   generalize vscale CC W=SW at*
   generalize qtR r a m W=Q at*
   generalize countF r a m Q=F at*
   have w1:IntKind.i64.wrap (((F.m:Nat):Int)+((F.left:Nat):Int))=((F.m+F.left:Nat):Int):=by rw[wrap_i64 (by omega) (by omega)];omega
   have w2:IntKind.i64.wrap (((F.left:Nat):Int)+((F.p:Nat):Int))=((F.left+F.p:Nat):Int):=by rw[wrap_i64 (by omega) (by omega)];omega
   have t5:decide (((F.m+F.left:Nat):Int)<1)=false:=decide_eq_false (by omega)
   have t6:decide (((F.left+F.p:Nat):Int)<1)=false:=decide_eq_false (by omega)
   have q5:(!decide (Q=Q))=false:=by rw[decide_eq_true rfl];rfl
   have q6:(!decide (T=T))=false:=by rw[decide_eq_true rfl];rfl
   rcases hexit with⟨x1,x2⟩|x1
   all_goals
    conv=>whnf
    first|((repeat((first|refine step_w2 rfl rfl ?_|refine g_o (op_pickT rfl (ev_ok rfl) (ev_ok rfl)) ?_|refine g_o (op_pickF rfl (ev_ok rfl) (ev_ok rfl)) ?_|refine tst_tt x1 ?_|refine tst_ff x1 ?_|refine tst_ff x2 ?_|refine g_o (op_lenM rfl rfl rfl (ev_ok rfl) (tgt rfl) rfl) ?_|rw[x1]|rw[x2]);conv=>whnf)))|(skip)
    refine SWx_freezeF 16 57 (fun _ h=>h) rfl rfl lW.symm ?_
    refine SWx_go hE ?_
    conv=>whnf
    by_cases hcc:CC=0
    ·have t7:(CC.num.sign != 0)=false:=by rw[hcc];rfl
     (repeat((first|refine step_w1 rfl rfl ?_|refine step_w2 rfl rfl ?_|refine step_i (by kernel_rfl) ?_|refine g_c (by assumption) ?_|refine g_o (op_pickF rfl (ev_ok rfl) (ev_ok rfl)) ?_|rw[bne_self_eq_false]|refine tst_ff t6 ?_|refine tst_ff t7 ?_|refine g_o (op_loadA rfl (ev_ok rfl) (tgt rfl) rfl (Nat.succ_ne_zero _) rfl) ?_|rw[w1]|rw[w2]|rw[t5]|rw[t6]|rw[t7]);conv=>whnf))
     refine SW_loopN hE (fun k=>k) [10,14,15,33,35] [14,15] (fun M fr hp=>∃j:Nat,M=L.length - j∧j≤L.length∧fr=[(10,aQ t),(14,.ptr 14 0 0 0),(15,.ptr 15 0 0 0),(33,mvec 1 fvec L),(35,iv (j:Nat))]∧hp=[(14,mBk r a),(15,mBk r m)]) L.length ?_ ?_ ?_
     ·kernel_rfl
     ·exact⟨0,rfl,Nat.zero_le _,rfl,rfl⟩
     rintro M _ _ ⟨j,rfl,hj,rfl,rfl⟩
     by_cases hjl:j<L.length
     ·have t8:=dlt hjl
      have t9:=winc (i:=j) (by omega)
      have kq:=hVq j hjl
      conv=>whnf
      (repeat((first|refine step_w1 rfl rfl ?_|refine step_i (by kernel_rfl) ?_|refine g_c (by assumption) ?_|refine g_o (op_pickF rfl (ev_ok rfl) (ev_ok rfl)) ?_|rw[bne_self_eq_false]|refine tst_tt t8 ?_|refine tst_ff q6 ?_|refine g_o (op_lenM rfl rfl rfl (ev_ok rfl) (tgt rfl) rfl) ?_|refine g_o (op_loadA rfl (ev_ok rfl) (tgt rfl) rfl (Nat.succ_ne_zero _) rfl) ?_|refine g_o (op_indexN (α:=List Rat) (d:=[]) rfl (ev_ok rfl) (ev_ok rfl) (tgt rfl) rfl (tgt rfl) rfl (by omega)) ?_|refine⟨_,op_neAgg tabOK goodOK rfl (ev_ok rfl) (ev_ok rfl) rfl rfl rfl rfl (q_same _ _) q_guard, ?_⟩|rw[t8]|rw[q6]|rw[t9]);conv=>whnf))
      exact⟨L.length - (j+1),fun k=>k,[10,14,15,33,35],[14,15],by omega,by kernel_rfl,j+1,rfl,hjl,rfl,rfl⟩
     ·have t8:=dge hjl
      conv=>whnf
      (repeat(first|(refine g_c (by assumption) ?_;conv=>whnf)|(refine tst_ff t8 ?_;conv=>whnf)|(refine g_o (op_lenM rfl rfl rfl (ev_ok rfl) (tgt rfl) rfl) ?_;conv=>whnf)));(first|exact Recast.refl _|exact Frz.recast (Recast.refl _) rfl|(refine Frz.one rfl rfl ?_;skip)|(refine Frz.tup ?_;skip))
    ·have t7:(CC.num.sign != 0)=true:=bne_iff_ne.2 fun g=>hcc (Rat.num_eq_zero.1 (Int.sign_eq_zero_iff_zero.1 g))
     have k3:=hqS hcc
     (repeat((first|refine step_w1 rfl rfl ?_|refine step_w2 rfl rfl ?_|refine step_i (by kernel_rfl) ?_|refine g_c (by assumption) ?_|refine g_o (op_pickF rfl (ev_ok rfl) (ev_ok rfl)) ?_|rw[bne_self_eq_false]|refine tst_ff t6 ?_|refine tst_tt t7 ?_|refine tst_ff q5 ?_|refine g_o (op_loadA rfl (ev_ok rfl) (tgt rfl) rfl (Nat.succ_ne_zero _) rfl) ?_|refine⟨_,op_neAgg tabOK goodOK rfl (ev_ok rfl) (ev_ok rfl) rfl rfl rfl rfl (q_same _ _) q_guard, ?_⟩|rw[w1]|rw[w2]|rw[t5]|rw[t6]|rw[t7]|rw[q5]);conv=>whnf))
     refine SW_loopN hE (fun k=>k) [10,14,15,33,35] [14,15] (fun M fr hp=>∃j:Nat,M=L.length - j∧j≤L.length∧fr=[(10,aQ t),(14,.ptr 14 0 0 0),(15,.ptr 15 0 0 0),(33,mvec 1 fvec L),(35,iv (j:Nat))]∧hp=[(14,mBk r a),(15,mBk r m)]) L.length ?_ ?_ ?_
     ·kernel_rfl
     ·exact⟨0,rfl,Nat.zero_le _,rfl,rfl⟩
     rintro M _ _ ⟨j,rfl,hj,rfl,rfl⟩
     by_cases hjl:j<L.length
     ·have t8:=dlt hjl
      have t9:=winc (i:=j) (by omega)
      have kq:=hVq j hjl
      conv=>whnf
      (repeat((first|refine step_w1 rfl rfl ?_|refine step_i (by kernel_rfl) ?_|refine g_c (by assumption) ?_|refine g_o (op_pickF rfl (ev_ok rfl) (ev_ok rfl)) ?_|rw[bne_self_eq_false]|refine tst_tt t8 ?_|refine tst_ff q6 ?_|refine g_o (op_lenM rfl rfl rfl (ev_ok rfl) (tgt rfl) rfl) ?_|refine g_o (op_loadA rfl (ev_ok rfl) (tgt rfl) rfl (Nat.succ_ne_zero _) rfl) ?_|refine g_o (op_indexN (α:=List Rat) (d:=[]) rfl (ev_ok rfl) (ev_ok rfl) (tgt rfl) rfl (tgt rfl) rfl (by omega)) ?_|refine⟨_,op_neAgg tabOK goodOK rfl (ev_ok rfl) (ev_ok rfl) rfl rfl rfl rfl (q_same _ _) q_guard, ?_⟩|rw[t8]|rw[q6]|rw[t9]);conv=>whnf))
      exact⟨L.length - (j+1),fun k=>k,[10,14,15,33,35],[14,15],by omega,by kernel_rfl,j+1,rfl,hjl,rfl,rfl⟩
     ·have t8:=dge hjl
      conv=>whnf
      (repeat(first|(refine g_c (by assumption) ?_;conv=>whnf)|(refine tst_ff t8 ?_;conv=>whnf)|(refine g_o (op_lenM rfl rfl rfl (ev_ok rfl) (tgt rfl) rfl) ?_;conv=>whnf)));(first|exact Recast.refl _|exact Frz.recast (Recast.refl _) rfl|(refine Frz.one rfl rfl ?_;skip)|(refine Frz.tup ?_;skip))
  ·have k1:=q0 (hz.1 rfl)
   have q5:decide ((0:Rat)=0)=true:=decide_eq_true rfl
   clear q1 q0 hz hal gW hWz P ft fc sW hlt hF hl hb hv hn ht hc
   rcases hexit with⟨x1,x2⟩|x1
   all_goals
    conv=>whnf
    first|((repeat((first|refine step_w2 rfl rfl ?_|refine g_o (op_pickT rfl (ev_ok rfl) (ev_ok rfl)) ?_|refine g_o (op_pickF rfl (ev_ok rfl) (ev_ok rfl)) ?_|refine tst_tt x1 ?_|refine tst_ff x1 ?_|refine tst_ff x2 ?_|refine g_o (op_lenM rfl rfl rfl (ev_ok rfl) (tgt rfl) rfl) ?_|rw[x1]|rw[x2]);conv=>whnf)))|(skip)
    refine SWx_freezeF 16 57 (fun _ h=>h) rfl rfl lW.symm ?_
    refine SWx_go hE ?_
    conv=>whnf
    (repeat((first|refine step_w1 rfl rfl ?_|refine g_c (by assumption) ?_|refine g_o (op_pickT rfl (ev_ok rfl) (ev_ok rfl)) ?_|rw[beq_self_eq_true]|refine⟨_,op_eqAgg tabOK goodOK rfl (ev_ok rfl) (ev_ok rfl) rfl rfl rfl rfl (q_same _ _) q_guard, ?_⟩);conv=>whnf));(first|exact Recast.refl _|exact Frz.recast (Recast.refl _) rfl|(refine Frz.one rfl rfl ?_;skip)|(refine Frz.tup ?_;skip))
theorem law_ModesQuotient (a0 a1 a2:List (Int×Int)) (a3:Int) (a4 a5:Int×Int) (w0:QWf a0) (w1:QWf a1) (w2:QWf a2) (w3:(Lit.int .u8 a3).wf=true) (w4:((Lit.int .i64 a4.1).wf=true)∧((Lit.int .u32 a4.2).wf=true)) (w5:((Lit.int .i64 a5.1).wf=true)∧((Lit.int .u32 a5.2).wf=true)):
  CallOK Tryz.prog 10 [mvec 2 qA a0,mvec 2 qA a1,mvec 2 qA a2,iel .u8 a3,qA a4,qA a5] [] (.val (.bool true)) [] []:=
 c_MQuot a0 a1 a2 a3 a4 a5 ⟨w0.1,qOK_of w0⟩ ⟨w1.1,qOK_of w1⟩ ⟨w2.1,qOK_of w2⟩ (wf_u8 w3) (qOK_one w4) (qOK_one w5)
end Go.Proofs.YtfjhnollamkdcaaGreatDoor
