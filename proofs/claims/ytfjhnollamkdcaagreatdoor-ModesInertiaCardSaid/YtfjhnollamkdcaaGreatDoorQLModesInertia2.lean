/- The texts Ar. -/
import Derived.Test.YtfjhnollamkdcaaGreatDoorQLModesInertia1
namespace Go.Proofs.YtfjhnollamkdcaaGreatDoor
open Go.Sx
set_option linter.unusedSimpArgs false
set_option linter.unusedVariables false
set_option maxRecDepth 100000
set_option maxHeartbeats 40000000
theorem cgM_sym {n:Nat} {A:Mx} (C:Mx) (h:SymX n A):SymX n (pr n (tr C) (pr n A C)):=by
 intro i k hi hk
 show sumR n (fun p=>C p i*sumR n fun q=>A p q*C q k)=sumR n (fun p=>C p k*sumR n fun q=>A p q*C q i)
 rw[sum_congr n (g:=fun p=>sumR n fun q=>C p i*(A p q*C q k)) fun p _=>by rw[sum_mulL],sum_swap]
 refine sum_congr n fun q hq=> ?_
 rw[sum_mulL]
 exact sum_congr n fun p hp=>by rw[h p q hp hq];grind
abbrev cgL (n:Nat) (a c:List Rat):List Rat:=mmul n n n (mturn n n c) (mmul n n n a c)
theorem cgL_el {n:Nat} {a c:List Rat} {i k:Nat} (hi:i<n) (hk:k<n):el (cgL n a c) n i k=pr n (tr (el c n)) (pr n (el a n) (el c n)) i k:=by
 rw[mmul_el hi hk]
 exact sum_congr n fun p hp=>by rw[turn_el hi hp,mmul_el hp hk];rfl
theorem Pen.cong {n B C D:Nat} {a m c:List Rat} (h:Pen n B C a m) (hc:c.length=n*n) (sc:Sm D c) (hd:det n (el c n)≠0) (t:Rat):
  Pen n (2+5*(D+(2+5*(B+D)))) (2+5*(D+(2+5*(C+D)))) (cgL n a c) (cgL n m c)∧(countF n (cgL n a c) (cgL n m c) t).m=(countF n a m t).m∧(countF n (cgL n a c) (cgL n m c) t).left=(countF n a m t).left∧(countF n (cgL n a c) (cgL n m c) t).p=(countF n a m t).p:=by
 have n5:=h.n5
 have lt:(mturn n n c).length=n*n:=mk_len ..
 have sz:∀{x:List Rat} {X:Nat},x.length=n*n→Sm X x→Sm (2+5*(D+(2+5*(X+D)))) (cgL n x c):=fun {x X} hx sx=>Sm_mul lt (mk_len ..) (Sm_turn hc sc) (Sm_mul hx hc sx sc n5) n5
 have P:Pen n (2+5*(D+(2+5*(B+D)))) (2+5*(D+(2+5*(C+D)))) (cgL n a c) (cgL n m c):=⟨n5,mk_len ..,mk_len ..,
  fun i k hi hk=>by rw[cgL_el hi hk,cgL_el hk hi];exact cgM_sym (el c n) h.sa i k hi hk,
  fun i k hi hk=>by rw[cgL_el hi hk,cgL_el hk hi];exact cgM_sym (el c n) h.sm i k hi hk,
  (h.pos.cg (cg_mul (el m n) hd)).congr fun i k hi hk=>(cgL_el hi hk).symm,sz h.oa h.za,sz h.om h.zm⟩
 refine⟨P,(P.iner t).unique (((h.iner t).cg (cg_mul _ hd)).congr fun i k hi hk=> ?_)⟩
 show pr n (tr (el c n)) (pr n (pcl (el a n) (el m n) t) (el c n)) i k=el (cgL n a c) n i k - t*el (cgL n m c) n i k
 rw[cgL_el hi hk,cgL_el hi hk]
 show sumR n (fun p=>el c n p i*sumR n fun q=>(el a n p q - t*el m n p q)*el c n q k)=sumR n (fun p=>el c n p i*sumR n fun q=>el a n p q*el c n q k) - t*sumR n (fun p=>el c n p i*sumR n fun q=>el m n p q*el c n q k)
 have e1:∀p,sumR n (fun q=>(el a n p q - t*el m n p q)*el c n q k)=sumR n (fun q=>el a n p q*el c n q k)+(-t)*sumR n (fun q=>el m n p q*el c n q k):=fun p=>by
  rw[←sum_smul,←sum_add];exact sum_congr n fun q _=>by grind
 rw[sum_congr n (g:=fun p=>el c n p i*sumR n (fun q=>el a n p q*el c n q k)+(-t)*(el c n p i*sumR n (fun q=>el m n p q*el c n q k))) fun p _=>by rw[e1];grind,sum_add,sum_smul]
 grind
theorem three_mem {l b c:List (Int×Int)} (hl:l.length≤maxLen) (hb:b.length≤maxLen) (hc:c.length≤maxLen):∀x∈[l,b,c],x.length≤maxLen:=fun x hx=>by
 simp only[List.mem_cons,List.not_mem_nil,or_false]at hx
 rcases hx with rfl|rfl|rfl<;>assumption
theorem Pen.diff {n B C T:Nat} {a m:List Rat} {t:Rat} (h:Pen n B C a m) (ht:fs t≤T):(vsub a (vscale t m)).length=n*n∧Sm (B+(T+C)) (vsub a (vscale t m))∧(∀i k,i<n→k<n→el (vsub a (vscale t m)) n i k=pcl (el a n) (el m n) t i k)∧(countF n a m t).left+(pivL n n (vsub a (vscale t m))).length=n:=by
 have ls:(vscale t m).length=n*n:=zip_len h.om h.om
 have e:∀i k,i<n→k<n→el (vsub a (vscale t m)) n i k=pcl (el a n) (el m n) t i k:=fun i k hi hk=>by
  show(vsub a (vscale t m)).getD (i*n+k) 0=_
  rw[get_sub h.oa ls (idx_lt hi hk),get_scale h.om (idx_lt hi hk)];rfl
 refine⟨zip_len h.oa ls,Sm_zip fs_sub h.za (Sm_scale ht h.zm) (by rw[h.oa,ls]),e, ?_⟩
 exact Iner.rank (fun i k hi hk=>by rw[e i k hi hk,e k i hk hi];exact pcl_sym h.sa h.sm t i k hi hk) ((h.iner t).congr fun i k hi hk=>(e i k hi hk).symm)
theorem c_MInertia (l b c:List (Int×Int)) (n:Int) (t:Int×Int) (hl:lOK l) (hb:lOK b) (hc:lOK c) (hn:0≤n∧n<256) (ht:qOK t):
  CallOK Tryz.prog 9 [lQ l,lQ b,lQ c,iel .u8 n,qA t] [] (.val (.bool true)) [] []:=by
 have kw:=l_works22
 have kf:=c_few22 [l,b,c] (by simp) (three_mem hl.1 hb.1 hc.1)
 cases hF:[l,b,c].all fun l=>decide (l.length≤40)
 ·rw[hF]at kf
  refine callV (Z:=[9,44]) tabOK mixedOK Tryz.func9 rfl (by kernel_rfl) rfl rfl (by kernel_rfl) rfl ?_
  intro W0 w0 ρ0 hE
  conv=>whnf
  (repeat(first|(refine step_w1 rfl rfl ?_;conv=>whnf)|(refine g_c (by assumption) ?_;conv=>whnf)));(first|exact Recast.refl _|exact Frz.recast (Recast.refl _) rfl|(refine Frz.one rfl rfl ?_;skip)|(refine Frz.tup ?_;skip))
 rw[hF]at kf
 obtain⟨e1,e2⟩:=u8_mod n hn 6 (by decide)
 have r5:(n % 6).toNat≤5:=by omega
 generalize (n % 6).toNat=r at*
 have kp:=c_pencil l b hl hb r5
 have P:=pen_law hl.2 hb.2 r5
 have h00:(0:Int)≤0∧(0:Int)<256:=by decide
 have ks:=c_Some (0,0,c) ⟨h00,h00,hc.1,hc.2⟩ (r:=r) (c:=r) (by omega) (by omega)
 replace ks:CallOK Tryz.prog 22 [mQ (0,0,c),iv r,iv r] [] (mA r r (someL c (r*r))) [] []:=ks
 have hby:=OKM_some c (r:=r) (c:=r) (by omega) (by omega)
 have sby:=Sm_some hc.2 (r*r)
 have qt:=c_QOf t ht
 have ft:=fs_qV ht
 generalize symL l r=a at*
 generalize plusL b r=m at*
 generalize someL c (r*r)=by' at*
 generalize qV t=T at*
 have k1:=P.count T ft (by decide) (by decide)
 have o1:=m_Scale P.km ft P.zm (by decide)
 have ov:OKM r r (vscale T m):=OKM_zip P.km P.km
 have o2:=m_Sub P.ka ov P.za (Sm_scale ft P.zm) (by decide)
 obtain⟨d1,d2,d3,d4⟩:=P.diff ft
 have hd:OKM r r (vsub a (vscale T m)):=⟨P.ka.r,P.ka.c,d1⟩
 have k2:=e_RankS hd (by omega) (by omega) d2 (by decide) (by decide)
 have k3:=e_RankS hby (by omega) (by omega) sby (by decide) (by decide)
 have s1:=P.sum T
 have hrk:=rank_full (n:=r) (x:=by')
 have hle:=rnk_le_r r r (el by' r)
 rw[←pivL_rnk]at hle
 have o3:=m_Turn hby
 have o4:=m_Mul 5 P.ka hby P.za sby r5 (by decide)
 have o5:=m_Mul 5 P.km hby P.zm sby r5 (by decide)
 have o6:=m_Mul 5 (OKM_turn hby) (OKM_mul P.ka hby) (Sm_turn hby.n sby) (Sm_mul P.oa hby.n P.za sby r5) r5 (by decide)
 have o7:=m_Mul 5 (OKM_turn hby) (OKM_mul P.km hby) (Sm_turn hby.n sby) (Sm_mul P.om hby.n P.zm sby r5) r5 (by decide)
 have w1:IntKind.i64.wrap ((((countF r a m T).m:Nat):Int)+(((countF r a m T).left:Nat):Int))=(((countF r a m T).m+(countF r a m T).left:Nat):Int):=by rw[wrap_i64 (by omega) (by omega)];omega
 have w2:IntKind.i64.wrap ((((countF r a m T).m+(countF r a m T).left:Nat):Int)+(((countF r a m T).p:Nat):Int))=((r:Nat):Int):=by rw[wrap_i64 (by omega) (by omega)];omega
 have w3:IntKind.i64.wrap (((r:Nat):Int) - (((pivL r r (vsub a (vscale T m))).length:Nat):Int))=(((countF r a m T).left:Nat):Int):=by rw[wrap_i64 (by omega) (by omega)];omega
 have t1:decide ((((countF r a m T).m:Nat):Int)<0)=false:=decide_eq_false (by omega)
 have t2:decide ((((countF r a m T).left:Nat):Int)<0)=false:=decide_eq_false (by omega)
 have t3:decide ((((countF r a m T).p:Nat):Int)<0)=false:=decide_eq_false (by omega)
 by_cases hfull:(pivL r r by').length=r
 ·obtain⟨P2,g1,g2,g3⟩:=P.cong hby.n sby (hrk.1 hfull) T
  have k4:=P2.count T ft (by decide) (by decide)
  rw[g1,g2,g3]at k4
  unfold cgL at k4
  have t4:decide ((((pivL r r by').length:Nat):Int)<((r:Nat):Int))=false:=decide_eq_false (by omega)
  clear ov g1 g2 g3 P P2 hrk hle hfull s1 d1 d2 d3 d4 hd hby sby hF hl hb hc hn ht h00 ft
  generalize mmul r r r (mturn r r by') (mmul r r r a by')=X at*
  generalize mmul r r r (mturn r r by') (mmul r r r m by')=Y at*
  generalize mmul r r r a by'=AB at*
  generalize mmul r r r m by'=MB at*
  generalize mturn r r by'=TU at*
  generalize (pivL r r by').length=R2 at*
  generalize (pivL r r (vsub a (vscale T m))).length=R1 at*
  generalize vsub a (vscale T m)=DF at*
  generalize vscale T m=TM at*
  generalize countF r a m T=F at*
  refine callV (Z:=[9,44]) tabOK mixedOK Tryz.func9 rfl (by kernel_rfl) rfl rfl (by kernel_rfl) rfl ?_
  intro W0 w0 ρ0 hE
  conv=>whnf
  (repeat((first|refine step_w1 rfl rfl ?_|refine step_w2 rfl rfl ?_|refine step_i (by kernel_rfl) ?_|refine step_oN (by first|omega|decide|(simp only[tl0,dlen,List.length_replicate,List.length_set,List.length_map,List.length_zipWith,List.length_take,List.length_append,List.length_cons,List.length_nil];omega)) ?_|refine g_c (by assumption) ?_|refine g_o (op_pickT rfl (ev_ok rfl) (ev_ok rfl)) ?_|refine g_o (op_pickF rfl (ev_ok rfl) (ev_ok rfl)) ?_|rw[beq_self_eq_true]|rw[bne_self_eq_false]|refine tst_ff t4 ?_|refine g_o (op_loadA rfl (ev_ok rfl) (tgt rfl) rfl (Nat.succ_ne_zero _) rfl) ?_|rw[e2]|rw[w1]|rw[w2]|rw[w3]);conv=>whnf));(first|exact Recast.refl _|exact Frz.recast (Recast.refl _) rfl|(refine Frz.one rfl rfl ?_;skip)|(refine Frz.tup ?_;skip))
 ·have t4:decide ((((pivL r r by').length:Nat):Int)<((r:Nat):Int))=true:=decide_eq_true (by omega)
  clear ov P hrk hle hfull s1 d1 d2 d3 d4 hd hby sby hF hl hb hc hn ht h00 ft o4 o5 o6 o7
  generalize (pivL r r by').length=R2 at*
  generalize (pivL r r (vsub a (vscale T m))).length=R1 at*
  generalize vsub a (vscale T m)=DF at*
  generalize vscale T m=TM at*
  generalize countF r a m T=F at*
  refine callV (Z:=[9,44]) tabOK mixedOK Tryz.func9 rfl (by kernel_rfl) rfl rfl (by kernel_rfl) rfl ?_
  intro W0 w0 ρ0 hE
  conv=>whnf
  (repeat((first|refine step_w1 rfl rfl ?_|refine step_w2 rfl rfl ?_|refine step_i (by kernel_rfl) ?_|refine step_oN (by first|omega|decide|(simp only[tl0,dlen,List.length_replicate,List.length_set,List.length_map,List.length_zipWith,List.length_take,List.length_append,List.length_cons,List.length_nil];omega)) ?_|refine g_c (by assumption) ?_|refine g_o (op_pickF rfl (ev_ok rfl) (ev_ok rfl)) ?_|rw[bne_self_eq_false]|refine tst_tt t4 ?_|refine g_o (op_loadA rfl (ev_ok rfl) (tgt rfl) rfl (Nat.succ_ne_zero _) rfl) ?_|rw[e2]|rw[w1]|rw[w2]|rw[w3]);conv=>whnf));(first|exact Recast.refl _|exact Frz.recast (Recast.refl _) rfl|(refine Frz.one rfl rfl ?_;skip)|(refine Frz.tup ?_;skip))
theorem law_ModesInertia (a0 a1 a2:List (Int×Int)) (a3:Int) (a4:Int×Int) (w0:QWf a0) (w1:QWf a1) (w2:QWf a2) (w3:(Lit.int .u8 a3).wf=true) (w4:((Lit.int .i64 a4.1).wf=true)∧((Lit.int .u32 a4.2).wf=true)):
  CallOK Tryz.prog 9 [mvec 2 qA a0,mvec 2 qA a1,mvec 2 qA a2,iel .u8 a3,qA a4] [] (.val (.bool true)) [] []:=
 c_MInertia a0 a1 a2 a3 a4 ⟨w0.1,qOK_of w0⟩ ⟨w1.1,qOK_of w1⟩ ⟨w2.1,qOK_of w2⟩ (wf_u8 w3) (qOK_one w4)
end Go.Proofs.YtfjhnollamkdcaaGreatDoor
