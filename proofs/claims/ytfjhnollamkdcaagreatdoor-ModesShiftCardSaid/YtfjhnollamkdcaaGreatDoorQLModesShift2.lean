/- The texts Ap. -/
import Derived.Test.YtfjhnollamkdcaaGreatDoorQLModesShift1
namespace Go.Proofs.YtfjhnollamkdcaaGreatDoor
open Go.Sx
set_option linter.unusedSimpArgs false
set_option linter.unusedVariables false
set_option maxRecDepth 100000
set_option maxHeartbeats 40000000
theorem rabs_nn (q:Rat):0≤rabs q:=by
 unfold rabs
 split
 ·rename_i h
  have h1:¬0≤q:=fun g=>by have:=Rat.num_nonneg.2 g;omega
  grind
 ·rename_i h
  exact Rat.num_nonneg.1 (by omega)
section
variable {n B C D:Nat} {a m:List Rat} (h:Pen n B C a m)
include h
theorem Pen.other {b:List Rat} (hl:b.length=n*n) (hs:SymM n b) (hz:Sm D b):Pen n D C b m:=⟨h.n5,hl,h.om,hs,h.sm,h.pos,hz,h.zm⟩
theorem Pen.addM {X:Nat} {x:Rat} (hx:fs x≤X):Pen n (B+(X+C)) C (vadd a (vscale x m)) m∧∀i k,i<n→k<n→el (vadd a (vscale x m)) n i k=el a n i k+x*el m n i k:=by
 have ls:(vscale x m).length=n*n:=zip_len h.om h.om
 have e:∀i k,i<n→k<n→el (vadd a (vscale x m)) n i k=el a n i k+x*el m n i k:=fun i k hi hk=>by
  show(vadd a (vscale x m)).getD (i*n+k) 0=_
  rw[get_add h.oa ls (idx_lt hi hk),get_scale h.om (idx_lt hi hk)]
 refine⟨h.other (zip_len h.oa ls) (fun i k hi hk=> ?_) (Sm_zip fs_add h.za (Sm_scale hx h.zm) (by rw[h.oa,ls])),e⟩
 rw[e i k hi hk,e k i hk hi,h.sa i k hi hk,h.sm i k hi hk]
theorem Pen.timesM {X:Nat} {x:Rat} (hx:fs x≤X):Pen n (X+B) C (vscale x a) m∧∀i k,i<n→k<n→el (vscale x a) n i k=x*el a n i k:=by
 have e:∀i k,i<n→k<n→el (vscale x a) n i k=x*el a n i k:=fun i k hi hk=>by
  show(vscale x a).getD (i*n+k) 0=_
  rw[get_scale h.oa (idx_lt hi hk)]
 refine⟨h.other (zip_len h.oa h.oa) (fun i k hi hk=> ?_) (Sm_scale hx h.za),e⟩
 rw[e i k hi hk,e k i hk hi,h.sa i k hi hk]
end
theorem two_mem {l b:List (Int×Int)} (hl:l.length≤maxLen) (hb:b.length≤maxLen):∀x∈[l,b],x.length≤maxLen:=fun x hx=>by
 simp only[List.mem_cons,List.not_mem_nil,or_false]at hx
 rcases hx with rfl|rfl<;>assumption
abbrev lOK (l:List (Int×Int)):Prop:=l.length≤maxLen∧∀q∈l,qOK q
theorem c_MShift (l b:List (Int×Int)) (n:Int) (t x y:Int×Int) (hl:lOK l) (hb:lOK b) (hn:0≤n∧n<256) (ht:qOK t) (hx:qOK x) (hy:qOK y):
  CallOK Tryz.prog 7 [lQ l,lQ b,iel .u8 n,qA t,qA x,qA y] [] (.val (.bool true)) [] []:=by
 have kw:=l_works22
 have kf:=c_few22 [l,b] (by simp) (two_mem hl.1 hb.1)
 cases hF:[l,b].all fun l=>decide (l.length≤40)
 ·rw[hF]at kf
  refine callV (Z:=[9,10,11,48]) tabOK mixedOK Tryz.func7 rfl (by kernel_rfl) rfl rfl (by kernel_rfl) rfl ?_
  intro W0 w0 ρ0 hE
  conv=>whnf
  (repeat(first|(refine step_w1 rfl rfl ?_;conv=>whnf)|(refine g_c (by assumption) ?_;conv=>whnf)));(first|exact Recast.refl _|exact Frz.recast (Recast.refl _) rfl|(refine Frz.one rfl rfl ?_;skip)|(refine Frz.tup ?_;skip))
 rw[hF]at kf
 obtain⟨e1,e2⟩:=u8_mod n hn 6 (by decide)
 have r5:(n % 6).toNat≤5:=by omega
 generalize (n % 6).toNat=r at*
 have kp:=c_pencil l b hl hb r5
 have P:=pen_law hl.2 hb.2 r5
 have qt:=c_QOf t ht
 have qx:=c_QOf x hx
 have qy:=c_QOf y hy
 have ft:=fs_qV ht
 have fx:=fs_qV hx
 have fy:=fs_qV hy
 generalize symL l r=a at*
 generalize plusL b r=m at*
 generalize qV t=T at*
 generalize qV x=X at*
 generalize qV y=Y at*
 have ya:=f_Abs Y
 have xa:=f_Abs X
 have c1:CallOK Tryz.prog 26 [iv 1] [] (.frac 1) [] []:=c_fInt 1 (by decide) (by decide)
 have cm:CallOK Tryz.prog 26 [iv (-1)] [] (.frac (-1)) [] []:=c_fInt (-1) (by decide) (by decide)
 have fya:fs (rabs Y)≤130:=by rw[fs_abs];exact fy
 have fxa:fs (rabs X)≤130:=by rw[fs_abs];exact fx
 have f1:=fs_one
 have sc:=x_Add (rabs Y) 1 (by omega)
 have fS:fs (rabs Y+1)≤140:=by have:=fs_add (rabs Y) 1;omega
 have hS:(0:Rat)<rabs Y+1:=by have:=rabs_nn Y;grind
 have hXa:=rabs_nn X
 have fm1:fs (-1:Rat)≤10:=by decide+kernel
 obtain⟨P2,l2⟩:=P.addM fx
 obtain⟨P3,l3⟩:=P.timesM fS
 obtain⟨P4,l4⟩:=P.timesM fm1
 have o1:=m_Scale P.km fx P.zm (by decide)
 have ov:OKM r r (vscale X m):=OKM_zip P.km P.km
 have o2:=m_Add P.ka ov P.za (Sm_scale fx P.zm) (by decide)
 have o3:=m_Scale P.ka fS P.za (by decide)
 have o4:=m_Scale P.ka fm1 P.za (by decide)
 have a1:=x_Add T X (by omega)
 have a2:=x_Mul T (rabs Y+1) (by omega)
 have a3:=c_fNeg T
 have a4:=x_Add T (rabs X) (by omega)
 have k1:=P.count T ft (by decide) (by decide)
 have k2:=P2.count (T:=260) (T+X) (by have:=fs_add T X;omega) (by decide) (by decide)
 have k3:=P3.count (T:=270) (T*(rabs Y+1)) (by have:=fs_mul T (rabs Y+1);omega) (by decide) (by decide)
 have k4:=P4.count (T:=130) (-T) (by rw[fs_neg];exact ft) (by decide) (by decide)
 have k5:=P.count (T:=260) (T+rabs X) (by have:=fs_add T (rabs X);omega) (by decide) (by decide)
 obtain⟨g1,g2,g3⟩:=(P.iner T).shift (P2.iner (T+X)) l2
 obtain⟨g4,g5,g6⟩:=(P.iner T).times hS (P3.iner (T*(rabs Y+1))) l3
 obtain⟨g7,g8,g9⟩:=(P.iner T).turn (P4.iner (-T)) l4
 obtain⟨g10,g11⟩:=(P.iner T).up P.pos (show T≤T+rabs X by grind) (P.iner (T+rabs X))
 rw[g1,g2,g3]at k2
 rw[g4,g5,g6]at k3
 rw[g7,g8,g9]at k4
 clear ov g1 g2 g3 g4 g5 g6 g7 g8 g9 P P2 P3 P4 l2 l3 l4 hS hXa f1 ft fx fy fya fxa fS fm1 hF ht hx hy hl hb hn
 generalize countF r a m T=F at*
 generalize countF r a m (T+rabs X)=G at*
 generalize T+rabs X=TX at*
 generalize T*(rabs Y+1)=TS at*
 generalize rabs Y+1=SC at*
 generalize vadd a (vscale X m)=M2 at*
 generalize vscale X m=M1 at*
 have t1:decide (((G.m:Nat):Int)≥((F.m:Nat):Int))=true:=decide_eq_true (by omega)
 have t2:decide (((G.p:Nat):Int)≤((F.p:Nat):Int))=true:=decide_eq_true (by omega)
 clear g10 g11
 refine callV (Z:=[9,10,11,48]) tabOK mixedOK Tryz.func7 rfl (by kernel_rfl) rfl rfl (by kernel_rfl) rfl ?_
 intro W0 w0 ρ0 hE
 conv=>whnf
 (repeat((first|refine step_w1 rfl rfl ?_|refine step_w2 rfl rfl ?_|refine step_i (by kernel_rfl) ?_|refine step_oN (by first|omega|decide|(simp only[tl0,dlen,List.length_replicate,List.length_set,List.length_map,List.length_zipWith,List.length_take,List.length_append,List.length_cons,List.length_nil];omega)) ?_|refine g_c (by assumption) ?_|refine g_o (op_pickT rfl (ev_ok rfl) (ev_ok rfl)) ?_|refine g_o (op_pickF rfl (ev_ok rfl) (ev_ok rfl)) ?_|rw[beq_self_eq_true]|rw[bne_self_eq_false]|refine tst_tt t1 ?_|refine tst_tt t2 ?_|refine g_o (op_loadA rfl (ev_ok rfl) (tgt rfl) rfl (Nat.succ_ne_zero _) rfl) ?_|rw[e2]|rw[t1]|rw[t2]);conv=>whnf));(first|exact Recast.refl _|exact Frz.recast (Recast.refl _) rfl|(refine Frz.one rfl rfl ?_;skip)|(refine Frz.tup ?_;skip))
theorem law_ModesShift (a0 a1:List (Int×Int)) (a2:Int) (a3 a4 a5:Int×Int) (w0:QWf a0) (w1:QWf a1) (w2:(Lit.int .u8 a2).wf=true) (w3:((Lit.int .i64 a3.1).wf=true)∧((Lit.int .u32 a3.2).wf=true)) (w4:((Lit.int .i64 a4.1).wf=true)∧((Lit.int .u32 a4.2).wf=true)) (w5:((Lit.int .i64 a5.1).wf=true)∧((Lit.int .u32 a5.2).wf=true)):
  CallOK Tryz.prog 7 [mvec 2 qA a0,mvec 2 qA a1,iel .u8 a2,qA a3,qA a4,qA a5] [] (.val (.bool true)) [] []:=
 c_MShift a0 a1 a2 a3 a4 a5 ⟨w0.1,qOK_of w0⟩ ⟨w1.1,qOK_of w1⟩ (wf_u8 w2) (qOK_one w3) (qOK_one w4) (qOK_one w5)
end Go.Proofs.YtfjhnollamkdcaaGreatDoor
