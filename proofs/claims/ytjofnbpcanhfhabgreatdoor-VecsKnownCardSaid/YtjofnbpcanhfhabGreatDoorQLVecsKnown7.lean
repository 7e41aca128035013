/- The texts Hf. -/
import Derived.Laws.Cover1
import Derived.Test.YtjofnbpcanhfhabGreatDoorQLVecsKnown6
namespace Go.Proofs.YtjofnbpcanhfhabGreatDoor
open Go.Sx
set_option linter.unusedSimpArgs false
set_option linter.unusedVariables false
set_option maxRecDepth 100000
set_option maxHeartbeats 8000000
section
variable {P:Program} {o:Oper} {ft:List (Nat×SV)} {fk:List (Nat×Blk)}
theorem op_min3 {xs:Array Operand} {ts:Array TypeId} {x y z:Operand} {k k' k'':IntKind} {a b c:Int} (ho:o.op= .call ⟨.builtin .min,xs,ts⟩) (hxs:xs= #[x,y,z]) (hx:EvOK ft x (.val (.int k a))) (hy:EvOK ft y (.val (.int k' b))) (hz:EvOK ft z (.val (.int k'' c))):
  OpOK P o ft fk (.val (.int k (if c<(if b<a then b else a)then c else(if b<a then b else a)))) [] []:=
 ok_pure fun ρ ac w hp=>by
  have e1:=of_has_val (hx ρ ac hp.hft)
  have e2:=of_has_val (hy ρ ac hp.hft)
  have e3:=of_has_val (hz ρ ac hp.hft)
  refine⟨_, ?_,has_val rfl⟩
  simp[execOp,ho,hxs,resolve,invoke,builtin,e1,e2,e3,run_min_int3]
end
theorem c_Space (c d:Int×Int) (la lb lg:List (Int×Int)) (hc:qOK c) (hd:qOK d) (hoa:∀q∈la,qOK q) (hob:∀q∈lb,qOK q) (hog:∀q∈lg,qOK q):
  CallOK Tryz.prog 5 [qA c,qA d,mvec 2 qA la,mvec 2 qA lb,mvec 2 qA lg] [] (.val (.bool true)) [] []:=by
 have kw:=l_works
 refine callV (Z:=[5,6]) tabOK mixedOK Tryz.func5 rfl (by kernel_rfl) rfl rfl (by kernel_rfl) rfl ?_
 intro W0 w0 ρ0 hE
 conv=>whnf
 by_cases h1:la.length>20
 ·have t1:Hid (decide ((la.length:Int)>20)=true):=show decide ((la.length:Int)>20)=true from decide_eq_true (by omega)
  (repeat((first|refine step_w1 rfl rfl ?_|refine step_w2 rfl rfl ?_|refine g_c (by assumption) ?_|refine g_o (op_pickT rfl (ev_ok rfl) (ev_ok rfl)) ?_|refine g_o (op_lenM rfl rfl rfl (ev_ok rfl) (tgt rfl) rfl) ?_|rw[t1.out]);conv=>whnf));(first|exact Recast.refl _|exact Frz.recast (Recast.refl _) rfl|(refine Frz.one rfl rfl ?_;skip)|(refine Frz.tup ?_;skip))
 have t1:Hid (decide ((la.length:Int)>20)=false):=show decide ((la.length:Int)>20)=false from decide_eq_false (by omega)
 by_cases h2:lb.length>20
 ·have t2:Hid (decide ((lb.length:Int)>20)=true):=show decide ((lb.length:Int)>20)=true from decide_eq_true (by omega)
  (repeat((first|refine step_w1 rfl rfl ?_|refine step_w2 rfl rfl ?_|refine g_c (by assumption) ?_|refine g_o (op_pickT rfl (ev_ok rfl) (ev_ok rfl)) ?_|refine g_o (op_pickF rfl (ev_ok rfl) (ev_ok rfl)) ?_|refine g_o (op_lenM rfl rfl rfl (ev_ok rfl) (tgt rfl) rfl) ?_|rw[t1.out]|rw[t2.out]);conv=>whnf));(first|exact Recast.refl _|exact Frz.recast (Recast.refl _) rfl|(refine Frz.one rfl rfl ?_;skip)|(refine Frz.tup ?_;skip))
 have t2:Hid (decide ((lb.length:Int)>20)=false):=show decide ((lb.length:Int)>20)=false from decide_eq_false (by omega)
 by_cases h3:lg.length>20
 ·have t3:Hid (decide ((lg.length:Int)>20)=true):=show decide ((lg.length:Int)>20)=true from decide_eq_true (by omega)
  (repeat((first|refine step_w1 rfl rfl ?_|refine g_c (by assumption) ?_|refine g_o (op_pickF rfl (ev_ok rfl) (ev_ok rfl)) ?_|refine g_o (op_lenM rfl rfl rfl (ev_ok rfl) (tgt rfl) rfl) ?_|rw[t1.out]|rw[t2.out]|rw[t3.out]);conv=>whnf));(first|exact Recast.refl _|exact Frz.recast (Recast.refl _) rfl|(refine Frz.one rfl rfl ?_;skip)|(refine Frz.tup ?_;skip))
 have t3:Hid (decide ((lg.length:Int)>20)=false):=show decide ((lg.length:Int)>20)=false from decide_eq_false (by omega)
 obtain⟨n,hn⟩:∃n,n=min (min la.length lb.length) lg.length:=⟨_,rfl⟩
 have e1:Hid ((if (lg.length:Int)<(if (lb.length:Int)<(la.length:Int)then(lb.length:Int)else(la.length:Int))then(lg.length:Int)else(if (lb.length:Int)<(la.length:Int)then(lb.length:Int)else(la.length:Int)))=((n:Nat):Int)):=show(if (lg.length:Int)<(if (lb.length:Int)<(la.length:Int)then(lb.length:Int)else(la.length:Int))then(lg.length:Int)else(if (lb.length:Int)<(la.length:Int)then(lb.length:Int)else(la.length:Int)))=((n:Nat):Int)from by split<;>split<;>omega
 have n20:n≤20:=by omega
 have k1:=c_Vt hoa (n:=n) (by omega)
 have k2:=c_Vt hob (n:=n) (by omega)
 have k3:=c_Vt hog (n:=n) (by omega)
 have nla:n≤la.length:=by omega
 have nlb:n≤lb.length:=by omega
 have nlg:n≤lg.length:=by omega
 clear hn
 have hx:=len_take (l:=la) (n:=n) (by omega)
 have hy:=len_take (l:=lb) (n:=n) (by omega)
 have hz:=len_take (l:=lg) (n:=n) (by omega)
 have sx:=Sm_take hoa n
 have sy:=Sm_take hob n
 have sz:=Sm_take hog n
 have k4:=c_QOf c hc
 have k5:=c_QOf d hd
 have fp:=fs_qV hc
 have fq:=fs_qV hd
 generalize qV c=p at*
 generalize qV d=q at*
 generalize (la.take n).map qV=x at*
 generalize (lb.take n).map qV=y at*
 generalize (lg.take n).map qV=z at*
 have n2:n≤2048:=by omega
 have hxy:(vadd x y).length=n:=zip_len hx hy
 have hyx:(vadd y x).length=n:=zip_len hy hx
 have hyz:(vadd y z).length=n:=zip_len hy hz
 have sxy:Sm 260 (vadd x y):=Sm_zip fs_add sx sy (hx.trans hy.symm)
 have syz:Sm 260 (vadd y z):=Sm_zip fs_add sy sz (hy.trans hz.symm)
 have o1:=v_Sub x y (hx.trans hy.symm) (hx▸n2) (Fit_Sm sx sy (hx.trans hy.symm) (by decide))
 have o2:=v_Zero n n2
 have o3:=s_add sx sy hx hy n2 (by decide)
 have o4:=s_add sy sx hy hx n2 (by decide)
 have o5:=s_same hxy hyx n2 (vec_ext hxy hyx fun i hi=>by rw[get_add hx hy hi,get_add hy hx hi];grind)
 have o6:=s_add sxy sz hxy hz n2 (by decide)
 have o7:=s_add sy sz hy hz n2 (by decide)
 have o8:=s_add sx syz hx hyz n2 (by decide)
 have h9:(vadd (vadd x y) z).length=n:=zip_len hxy hz
 have h10:(vadd x (vadd y z)).length=n:=zip_len hx hyz
 have o9:=s_same h9 h10 n2 (vec_ext h9 h10 fun i hi=>by rw[get_add hxy hz hi,get_add hx hyz hi,get_add hx hy hi,get_add hy hz hi];grind)
 have o10:=c_fInt (-1) (by decide) (by decide)
 have f1:fs ((-1:Int):Rat)≤65:=fs_int (by decide) (by decide)
 have e2:((-1:Int):Rat)= -1:=by decide+kernel
 generalize ((-1:Int):Rat)=mo at*
 have o11:=s_times f1 sy hy n2 (by decide)
 have h11:(vscale mo y).length=n:=zip_len hy hy
 have o12:=s_add sx (Sm_scale f1 sy) hx h11 n2 (by decide)
 have h12:(vadd x (vscale mo y)).length=n:=zip_len hx h11
 have h13:(vsub x y).length=n:=zip_len hx hy
 have o13:=s_same h13 h12 n2 (vec_ext h13 h12 fun i hi=>by rw[get_sub hx hy hi,get_add hx h11 hi,get_scale hy hi,e2];grind)
 have o14:=s_times (c:=0) (C:=2) (by rw[fs_zero];exact Nat.le_refl _) sx hx n2 (by decide)
 have h15:(vscale 0 x).length=n:=zip_len hx hx
 have h16:(List.replicate n (0:Rat)).length=n:=List.length_replicate
 have o15:=s_same h15 h16 n2 (vec_ext h15 h16 fun i hi=>by rw[get_scale hx hi,get_zero hi];grind)
 have o16:=s_add sx (Sm_zero n) hx h16 n2 (by decide)
 have h17:(vadd x (List.replicate n 0)).length=n:=zip_len hx h16
 have o17:=s_same h17 hx n2 (vec_ext h17 hx fun i hi=>by rw[get_add hx h16 hi,get_zero hi];grind)
 have o18:=f_Add p q (Nat.le_trans (Nat.add_le_add fp fq) (by decide))
 have o19:=s_times (Nat.le_trans (fs_add p q) (Nat.add_le_add fp fq)) sx hx n2 (by decide)
 have o20:=s_times fp sx hx n2 (by decide)
 have o21:=s_times fq sx hx n2 (by decide)
 have hpx:(vscale p x).length=n:=zip_len hx hx
 have hqx:(vscale q x).length=n:=zip_len hx hx
 have spx:=Sm_scale fp sx
 have sqx:=Sm_scale fq sx
 have o22:=s_add spx sqx hpx hqx n2 (by decide)
 have h23:(vscale (p+q) x).length=n:=zip_len hx hx
 have h24:(vadd (vscale p x) (vscale q x)).length=n:=zip_len hpx hqx
 have o23:=s_same h23 h24 n2 (vec_ext h23 h24 fun i hi=>by rw[get_scale hx hi,get_add hpx hqx hi,get_scale hx hi,get_scale hx hi];grind)
 have o24:=s_times fp sxy hxy n2 (by decide)
 have o25:=s_times fp sy hy n2 (by decide)
 have hpy:(vscale p y).length=n:=zip_len hy hy
 have o26:=s_add spx (Sm_scale fp sy) hpx hpy n2 (by decide)
 have h27:(vscale p (vadd x y)).length=n:=zip_len hxy hxy
 have h28:(vadd (vscale p x) (vscale p y)).length=n:=zip_len hpx hpy
 have o27:=s_same h27 h28 n2 (vec_ext h27 h28 fun i hi=>by rw[get_scale hxy hi,get_add hx hy hi,get_add hpx hpy hi,get_scale hx hi,get_scale hy hi];grind)
 have o28:=f_Mul p q (Nat.le_trans (Nat.add_le_add fp fq) (by decide))
 have o29:=s_times (Nat.le_trans (fs_mul p q) (Nat.add_le_add fp fq)) sx hx n2 (by decide)
 have o30:=s_times fp sqx hqx n2 (by decide)
 have h31:(vscale (p*q) x).length=n:=zip_len hx hx
 have h32:(vscale p (vscale q x)).length=n:=zip_len hqx hqx
 have o31:=s_same h31 h32 n2 (vec_ext h31 h32 fun i hi=>by rw[get_scale hx hi,get_scale hqx hi,get_scale hx hi];grind)
 have o32:=s_dot20 sx sy hx hy n20 (by decide)
 have o33:=s_dot20 sy sx hy hx n20 (by decide)
 have o34:=s_dot20 sxy sz hxy hz n20 (by decide)
 have o35:=s_dot20 sx sz hx hz n20 (by decide)
 have o36:=s_dot20 sy sz hy hz n20 (by decide)
 have b35:=fs_vdot20 sx sz hx hz n20
 have b36:=fs_vdot20 sy sz hy hz n20
 have o37:=s_dot20 spx sz hpx hz n20 (by decide)
 have o38:=f_Add (vdot x z) (vdot y z) (Nat.le_trans (Nat.add_le_add b35 b36) (by decide))
 have o39:=f_Mul p (vdot x z) (Nat.le_trans (Nat.add_le_add fp b35) (by decide))
 have q1:Hid (decide (vdot x y=vdot y x)=true):=show decide (vdot x y=vdot y x)=true from decide_eq_true (dot_comm hx hy)
 have q2:Hid (decide (vdot (vadd x y) z=vdot x z+vdot y z)=true):=show decide (vdot (vadd x y) z=vdot x z+vdot y z)=true from decide_eq_true (dot_add hx hy hz)
 have q3:Hid (decide (vdot (vscale p x) z=p*vdot x z)=true):=show decide (vdot (vscale p x) z=p*vdot x z)=true from decide_eq_true (dot_scale hx hz)
 clear hx hy hz sx sy sz fp fq hxy hyx hyz sxy syz h9 h10 f1 e2 h11 h12 h13 h15 h16 h17 hpx hqx spx sqx h23 h24 hpy h27 h28 h31 h32 b35 b36
 generalize vadd (vadd x y) z=v1 at*
 generalize vadd x (vadd y z)=v2 at*
 generalize vscale p (vadd x y)=v3 at*
 generalize vadd x y=v4 at*
 generalize vadd y x=v5 at*
 generalize vadd y z=v6 at*
 generalize vadd x (vscale mo y)=v7 at*
 generalize vscale mo y=v8 at*
 generalize vsub x y=v9 at*
 generalize vscale 0 x=v10 at*
 generalize vadd x (List.replicate n 0)=v11 at*
 generalize List.replicate n (0:Rat)=v12 at*
 generalize vscale (p+q) x=v13 at*
 generalize vadd (vscale p x) (vscale q x)=v14 at*
 generalize vadd (vscale p x) (vscale p y)=v15 at*
 generalize vscale p (vscale q x)=v16 at*
 generalize vscale (p*q) x=v17 at*
 generalize vscale p x=v18 at*
 generalize vscale q x=v19 at*
 generalize vscale p y=v20 at*
 generalize vdot x z+vdot y z=r1 at*
 generalize p*vdot x z=r2 at*
 generalize vdot x y=r3 at*
 generalize vdot y x=r4 at*
 generalize vdot v4 z=r5 at*
 generalize vdot x z=r6 at*
 generalize vdot y z=r7 at*
 generalize vdot v18 z=r8 at*
 generalize p+q=r9 at*
 generalize p*q=r10 at*
 (repeat((first|refine step_w1 rfl rfl ?_|refine step_w2 rfl rfl ?_|refine step_i (by kernel_rfl) ?_|refine g_c (by assumption) ?_|refine g_o (op_pickT rfl (ev_ok rfl) (ev_ok rfl)) ?_|refine g_o (op_pickF rfl (ev_ok rfl) (ev_ok rfl)) ?_|refine g_o (op_lenM rfl rfl rfl (ev_ok rfl) (tgt rfl) rfl) ?_|refine g_o (op_loadA rfl (ev_ok rfl) (tgt rfl) rfl (Nat.succ_ne_zero _) rfl) ?_|refine g_o (op_sliceM rfl (ev_ok rfl) (bound_spec rfl) (bound_spec rfl) (.inl rfl) (tgt rfl) rfl (tgt rfl) rfl (by omega)) ?_|refine⟨_,op_eqAgg tabOK goodOK rfl (ev_ok rfl) (ev_ok rfl) rfl rfl rfl rfl (q_same _ _) q_guard, ?_⟩|refine g_o (op_min3 rfl rfl (ev_ok rfl) (ev_ok rfl) (ev_ok rfl)) ?_|rw[t1.out]|rw[t2.out]|rw[t3.out]|rw[e1.out]|rw[q1.out]|rw[q2.out]|rw[q3.out]);conv=>whnf));(first|exact Recast.refl _|exact Frz.recast (Recast.refl _) rfl|(refine Frz.one rfl rfl ?_;skip)|(refine Frz.tup ?_;skip))
theorem law_VecsSpace (a0 a1:Int×Int) (a2 a3 a4:List (Int×Int)) (w0:((Lit.int .i64 a0.1).wf=true)∧((Lit.int .u32 a0.2).wf=true)) (w1:((Lit.int .i64 a1.1).wf=true)∧((Lit.int .u32 a1.2).wf=true)) (w2:QWf a2) (w3:QWf a3) (w4:QWf a4):
  CallOK Tryz.prog 5 [qA a0,qA a1,mvec 2 qA a2,mvec 2 qA a3,mvec 2 qA a4] [] (.val (.bool true)) [] []:=
 c_Space a0 a1 a2 a3 a4 (qOK_one w0) (qOK_one w1) (qOK_of w2) (qOK_of w3) (qOK_of w4)
end Go.Proofs.YtjofnbpcanhfhabGreatDoor
