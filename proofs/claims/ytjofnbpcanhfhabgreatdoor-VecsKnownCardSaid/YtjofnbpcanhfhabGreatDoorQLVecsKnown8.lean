/- The texts Hg, Hi, Hj, Hk, Hl, Hm. -/
import Derived.Test.YtjofnbpcanhfhabGreatDoorQLVecsKnown7
namespace Go.Proofs.YtjofnbpcanhfhabGreatDoor
open Go.Sx
set_option linter.unusedSimpArgs false
set_option linter.unusedVariables false
set_option maxRecDepth 100000
set_option maxHeartbeats 8000000
theorem num_nonpos {q:Rat}:q.num≤0↔q≤0:=by
 have:=Rat.num_nonneg (q:= -q)
 rw[Rat.neg_num]at this
 constructor
 ·intro h
  have:=this.1 (by omega)
  grind
 ·intro h
  have:=this.2 (by grind)
  omega
theorem sign_pos (q:Rat):0<q.num.sign↔0<q:=by
 have h:=num_nonpos (q:=q)
 rcases Int.lt_trichotomy q.num 0 with g|g|g
 ·rw[Int.sign_eq_neg_one_of_neg g]
  have:=h.1 (by omega)
  constructor
  ·intro h;omega
  ·intro h;grind
 ·rw[g,Int.sign_zero]
  have:=h.1 (by omega)
  constructor
  ·intro h;omega
  ·intro h;grind
 ·rw[Int.sign_eq_one_of_pos g]
  refine⟨fun _=> ?_,fun _=>by decide⟩
  rcases Rat.le_total (a:=q) (b:=0)with h1|h1
  ·have:=h.2 h1;omega
  ·rcases Decidable.em (q=0)with h2|h2
   ·rw[h2]at g;exact absurd g (by decide)
   ·grind
theorem cmp_le {a b:Rat} (h:a≤b):decide ((a - b).num.sign>0)=false:=decide_eq_false fun h1=>by
 have:=(sign_pos (a - b)).1 h1
 grind
theorem rabs_cases (q:Rat):rabs q=q∧0≤q∨rabs q= -q∧q≤0:=by
 unfold rabs
 split
 ·exact .inr ⟨rfl,num_nonpos.1 (by omega)⟩
 ·exact .inl ⟨rfl,Rat.num_nonneg.1 (by omega)⟩
theorem rabs_nonneg (q:Rat):0≤rabs q:=by rcases rabs_cases q with⟨e,h⟩|⟨e,h⟩<;>rw[e]<;>grind
theorem rabs_le {q b:Rat} (h1:q≤b) (h2: -q≤b):rabs q≤b:=by rcases rabs_cases q with⟨e,h⟩|⟨e,h⟩<;>rw[e]<;>grind
theorem le_rabs (q:Rat):q≤rabs q:=by rcases rabs_cases q with⟨e,h⟩|⟨e,h⟩<;>rw[e]<;>grind
theorem neg_le_rabs (q:Rat): -q≤rabs q:=by rcases rabs_cases q with⟨e,h⟩|⟨e,h⟩<;>rw[e]<;>grind
theorem rabs_add (a b:Rat):rabs (a+b)≤rabs a+rabs b:=rabs_le (by have:=le_rabs a;have:=le_rabs b;grind) (by have:=neg_le_rabs a;have:=neg_le_rabs b;grind)
theorem rabs_zero {q:Rat} (h:rabs q=0):q=0:=by have:=le_rabs q;have:=neg_le_rabs q;grind
theorem rabs_mul (a b:Rat):rabs (a*b)=rabs a*rabs b:=by
 rcases rabs_cases a with⟨e1,h1⟩|⟨e1,h1⟩<;>rcases rabs_cases b with⟨e2,h2⟩|⟨e2,h2⟩<;>rw[e1,e2]
 ·have:=Rat.mul_nonneg h1 h2
  rcases rabs_cases (a*b)with⟨e,h⟩|⟨e,h⟩<;>rw[e]
  grind
 ·have:=Rat.mul_nonneg h1 (show 0≤ -b by grind)
  rcases rabs_cases (a*b)with⟨e,h⟩|⟨e,h⟩<;>rw[e]<;>grind
 ·have:=Rat.mul_nonneg (show 0≤ -a by grind) h2
  rcases rabs_cases (a*b)with⟨e,h⟩|⟨e,h⟩<;>rw[e]<;>grind
 ·have:=Rat.mul_nonneg (show 0≤ -a by grind) (show 0≤ -b by grind)
  rcases rabs_cases (a*b)with⟨e,h⟩|⟨e,h⟩<;>rw[e]<;>grind
theorem vmaxF_ge:∀(l:List Rat) (m:Rat),m≤vmaxF l m∧∀x∈l,rabs x≤vmaxF l m
 |[],m=>⟨Rat.le_refl,fun x hx=>by cases hx⟩
 |y::l,m=>by
  rw[vmaxF]
  obtain⟨h1,h2⟩:=vmaxF_ge l (if 0<(rabs y - m).num.sign then rabs y else m)
  have h3:=sign_pos (rabs y - m)
  have h4:m≤(if 0<(rabs y - m).num.sign then rabs y else m):=by split<;>grind
  have h5:rabs y≤(if 0<(rabs y - m).num.sign then rabs y else m):=by split<;>grind
  refine⟨Rat.le_trans h4 h1,fun x hx=> ?_⟩
  rcases List.mem_cons.1 hx with rfl|hx
  ·exact Rat.le_trans h5 h1
  ·exact h2 x hx
theorem vmaxF_is:∀(l:List Rat) (m:Rat),vmaxF l m=m∨∃x∈l,vmaxF l m=rabs x
 |[],m=>.inl rfl
 |y::l,m=>by
  rw[vmaxF]
  rcases vmaxF_is l (if 0<(rabs y - m).num.sign then rabs y else m)with h|⟨x,hx,h⟩
  ·rw[h];split
   ·exact .inr ⟨y,List.mem_cons_self ..,rfl⟩
   ·exact .inl rfl
  ·exact .inr ⟨x,List.mem_cons_of_mem _ hx,h⟩
theorem vmax_nonneg (l:List Rat):0≤vmax l:=(vmaxF_ge l 0).1
theorem vmax_ge {l:List Rat} {n i:Nat} (hl:l.length=n) (hi:i<n):rabs (l.getD i 0)≤vmax l:=(vmaxF_ge l 0).2 _ (getD_mem (by omega))
theorem vmax_le {l:List Rat} {n:Nat} {b:Rat} (hl:l.length=n) (hb:0≤b) (h:∀i,i<n→rabs (l.getD i 0)≤b):vmax l≤b:=by
 rcases vmaxF_is l 0 with g|⟨x,hx,g⟩
 ·unfold vmax;rw[g];exact hb
 ·obtain⟨i,hi,rfl⟩:=mem_getD hx 0
  unfold vmax;rw[g];exact h i (by omega)
theorem vmax_att {l:List Rat} {n:Nat} (hl:l.length=n) (hn:0<n):∃i,i<n∧rabs (l.getD i 0)=vmax l:=by
 rcases vmaxF_is l 0 with g|⟨x,hx,g⟩
 ·refine⟨0,hn, ?_⟩
  have h1:=vmax_ge (i:=0) hl hn
  have h2:=rabs_nonneg (l.getD 0 0)
  have h3:vmax l=0:=g
  grind
 ·obtain⟨i,hi,rfl⟩:=mem_getD hx 0
  exact⟨i,by omega,g.symm⟩
theorem vmax_nil {l:List Rat} (hl:l.length=0):vmax l=0:=by
 rw[List.length_eq_zero_iff.1 hl];rfl
theorem fs_vmax {l:List Rat} {B:Nat} (h:Sm B l) (hB:2≤B):fs (vmax l)≤B:=by
 rcases vmaxF_is l 0 with g|⟨x,hx,g⟩
 ·unfold vmax;rw[g,fs_zero];exact hB
 ·obtain⟨i,hi,rfl⟩:=mem_getD hx 0
  unfold vmax;rw[g,fs_abs];exact h i hi
theorem s_max {l:List Rat} {B n:Nat} (h:Sm B l) (hl:l.length=n) (hn:n≤2048) (hB:2≤B) (h2:B+B≤1073741824):CallOK Tryz.prog 17 [fvec l] [] (.frac (vmax l)) [] []:=
 v_Max l (by omega) B hB h2 h
theorem max_add {x y:List Rat} {n:Nat} (hx:x.length=n) (hy:y.length=n):vmax (vadd x y)≤vmax x+vmax y:=by
 have h1:=vmax_nonneg x
 have h2:=vmax_nonneg y
 refine vmax_le (zip_len hx hy) (by grind) fun i hi=> ?_
 rw[get_add hx hy hi]
 have:=rabs_add (x.getD i 0) (y.getD i 0)
 have:=vmax_ge hx hi
 have:=vmax_ge hy hi
 grind
theorem max_scale {x:List Rat} {n:Nat} {c:Rat} (hx:x.length=n):vmax (vscale c x)=rabs c*vmax x:=by
 have hc:=rabs_nonneg c
 rcases Nat.eq_zero_or_pos n with h0|h0
 ·rw[vmax_nil (by rw[zip_len hx hx];exact h0),vmax_nil (by rw[hx];exact h0)];grind
 ·refine Rat.le_antisymm ?_ ?_
  ·refine vmax_le (zip_len hx hx) (Rat.mul_nonneg hc (vmax_nonneg x)) fun i hi=> ?_
   rw[get_scale hx hi,rabs_mul]
   exact Rat.mul_le_mul_of_nonneg_left (vmax_ge hx hi) hc
  ·obtain⟨i,hi,e⟩:=vmax_att hx h0
   rw[←e,←rabs_mul,←get_scale hx hi]
   exact vmax_ge (zip_len hx hx) hi
theorem max_zero {x:List Rat} {n:Nat} (hx:x.length=n):decide (vmax x=0)=decide (x=List.replicate n 0):=by
 rw[Bool.eq_iff_iff,decide_eq_true_iff,decide_eq_true_iff]
 constructor
 ·intro h
  refine vec_ext hx List.length_replicate fun i hi=> ?_
  rw[get_zero hi]
  have:=vmax_ge hx hi
  have:=rabs_nonneg (x.getD i 0)
  exact rabs_zero (by grind)
 ·intro h
  refine Rat.le_antisymm (vmax_le hx Rat.le_refl fun i hi=> ?_) (vmax_nonneg x)
  rw[h,get_zero hi]
  decide+kernel
theorem sum_bound {f:Nat→Rat} {b:Rat}:∀n,(∀i,i<n→rabs (f i)≤b)→rabs (sumR n f)≤((n:Int):Rat)*b
 |0,_=>by
  have:rabs (sumR 0 f)=0:=by show rabs 0=0;decide+kernel
  rw[this];grind
 |n+1,h=>by
  rw[sumR]
  have h1:=sum_bound n (fun i hi=>h i (by omega))
  have h2:=h n (by omega)
  have h3:=rabs_add (sumR n f) (f n)
  have e:(((n+1:Nat):Int):Rat)=((n:Int):Rat)+1:=by rw[Int.natCast_add,Rat.intCast_add];rfl
  rw[e]
  grind
theorem dot_max {x y:List Rat} {n:Nat} (hx:x.length=n) (hy:y.length=n):rabs (vdot x y)≤((n:Int):Rat)*(vmax x*vmax y):=by
 rw[vdot_sum hx hy]
 refine sum_bound n fun i hi=> ?_
 rw[rabs_mul]
 have h1:=vmax_ge hx hi
 have h2:=vmax_ge hy hi
 have h3:=Rat.mul_le_mul_of_nonneg_left h2 (rabs_nonneg (x.getD i 0))
 have h4:=Rat.mul_le_mul_of_nonneg_right h1 (vmax_nonneg y)
 exact Rat.le_trans h3 h4
end Go.Proofs.YtjofnbpcanhfhabGreatDoor
namespace Go.Proofs.YtjofnbpcanhfhabGreatDoor
open Go.Sx
set_option linter.unusedSimpArgs false
set_option linter.unusedVariables false
set_option maxRecDepth 100000
set_option maxHeartbeats 8000000
theorem c_Sizes (c:Int×Int) (la lb:List (Int×Int)) (hc:qOK c) (hoa:∀q∈la,qOK q) (hob:∀q∈lb,qOK q):
  CallOK Tryz.prog 7 [qA c,mvec 2 qA la,mvec 2 qA lb] [] (.val (.bool true)) [] []:=by
 have kw:=l_works
 refine callV (Z:=[3]) tabOK mixedOK Tryz.func7 rfl (by kernel_rfl) rfl rfl (by kernel_rfl) rfl ?_
 intro W0 w0 ρ0 hE
 conv=>whnf
 by_cases h1:la.length>20
 ·have t1:Hid (decide ((la.length:Int)>20)=true):=show decide ((la.length:Int)>20)=true from decide_eq_true (by omega)
  (repeat((first|refine step_w1 rfl rfl ?_|refine step_w2 rfl rfl ?_|refine g_c (by assumption) ?_|refine g_o (op_pickT rfl (ev_ok rfl) (ev_ok rfl)) ?_|refine g_o (op_lenM rfl rfl rfl (ev_ok rfl) (tgt rfl) rfl) ?_|rw[t1.out]);conv=>whnf));(first|exact Recast.refl _|exact Frz.recast (Recast.refl _) rfl|(refine Frz.one rfl rfl ?_;skip)|(refine Frz.tup ?_;skip))
 have t1:Hid (decide ((la.length:Int)>20)=false):=show decide ((la.length:Int)>20)=false from decide_eq_false (by omega)
 by_cases h2:lb.length>20
 ·have t2:Hid (decide ((lb.length:Int)>20)=true):=show decide ((lb.length:Int)>20)=true from decide_eq_true (by omega)
  (repeat((first|refine step_w1 rfl rfl ?_|refine g_c (by assumption) ?_|refine g_o (op_pickF rfl (ev_ok rfl) (ev_ok rfl)) ?_|refine g_o (op_lenM rfl rfl rfl (ev_ok rfl) (tgt rfl) rfl) ?_|rw[t1.out]|rw[t2.out]);conv=>whnf));(first|exact Recast.refl _|exact Frz.recast (Recast.refl _) rfl|(refine Frz.one rfl rfl ?_;skip)|(refine Frz.tup ?_;skip))
 have t2:Hid (decide ((lb.length:Int)>20)=false):=show decide ((lb.length:Int)>20)=false from decide_eq_false (by omega)
 have kc:=l_cut la lb (by omega) (by omega)
 generalize hn:min la.length lb.length=n at kc
 have n20:n≤20:=by omega
 have nla:n≤la.length:=by omega
 have nlb:n≤lb.length:=by omega
 have n2:n≤2048:=by omega
 clear hn
 have hx:=len_take (l:=la) nla
 have hy:=len_take (l:=lb) nlb
 have k1:=c_Vt hoa n2
 have k2:=c_Vt hob n2
 have sx:=Sm_take hoa n
 have sy:=Sm_take hob n
 have k3:=c_QOf c hc
 have fp:=fs_qV hc
 generalize qV c=p at*
 generalize (la.take n).map qV=x at*
 generalize (lb.take n).map qV=y at*
 have o1:=v_Zero n n2
 have o2:=s_add sx sy hx hy n2 (by decide)
 have hxy:(vadd x y).length=n:=zip_len hx hy
 have sxy:Sm 260 (vadd x y):=Sm_zip fs_add sx sy (hx.trans hy.symm)
 have o3:=s_max sxy hxy n2 (by decide) (by decide)
 have o4:=s_max sx hx n2 (by decide) (by decide)
 have o5:=s_max sy hy n2 (by decide) (by decide)
 have b3:=fs_vmax sxy (by decide)
 have b4:=fs_vmax sx (by decide)
 have b5:=fs_vmax sy (by decide)
 have o6:=f_Add (vmax x) (vmax y) (Nat.le_trans (Nat.add_le_add b4 b5) (by decide))
 have b6:=Nat.le_trans (fs_add (vmax x) (vmax y)) (Nat.add_le_add b4 b5)
 have o7:=f_Cmp (vmax (vadd x y)) (vmax x+vmax y) (Nat.le_trans (Nat.add_le_add b3 b6) (by decide))
 have q1:Hid (decide ((vmax (vadd x y) - (vmax x+vmax y)).num.sign>0)=false):=show decide ((vmax (vadd x y) - (vmax x+vmax y)).num.sign>0)=false from cmp_le (max_add hx hy)
 have o8:=s_times fp sx hx n2 (by decide)
 have hpx:(vscale p x).length=n:=zip_len hx hx
 have o9:=s_max (Sm_scale fp sx) hpx n2 (by decide) (by decide)
 have o10:=f_Abs p
 have o11:=f_Mul (rabs p) (vmax x) (by rw[fs_abs];exact Nat.le_trans (Nat.add_le_add fp b4) (by decide))
 have q2:Hid ((!decide (vmax (vscale p x)=rabs p*vmax x))=false):=show(!decide (vmax (vscale p x)=rabs p*vmax x))=false from by rw[decide_eq_true (max_scale hx)];rfl
 have o12:=v_Same x (List.replicate n 0) (by rw[hx];omega) (by rw[List.length_replicate];omega)
 have q3:Hid ((decide (vmax x=0) != decide (x=List.replicate n 0))=false):=show(decide (vmax x=0) != decide (x=List.replicate n 0))=false from by rw[max_zero hx];exact bne_self_eq_false _
 have o13:=c_fInt (n:Int) (by omega) (by omega)
 have b13:fs ((n:Int):Rat)≤65:=fs_int (by omega) (by omega)
 have o14:=f_Mul (vmax x) (vmax y) (Nat.le_trans (Nat.add_le_add b4 b5) (by decide))
 have b14:=Nat.le_trans (fs_mul (vmax x) (vmax y)) (Nat.add_le_add b4 b5)
 have o15:=f_Mul ((n:Int):Rat) (vmax x*vmax y) (Nat.le_trans (Nat.add_le_add b13 b14) (by decide))
 have b15:=Nat.le_trans (fs_mul ((n:Int):Rat) (vmax x*vmax y)) (Nat.add_le_add b13 b14)
 have o16:=s_dot20 sx sy hx hy n20 (by decide)
 have b16:=fs_vdot20 sx sy hx hy n20
 have o17:=f_Abs (vdot x y)
 have o18:=f_Cmp (rabs (vdot x y)) (((n:Int):Rat)*(vmax x*vmax y)) (by rw[fs_abs];exact Nat.le_trans (Nat.add_le_add b16 b15) (by decide))
 have q4:Hid (decide ((rabs (vdot x y) - ((n:Int):Rat)*(vmax x*vmax y)).num.sign>0)=false):=show decide ((rabs (vdot x y) - ((n:Int):Rat)*(vmax x*vmax y)).num.sign>0)=false from cmp_le (dot_max hx hy)
 have hge:∀i,i<n→rabs (x.getD i 0)≤vmax x:=fun i hi=>vmax_ge hx hi
 have hatt:n=0∨∃k,k<n∧rabs (x.getD k 0)=vmax x:=by
  rcases Nat.eq_zero_or_pos n with h|h
  ·exact .inl h
  ·exact .inr (vmax_att hx h)
 have hsx:∀i,i<n→fs (x.getD i 0)≤130:=fun i hi=>sx i (hx.symm▸hi)
 have hx':n=x.length:=hx.symm
 clear hx hy sx sy fp hxy sxy b3 b5 b6 hpx b13 b14 b15 b16
 generalize vadd x y=v1 at*
 generalize vscale p x=v2 at*
 generalize vmax x+vmax y=r1 at*
 generalize rabs p*vmax x=r2 at*
 generalize ((n:Int):Rat)*(vmax x*vmax y)=r3 at*
 generalize vmax x*vmax y=r4 at*
 generalize vmax v1=r5 at*
 generalize vmax v2=r6 at*
 generalize rabs p=r7 at*
 generalize rabs (vdot x y)=r8 at*
 generalize vdot x y=r9 at*
 generalize vmax y=r10 at*
 generalize vmax x=mx at*
 generalize hz:List.replicate n (0:Rat)=z at*
 clear hz
 subst hx'
 (repeat((first|refine step_w1 rfl rfl ?_|refine step_w2 rfl rfl ?_|refine step_i (by kernel_rfl) ?_|refine g_c (by assumption) ?_|refine g_o (op_pickF rfl (ev_ok rfl) (ev_ok rfl)) ?_|refine g_o (op_lenM rfl rfl rfl (ev_ok rfl) (tgt rfl) rfl) ?_|refine g_o (op_loadA rfl (ev_ok rfl) (tgt rfl) rfl (Nat.succ_ne_zero _) rfl) ?_|refine⟨_,op_eqAgg tabOK goodOK rfl (ev_ok rfl) (ev_ok rfl) rfl rfl rfl rfl (q_same _ _) q_guard, ?_⟩|refine⟨_,op_neAgg tabOK goodOK rfl (ev_ok rfl) (ev_ok rfl) rfl rfl rfl rfl (q_same _ _) q_guard, ?_⟩|rw[t1.out]|rw[t2.out]|rw[q1.out]|rw[q2.out]|rw[q3.out]|rw[q4.out]);conv=>whnf))
 refine SW_loopN hE (fun k=>k) [7,12,13] [] (fun m fr hp=>∃i al,m=x.length - i∧i≤x.length∧(al=true↔x.length=0∨∃k,k<i∧rabs (x.getD k 0)=mx)∧fr=[(7,fvec x),(12,.val (.bool al)),(13,.val (.int .i64 (i:Nat)))]∧hp=[]) x.length ?_ ?_ ?_
 ·kernel_rfl
 ·refine⟨0,((x.length:Int)==0),rfl,Nat.zero_le _, ?_,rfl,rfl⟩
  rw[beq_iff_eq]
  constructor
  ·intro h;left;omega
  ·rintro(h|⟨k,h,_⟩)<;>omega
 rintro m _ _ ⟨i,al,rfl,hi,hal,rfl,rfl⟩
 conv=>whnf
 by_cases hlt:i<x.length
 ·have t4:decide ((i:Int)<(x.length:Int))=true:=decide_eq_true (by omega)
  have t5:=winc (i:=i) (by omega)
  have k4:=f_Abs (x.getD i 0)
  have k5:=f_Cmp (rabs (x.getD i 0)) mx (by rw[fs_abs];exact Nat.le_trans (Nat.add_le_add (hsx i hlt) b4) (by decide))
  have t6:decide ((rabs (x.getD i 0) - mx).num.sign>0)=false:=cmp_le (hge i hlt)
  have hstep:∀b,(b=true↔al=true∨rabs (x.getD i 0)=mx)→(b=true↔x.length=0∨∃k,k<i+1∧rabs (x.getD k 0)=mx):=by
   intro b hb
   rw[hb,hal]
   constructor
   ·rintro((h|⟨k,h,e⟩)|h)
    ·exact .inl h
    ·exact .inr ⟨k,by omega,e⟩
    ·exact .inr ⟨i,by omega,h⟩
   ·rintro(h|⟨k,h,e⟩)
    ·exact .inl (.inl h)
    ·by_cases hki:k=i
     ·subst hki;exact .inr e
     ·exact .inl (.inr ⟨k,by omega,e⟩)
  clear hal
  cases al with
  |true=>
   (repeat((first|refine step_w1 rfl rfl ?_|refine step_w2 rfl rfl ?_|refine g_c (by assumption) ?_|refine g_o (op_pickT rfl (ev_ok rfl) (ev_ok rfl)) ?_|refine g_o (op_lenM rfl rfl rfl (ev_ok rfl) (tgt rfl) rfl) ?_|refine g_o (op_indexN (α:=Rat) (d:=0) rfl (ev_ok rfl) (ev_ok rfl) (tgt rfl) rfl (tgt rfl) rfl (by omega)) ?_|refine g_o (op_loadA rfl (ev_ok rfl) (tgt rfl) rfl (Nat.succ_ne_zero _) rfl) ?_|rw[t4]|rw[t5]|rw[t6]);conv=>whnf))
   exact⟨x.length - (i+1),fun k=>k,[7,12,13],[],by omega,by kernel_rfl,i+1,_,rfl,hlt,hstep _ (by simp),rfl,rfl⟩
  |false=>
   (repeat((first|refine step_w1 rfl rfl ?_|refine step_w2 rfl rfl ?_|refine g_c (by assumption) ?_|refine g_o (op_pickF rfl (ev_ok rfl) (ev_ok rfl)) ?_|refine g_o (op_lenM rfl rfl rfl (ev_ok rfl) (tgt rfl) rfl) ?_|refine g_o (op_indexN (α:=Rat) (d:=0) rfl (ev_ok rfl) (ev_ok rfl) (tgt rfl) rfl (tgt rfl) rfl (by omega)) ?_|refine g_o (op_loadA rfl (ev_ok rfl) (tgt rfl) rfl (Nat.succ_ne_zero _) rfl) ?_|refine⟨_,op_eqAgg tabOK goodOK rfl (ev_ok rfl) (ev_ok rfl) rfl rfl rfl rfl (q_same _ _) q_guard, ?_⟩|rw[t4]|rw[t5]|rw[t6]);conv=>whnf))
   exact⟨x.length - (i+1),fun k=>k,[7,12,13],[],by omega,by kernel_rfl,i+1,_,rfl,hlt,hstep _ (by simp),rfl,rfl⟩
 have hI:i=x.length:=by omega
 subst hI
 have t4:decide ((x.length:Int)<(x.length:Int))=false:=decide_eq_false (by omega)
 have hal':=hal.2 hatt
 subst hal'
 (repeat((first|refine step_w1 rfl rfl ?_|refine step_w2 rfl rfl ?_|refine g_c (by assumption) ?_|refine g_o (op_pickT rfl (ev_ok rfl) (ev_ok rfl)) ?_|refine g_o (op_lenM rfl rfl rfl (ev_ok rfl) (tgt rfl) rfl) ?_|rw[t4]);conv=>whnf));(first|exact Recast.refl _|exact Frz.recast (Recast.refl _) rfl|(refine Frz.one rfl rfl ?_;skip)|(refine Frz.tup ?_;skip))
theorem law_VecsSizes (a0:Int×Int) (a1 a2:List (Int×Int)) (w0:((Lit.int .i64 a0.1).wf=true)∧((Lit.int .u32 a0.2).wf=true)) (w1:QWf a1) (w2:QWf a2):
  CallOK Tryz.prog 7 [qA a0,mvec 2 qA a1,mvec 2 qA a2] [] (.val (.bool true)) [] []:=
 c_Sizes a0 a1 a2 (qOK_one w0) (qOK_of w1) (qOK_of w2)
end Go.Proofs.YtjofnbpcanhfhabGreatDoor
namespace Go.Proofs.YtjofnbpcanhfhabGreatDoor
open Go.Sx
set_option linter.unusedSimpArgs false
set_option linter.unusedVariables false
set_option maxRecDepth 100000
set_option maxHeartbeats 4000000
abbrev uv (n i:Nat):List Rat:=(List.replicate n 0).set i 1
theorem uv_len (n i:Nat):(uv n i).length=n:=by simp
theorem uv_get {n i j:Nat} (hj:j<n):(uv n i).getD j 0=if i=j then 1 else 0:=by
 simp only[uv,List.getD_eq_getElem?_getD,List.getElem?_set,List.length_replicate]
 by_cases h:i=j
 ·subst h;simp[hj]
 ·simp[h,hj]
theorem sum_delta {f:Nat→Rat} {i:Nat}:∀n,sumR n (fun j=>(if i=j then 1 else 0)*f j)=if i<n then f i else 0
 |0=>by simp[sumR]
 |n+1=>by
  rw[sumR,sum_delta n]
  by_cases h:i=n
  ·subst h;simp;grind
  ·by_cases h2:i<n
   ·simp[h,h2,show i<n+1 by omega];grind
   ·simp[h,h2,show ¬i<n+1 by omega];grind
theorem uv_dot {x:List Rat} {n i:Nat} (hx:x.length=n) (hi:i<n):vdot (uv n i) x=x.getD i 0:=by
 rw[vdot_sum (uv_len n i) hx,sum_congr n (g:=fun j=>(if i=j then 1 else 0)*x.getD j 0) (fun j hj=>by rw[uv_get hj]),sum_delta,if_pos hi]
theorem uv_uv {n i k:Nat} (hi:i<n) (hk:k<n):vdot (uv n k) (uv n i)=if i=k then 1 else 0:=by
 rw[uv_dot (uv_len n i) hk,uv_get hk]
theorem Sm_uv (n i:Nat):Sm 2 (uv n i):=by
 intro j hj
 rw[uv_len]at hj
 rw[uv_get hj]
 split
 ·rw[fs_one];exact Nat.le_refl _
 ·rw[fs_zero];exact Nat.le_refl _
def uvs (n i:Nat):List (List Rat):=(List.range i).map (uv n)
theorem uvs_len (n i:Nat):(uvs n i).length=i:=by simp[uvs]
theorem uvs_get {n i k:Nat} (hk:k<i):(uvs n i).getD k []=uv n k:=by
 simp[uvs,List.getD_eq_getElem?_getD,hk]
theorem uvs_snoc (n i:Nat):uvs n (i+1)=uvs n i++[uv n i]:=by simp[uvs,List.range_succ]
theorem get_axpy {a b:List Rat} {n i:Nat} {c:Rat} (ha:a.length=n) (hb:b.length=n) (hi:i<n):(vaxpy c a b).getD i 0=c*a.getD i 0+b.getD i 0:=zip_get (by omega) (by omega)
theorem uvs_all {n i:Nat}:∀v∈uvs n i,v.length=n:=by
 intro v hv
 obtain⟨k,_,rfl⟩:=List.mem_map.1 hv
 exact uv_len n k
theorem mix_uvs {x:List Rat} {n:Nat} (hx:x.length=n):∀i,i≤n→∀j,j<n→(mixN x (uvs n n) n i).getD j 0=if j<i then x.getD j 0 else 0
 |0,_,j,hj=>by rw[mixN,get_zero hj];rfl
 |i+1,hi,j,hj=>by
  have hl:(mixN x (uvs n n) n i).length=n:=mixN_len uvs_all i (by rw[uvs_len];omega)
  rw[mixN,uvs_get (show i<n by omega),get_axpy (uv_len n i) hl hj,mix_uvs hx i (by omega) j hj,uv_get hj]
  by_cases h:i=j
  ·subst h;simp;grind
  ·by_cases h2:j<i
   ·simp[h,h2,show j<i+1 by omega];grind
   ·simp[h,h2,show ¬j<i+1 by omega];grind
theorem mix_is {x:List Rat} {n:Nat} (hx:x.length=n):mixN x (uvs n n) n (uvs n n).length=x:=by
 rw[uvs_len]
 exact vec_ext (mixN_len uvs_all n (by rw[uvs_len];omega)) hx fun j hj=>by rw[mix_uvs hx n (Nat.le_refl n) j hj,if_pos hj]
end Go.Proofs.YtjofnbpcanhfhabGreatDoor
namespace Go.Proofs.YtjofnbpcanhfhabGreatDoor
open Go.Sx
set_option linter.unusedSimpArgs false
set_option linter.unusedVariables false
set_option maxRecDepth 100000
set_option maxHeartbeats 8000000
theorem v_Mix0:CallOK Tryz.prog 14 [fvec [],mvec 1 fvec []] [] (.tup [fvec [],.val (.int .i64 0)]) [] []:=by
 have ka:=v_alike [] (by decide) (fun v hv=>by cases hv)
 rw[show alikeF []=0 from rfl]at ka
 refine callF (Z:=[]) tabOK mixedOK Tryz.func14 rfl (by kernel_rfl) (by first|rfl|(simp[keylessL,keyless,keylessL_map, *];done)) (by first|rfl|(simp[keylessL,keyless,keylessL_map, *];done)) (by kernel_rfl) rfl ?_
 intro w0 ρ0 hE
 conv=>whnf
 (repeat((first|refine step_w1 rfl rfl ?_|refine step_w2 rfl rfl ?_|refine g_c (by assumption) ?_|refine g_o (op_pickF rfl (ev_ok rfl) (ev_ok rfl)) ?_|rw[bne_self_eq_false]|refine g_o (op_lenM rfl rfl rfl (ev_ok rfl) (tgt rfl) rfl) ?_);conv=>whnf));(first|exact Recast.refl _|exact Frz.recast (Recast.refl _) rfl|(refine Frz.one rfl rfl ?_;skip)|(refine Frz.tup ?_;(repeat(first|exact FrzC.keyless rfl|exact FrzL.nil|refine FrzL.cons ?_ ?_|exact FrzC.nilS))))
theorem u_mix {x:List Rat} {n:Nat} (hx:x.length=n) (hn:n≤12) (sx:Sm 130 x):CallOK Tryz.prog 14 [fvec x,mvec 1 fvec (uvs n n)] [] (.tup [fvec x,.val (.int .i64 0)]) [] []:=by
 rcases Nat.eq_zero_or_pos n with h0|h0
 ·subst h0
  rw[List.length_eq_zero_iff.1 hx]
  exact v_Mix0
 ·have:=v_Mix x (uvs n n) n 130 (by rw[uvs_len,hx]) (by rw[uvs_len];omega) (by intro h;have:=uvs_len n n;rw[h]at this;simp at this;omega) uvs_all (by omega) (fun v hv k hk=>by
   obtain⟨i,_,rfl⟩:=List.mem_map.1 hv
   exact Nat.le_trans (Sm_uv n i k (by rw[uv_len];exact hk)) (by decide)) (fun q hq=>by
   obtain⟨i,hi,rfl⟩:=mem_getD hq 0
   exact sx i hi) (by rw[uvs_len];omega)
  rwa [mix_is hx]at this
theorem c_Units (la:List (Int×Int)) (hoa:∀q∈la,qOK q):CallOK Tryz.prog 8 [mvec 2 qA la] [] (.val (.bool true)) [] []:=by
 have kw:=l_works
 refine callF (Z:=[]) tabOK mixedOK Tryz.func8 rfl (by kernel_rfl) (by first|rfl|(simp[keylessL,keyless,keylessL_map, *];done)) (by first|rfl|(simp[keylessL,keyless,keylessL_map, *];done)) (by kernel_rfl) rfl ?_
 intro w0 ρ0 hE
 conv=>whnf
 by_cases h1:la.length>12
 ·have t1:Hid (decide ((la.length:Int)>12)=true):=show decide ((la.length:Int)>12)=true from decide_eq_true (by omega)
  (repeat((first|refine step_w1 rfl rfl ?_|refine g_c (by assumption) ?_|refine g_o (op_lenM rfl rfl rfl (ev_ok rfl) (tgt rfl) rfl) ?_|rw[t1.out]);conv=>whnf));(first|exact Recast.refl _|exact Frz.recast (Recast.refl _) rfl|(refine Frz.one rfl rfl ?_;skip)|(refine Frz.tup ?_;skip))
 have t1:Hid (decide ((la.length:Int)>12)=false):=show decide ((la.length:Int)>12)=false from decide_eq_false (by omega)
 have k1:=c_V la (by omega) hoa
 have hn:(la.map qV).length≤12:=by rw[List.length_map];omega
 have sx:=Sm_V hoa
 generalize la.map qV=x at*
 (repeat((first|refine step_w2 rfl rfl ?_|refine g_c (by assumption) ?_|refine g_o (op_lenM rfl rfl rfl (ev_ok rfl) (tgt rfl) rfl) ?_|rw[t1.out]);conv=>whnf))
 refine SWx_adopt (t:=4) (k:=2001) (s:=1) (blk:=⟨35,true,.seq 1 []⟩) rfl rfl rfl ?_
 refine SW_loopS hE (fun k=>k) [3,4,5] [2001] (fun m fr hp=>∃i,m=x.length - i∧i≤x.length∧fr=[(3,fvec x),(4,.slc 2001 1 0 i),(5,.val (.int .i64 (i:Nat)))]∧hp=[(2001,⟨35,true,.seq 1 ((uvs x.length i).map fvec)⟩)]) x.length ?_ ?_ ?_
 ·kernel_rfl
 ·exact⟨0,rfl,Nat.zero_le _,rfl,rfl⟩
 rintro m _ _ ⟨i,rfl,hi,rfl,rfl⟩
 have hul:=uvs_len x.length i
 by_cases hlt:i<x.length
 ·have t2:=dlt hlt
  have t3:=winc (i:=i) (by omega)
  have o1:=v_Unit x.length i (by omega) hlt
  have hu:=uv_len x.length i
  have su:=Sm_uv x.length i
  have o2:=s_dot su sx hu rfl (by omega) (by omega)
  have o3:=s_dot su su hu hu (by omega) (by omega)
  have t4:(((uv x.length i).length:Int) != (x.length:Int))=false:=by rw[hu];exact bne_self_eq_false _
  have t5:(!decide (vdot (uv x.length i) x=x.getD i 0))=false:=by rw[decide_eq_true (uv_dot rfl hlt)];rfl
  have o4:=c_fInt 1 (by decide) (by decide)
  have t6:(!decide (vdot (uv x.length i) (uv x.length i)=((1:Int):Rat)))=false:=by rw[uv_uv hlt hlt,if_pos rfl];decide+kernel
  refine SWx.of hE ?_
  conv=>whnf
  (repeat((first|refine step_w1 rfl rfl ?_|refine step_w2 rfl rfl ?_|refine step_i (by kernel_rfl) ?_|refine g_c (by assumption) ?_|refine g_o (op_pickF rfl (ev_ok rfl) (ev_ok rfl)) ?_|rw[bne_self_eq_false]|refine g_o (op_lenM rfl rfl rfl (ev_ok rfl) (tgt rfl) rfl) ?_|refine g_o (op_indexN (α:=Rat) (d:=0) rfl (ev_ok rfl) (ev_ok rfl) (tgt rfl) rfl (tgt rfl) rfl (by omega)) ?_|refine g_o (op_loadA rfl (ev_ok rfl) (tgt rfl) rfl (Nat.succ_ne_zero _) rfl) ?_|refine⟨_,op_neAgg tabOK goodOK rfl (ev_ok rfl) (ev_ok rfl) rfl rfl rfl rfl (q_same _ _) q_guard, ?_⟩|rw[t2]|rw[t4]|rw[t5]);conv=>whnf))
  have hp0:∀k,k<i→((uvs x.length i).map fvec).getD k .any=fvec (uv x.length k):=fun k hk=>by rw[map_get (d:=[]) (by rw[hul];exact hk),uvs_get hk]
  refine SW_loopN hE (fun k=>k) [3,4,5,6,8] [2001] (fun m fr hp=>∃k,m=i - k∧k≤i∧fr=[(3,fvec x),(4,.slc 2001 1 0 i),(5,.val (.int .i64 (i:Nat))),(6,fvec (uv x.length i)),(8,.val (.int .i64 (k:Nat)))]∧hp=[(2001,⟨35,true,.seq 1 ((uvs x.length i).map fvec)⟩)]) i ?_ ?_ ?_
  ·kernel_rfl
  ·exact⟨0,rfl,Nat.zero_le _,rfl,rfl⟩
  rintro m _ _ ⟨k,rfl,hk,rfl,rfl⟩
  conv=>whnf
  by_cases hkt:k<i
  ·have t7:=dlt hkt
   have t8:=winc (i:=k) (by omega)
   have e1:=hp0 k hkt
   have o5:=s_dot (Sm_uv x.length k) su (uv_len x.length k) hu (by omega) (by omega)
   have t9:(!decide (vdot (uv x.length k) (uv x.length i)=0))=false:=by rw[uv_uv hlt (by omega),if_neg (by omega)];decide+kernel
   (repeat((first|refine step_w1 rfl rfl ?_|refine step_w2 rfl rfl ?_|refine And.intro (by first|decide|omega|(simp only[tl0,dlen,List.length_replicate,List.length_set,List.length_map,List.length_zipWith,List.length_take,List.length_append,List.length_cons,List.length_nil];omega)) ?_|refine g_c (by assumption) ?_|refine⟨_,op_neAgg tabOK goodOK rfl (ev_ok rfl) (ev_ok rfl) rfl rfl rfl rfl (q_same _ _) q_guard, ?_⟩|rw[t7]|rw[e1]|rw[t9]|rw[t8]|rw[Int.toNat_natCast]|rw[Nat.zero_add]);conv=>whnf))
   exact⟨i - (k+1),fun k=>k,[3,4,5,6,8],[2001],by omega,by kernel_rfl,k+1,rfl,hkt,rfl,rfl⟩
  ·have t7:=dge hkt
   (repeat((first|refine step_w2 rfl rfl ?_|refine And.intro (by first|decide|omega|(simp only[tl0,dlen,List.length_replicate,List.length_set,List.length_map,List.length_zipWith,List.length_take,List.length_append,List.length_cons,List.length_nil];omega)) ?_|refine g_c (by assumption) ?_|refine⟨_,op_neAgg tabOK goodOK rfl (ev_ok rfl) (ev_ok rfl) rfl rfl rfl rfl (q_same _ _) q_guard, ?_⟩|rw[t7]|rw[t6]|rw[t3]);conv=>whnf))
   refine⟨x.length - (i+1),renBy [(71,2001)],[3,4,5],[71],by omega,by kernel_rfl,i+1,rfl,hlt,rfl, ?_⟩
   have hsn:(uvs x.length (i+1)).map fvec=List.take i ((uvs x.length i).map fvec)++[fvec (uv x.length i)]:=by
    rw[uvs_snoc,List.map_append,List.take_of_length_le (by rw[List.length_map,hul];exact Nat.le_refl _)];rfl
   rw[hsn]
   rfl
 ·have t2:=dge hlt
  have hI:i=x.length:=by omega
  subst hI
  have o1:=u_mix rfl hn sx
  have o2:=v_Same x x (by omega) (by omega)
  rw[decide_eq_true rfl]at o2
  refine SWx_freezeM 4 2001 (fun _ h=>h) (fun _=>rfl) rfl rfl hul.symm ?_
  refine SWx.of hE ?_
  conv=>whnf
  (repeat((first|refine step_w1 rfl rfl ?_|refine step_w2 rfl rfl ?_|refine g_c (by assumption) ?_|refine g_o (op_pickT rfl (ev_ok rfl) (ev_ok rfl)) ?_|refine g_o (op_lenM rfl rfl rfl (ev_ok rfl) (tgt rfl) rfl) ?_|rw[t2]);conv=>whnf));(first|exact Recast.refl _|exact Frz.recast (Recast.refl _) rfl|(refine Frz.one rfl rfl ?_;skip)|(refine Frz.tup ?_;skip))
theorem law_VecsUnits (a0:List (Int×Int)) (w0:QWf a0):CallOK Tryz.prog 8 [mvec 2 qA a0] [] (.val (.bool true)) [] []:=c_Units a0 (qOK_of w0)
end Go.Proofs.YtjofnbpcanhfhabGreatDoor
namespace Go.Proofs.YtjofnbpcanhfhabGreatDoor
open Go.Sx
set_option linter.unusedSimpArgs false
set_option linter.unusedVariables false
set_option maxRecDepth 100000
set_option maxHeartbeats 4000000
theorem v_eachE1 (a b:List Rat) (g:FuncId) (p:Pred) (ha:a.length<1099511627776) (hb:b.length<1099511627776) (h:alikeF [a,b]≠0):CallOK Tryz.prog 53 [fvec a,fvec b,.clo g [] [.atom p]] [] (.tup [fvec [],.val (.int .i64 (alikeF [a,b]))]) [] []:=by
 have k1:=v_alike [a,b] (by simp) (by simp;omega)
 have t1:(alikeF [a,b] != 0)=true:=bne_iff_ne.2 h
 refine callF (Z:=[13]) tabOK mixedOK Tryz.func53 rfl (by kernel_rfl) (by first|rfl|(simp[keylessL,keyless,keylessL_map, *];done)) (by first|rfl|(simp[keylessL,keyless,keylessL_map, *];done)) (by kernel_rfl) rfl ?_
 intro w0 ρ0 hE
 conv=>whnf
 (repeat(first|(refine step_w1 rfl rfl ?_;conv=>whnf)|(refine g_c (by assumption) ?_;conv=>whnf)|(rw[t1];conv=>whnf)));(first|exact Recast.refl _|exact Frz.recast (Recast.refl _) rfl|(refine Frz.one rfl rfl ?_;skip)|(refine Frz.tup ?_;(repeat(first|exact FrzC.keyless rfl|exact FrzL.nil|refine FrzL.cons ?_ ?_|exact FrzC.nilS))))
section
variable (c:Rat) (a b:List Rat) (ha:a.length<1099511627776) (hb:b.length<1099511627776) (h:alikeF [a,b]≠0)
include ha hb h
theorem v_SubE:CallOK Tryz.prog 25 [fvec a,fvec b] [] (.tup [fvec [],.val (.int .i64 (alikeF [a,b]))]) [] []:=by
 have k1:=v_eachE a b 59 ha hb h
 refine callV (Z:=[]) tabOK mixedOK Tryz.func25 rfl (by kernel_rfl) rfl rfl (by kernel_rfl) rfl ?_
 intro W0 w0 ρ0 hE
 conv=>whnf
 (repeat(first|(refine g_c (by assumption) ?_;conv=>whnf)));(first|exact Recast.refl _|exact Frz.recast (Recast.refl _) rfl|(refine Frz.one rfl rfl ?_;skip)|(refine Frz.tup ?_;skip))
theorem v_AxpyE:CallOK Tryz.prog 26 [.frac c,fvec a,fvec b] [] (.tup [fvec [],.val (.int .i64 (alikeF [a,b]))]) [] []:=by
 have k1:=v_eachE1 a b 60 (ptrP [.frac c]) ha hb h
 refine callV (Z:=[3]) tabOK mixedOK Tryz.func26 rfl (by kernel_rfl) rfl rfl (by kernel_rfl) rfl ?_
 intro W0 w0 ρ0 hE
 conv=>whnf
 (repeat(first|(refine g_c (by assumption) ?_;conv=>whnf)|(refine g_o (op_makeFunc rfl rfl rfl) ?_;conv=>whnf)));(first|exact Recast.refl _|exact Frz.recast (Recast.refl _) rfl|(refine Frz.one rfl rfl ?_;skip)|(refine Frz.tup ?_;skip))
theorem v_DotE:CallOK Tryz.prog 31 [fvec a,fvec b] [] (.tup [.frac 0,.val (.int .i64 (alikeF [a,b]))]) [] []:=by
 have k1:=v_eachE a b 42 ha hb h
 have k2:=f_Sum [] (by decide) (by decide)
 rw[show(([]:List Rat).foldl (·+·) 0)=0 from rfl]at k2
 refine callV (Z:=[]) tabOK mixedOK Tryz.func31 rfl (by kernel_rfl) rfl rfl (by kernel_rfl) rfl ?_
 intro W0 w0 ρ0 hE
 conv=>whnf
 (repeat(first|(refine g_c (by assumption) ?_;conv=>whnf)));(first|exact Recast.refl _|exact Frz.recast (Recast.refl _) rfl|(refine Frz.one rfl rfl ?_;skip)|(refine Frz.tup ?_;skip))
theorem v_SumE:CallOK Tryz.prog 49 [mvec 1 fvec [a,b]] [] (.tup [fvec [],.val (.int .i64 (alikeF [a,b]))]) [] []:=by
 have k1:=v_alike [a,b] (by simp) (by simp;omega)
 have t1:(alikeF [a,b] != 0)=true:=bne_iff_ne.2 h
 refine callF (Z:=[]) tabOK mixedOK Tryz.func49 rfl (by kernel_rfl) (by first|rfl|(simp[keylessL,keyless,keylessL_map, *];done)) (by first|rfl|(simp[keylessL,keyless,keylessL_map, *];done)) (by kernel_rfl) rfl ?_
 intro w0 ρ0 hE
 conv=>whnf
 (repeat((first|refine step_w1 rfl rfl ?_|refine step_w2 rfl rfl ?_|refine g_c (by assumption) ?_|refine g_o (op_pickT rfl (ev_ok rfl) (ev_ok rfl)) ?_|rw[t1]);conv=>whnf));(first|exact Recast.refl _|exact Frz.recast (Recast.refl _) rfl|(refine Frz.one rfl rfl ?_;skip)|(refine Frz.tup ?_;(repeat(first|exact FrzC.keyless rfl|exact FrzL.nil|refine FrzL.cons ?_ ?_|exact FrzC.nilS))))
theorem v_MixE (hl:a.length≤2048∧b.length≤2048):CallOK Tryz.prog 14 [fvec [c,c],mvec 1 fvec [a,b]] [] (.tup [fvec [],.val (.int .i64 (alikeF [a,b]))]) [] []:=by
 have k1:=v_alike [a,b] (by simp) (by simp;omega)
 have t1:(alikeF [a,b] != 0)=true:=bne_iff_ne.2 h
 have t2:(alikeF [a,b]==3)=false:=by rw[alike_two,if_neg (by omega)];split<;>rfl
 refine callF (Z:=[]) tabOK mixedOK Tryz.func14 rfl (by kernel_rfl) (by first|rfl|(simp[keylessL,keyless,keylessL_map, *];done)) (by first|rfl|(simp[keylessL,keyless,keylessL_map, *];done)) (by kernel_rfl) rfl ?_
 intro w0 ρ0 hE
 conv=>whnf
 (repeat((first|refine step_w1 rfl rfl ?_|refine step_w2 rfl rfl ?_|refine g_c (by assumption) ?_|refine g_o (op_pickT rfl (ev_ok rfl) (ev_ok rfl)) ?_|refine g_o (op_lenM rfl rfl rfl (ev_ok rfl) (tgt rfl) rfl) ?_|rw[t1]|rw[t2]);conv=>whnf));(first|exact Recast.refl _|exact Frz.recast (Recast.refl _) rfl|(refine Frz.one rfl rfl ?_;skip)|(refine Frz.tup ?_;(repeat(first|exact FrzC.keyless rfl|exact FrzL.nil|refine FrzL.cons ?_ ?_|exact FrzC.nilS))))
end
theorem l_refusedE (c:Rat) (a b:List Rat) (ha:a.length≤2048) (hb:b.length≤2048) (h:a.length≠b.length):CallOK Tryz.prog 13 [.frac c,fvec a,fvec b] [] (.val (.int .i64 1)) [] []:=by
 have e:alikeF [a,b]=1:=by rw[alike_two,if_neg (by omega),if_neg h]
 have hne:alikeF [a,b]≠0:=by rw[e];decide
 have k1:=v_AddE a b (by omega) (by omega) hne
 have k2:=v_SubE a b (by omega) (by omega) hne
 have k3:=v_AxpyE c a b (by omega) (by omega) hne
 have k4:=v_DotE a b (by omega) (by omega) hne
 have k5:=v_SumE a b (by omega) (by omega) hne
 have k6:=v_MixE c a b (by omega) (by omega) hne ⟨ha,hb⟩
 rw[e]at k1 k2 k3 k4 k5 k6
 clear e hne
 refine callV (Z:=[3,47,54,57]) tabOK mixedOK Tryz.func13 rfl (by kernel_rfl) rfl rfl (by kernel_rfl) rfl ?_
 intro W0 w0 ρ0 hE
 conv=>whnf
 (repeat((first|refine step_w1 rfl rfl ?_|refine step_w2 rfl rfl ?_|refine g_c (by assumption) ?_|refine g_o (op_pickF rfl (ev_ok rfl) (ev_ok rfl)) ?_|refine g_o (op_loadA rfl (ev_ok rfl) (tgt rfl) rfl (Nat.succ_ne_zero _) rfl) ?_);conv=>whnf));(first|exact Recast.refl _|exact Frz.recast (Recast.refl _) rfl|(refine Frz.one rfl rfl ?_;skip)|(refine Frz.tup ?_;skip))
theorem l_nothing (c:Rat) (a b:List Rat) (ha:a.length≤2048) (hb:b.length≤2048) (h:a.length≠b.length):CallOK Tryz.prog 48 [.frac c,fvec a,fvec b] [] (.val (.bool true)) [] []:=by
 have e:alikeF [a,b]=1:=by rw[alike_two,if_neg (by omega),if_neg h]
 have hne:alikeF [a,b]≠0:=by rw[e];decide
 have k1:=v_AddE a b (by omega) (by omega) hne
 have k2:=v_SubE a b (by omega) (by omega) hne
 have k3:=v_AxpyE c a b (by omega) (by omega) hne
 have k4:=v_DotE a b (by omega) (by omega) hne
 have k5:=v_SumE a b (by omega) (by omega) hne
 have k6:=v_MixE c a b (by omega) (by omega) hne ⟨ha,hb⟩
 rw[e]at k1 k2 k3 k4 k5 k6
 clear e hne
 refine callV (Z:=[3,47,54,57]) tabOK mixedOK Tryz.func48 rfl (by kernel_rfl) rfl rfl (by kernel_rfl) rfl ?_
 intro W0 w0 ρ0 hE
 conv=>whnf
 (repeat((first|refine step_w1 rfl rfl ?_|refine g_c (by assumption) ?_|refine g_o (op_pickT rfl (ev_ok rfl) (ev_ok rfl)) ?_|refine g_o (op_lenM rfl rfl rfl (ev_ok rfl) (tgt rfl) rfl) ?_|refine g_o (op_loadA rfl (ev_ok rfl) (tgt rfl) rfl (Nat.succ_ne_zero _) rfl) ?_|refine⟨_,op_eqAgg tabOK goodOK rfl (ev_ok rfl) (ev_ok rfl) rfl rfl rfl rfl (q_same _ _) q_guard, ?_⟩);conv=>whnf));(first|exact Recast.refl _|exact Frz.recast (Recast.refl _) rfl|(refine Frz.one rfl rfl ?_;skip)|(refine Frz.tup ?_;skip))
theorem l_refused (c:Rat) (a b:List Rat) (n:Nat) (h1:a.length=n) (h2:b.length=n) (hn:n≤2048) (hc:fs c≤130) (sa:Sm 130 a) (sb:Sm 130 b):CallOK Tryz.prog 13 [.frac c,fvec a,fvec b] [] (.val (.int .i64 0)) [] []:=by
 have hab:a.length=b.length:=h1.trans h2.symm
 have hl:a.length≤2048:=by omega
 have hf:=Fit_Sm sa sb hab (by decide)
 have hs:fsL (vmul a b)≤_:=fsL_Sm (Sm_zip fs_mul sa sb hab)
 rw[zip_len h1 h2]at hs
 have k1:=v_Add a b hab hl hf
 have k2:=v_Sub a b hab hl hf
 have k3:=v_Axpy c a b hab hl (fun i hi=>by have:=sa i hi;have:=sb i (by omega);omega)
 have k4:=v_Dot a b hab hl hf (by omega)
 have hall:∀v∈[a,b],v.length=n:=by intro v hv;rcases List.mem_cons.1 hv with rfl|hv;· exact h1
                                   ·rcases List.mem_cons.1 hv with rfl|hv;· exact h2
                                    ·cases hv
 have hbd:∀v∈[a,b],∀k,k<n→fs (v.getD k 0)≤130:=by
  intro v hv k hk
  rcases List.mem_cons.1 hv with rfl|hv
  ·exact sa k (by omega)
  ·rcases List.mem_cons.1 hv with rfl|hv
   ·exact sb k (by omega)
   ·cases hv
 have k5:=v_Sum [a,b] n 130 (by simp) (by simp) hall (by omega) hbd (by simp)
 have k6:=v_Mix [c,c] [a,b] n 130 (by simp) (by simp) (by simp) hall (by omega) hbd (by simp;exact hc) (by simp)
 clear hs hf hall hbd
 refine callV (Z:=[3,47,54,57]) tabOK mixedOK Tryz.func13 rfl (by kernel_rfl) rfl rfl (by kernel_rfl) rfl ?_
 intro W0 w0 ρ0 hE
 conv=>whnf
 (repeat((first|refine step_w1 rfl rfl ?_|refine step_w2 rfl rfl ?_|refine g_c (by assumption) ?_|refine g_o (op_pickF rfl (ev_ok rfl) (ev_ok rfl)) ?_|refine g_o (op_loadA rfl (ev_ok rfl) (tgt rfl) rfl (Nat.succ_ne_zero _) rfl) ?_);conv=>whnf));(first|exact Recast.refl _|exact Frz.recast (Recast.refl _) rfl|(refine Frz.one rfl rfl ?_;skip)|(refine Frz.tup ?_;skip))
end Go.Proofs.YtjofnbpcanhfhabGreatDoor
namespace Go.Proofs.YtjofnbpcanhfhabGreatDoor
open Go.Sx
set_option linter.unusedSimpArgs false
set_option linter.unusedVariables false
set_option maxRecDepth 100000
set_option maxHeartbeats 4000000
theorem vmax_zero (n:Nat):vmax (List.replicate n 0)=0:=
 Rat.le_antisymm (vmax_le List.length_replicate Rat.le_refl fun i hi=>by rw[get_zero hi];decide+kernel) (vmax_nonneg _)
theorem v_MaxZ (n:Nat) (hn:n≤2048):CallOK Tryz.prog 17 [fvec (List.replicate n 0)] [] (.frac 0) [] []:=by
 have:=s_max (Sm_zero n) List.length_replicate hn (by decide) (by decide)
 rwa [vmax_zero]at this
theorem v_PartE (a:List Rat) (p:Int) (ha:a.length≤2048) (h:p<0∨(a.length:Int)≤p):CallOK Tryz.prog 15 [fvec a,ivec .i64 [p]] [] (.tup [fvec [],.val (.int .i64 1)]) [] []:=by
 have t0:decide ((if (([p]:List Int).length:Int)>(a.length:Int)then(([p]:List Int).length:Int)else(a.length:Int))>2048)=false:=decide_eq_false (by simp;split<;>omega)
 refine callF (Z:=[]) tabOK mixedOK Tryz.func15 rfl (by kernel_rfl) (by first|rfl|(simp[keylessL,keyless,keylessL_map, *];done)) (by first|rfl|(simp[keylessL,keyless,keylessL_map, *];done)) (by kernel_rfl) rfl ?_
 intro w0 ρ0 hE
 conv=>whnf
 (repeat((first|refine step_w2 rfl rfl ?_|refine And.intro (by first|decide|omega|(simp only[tl0,dlen,List.length_replicate,List.length_set,List.length_map,List.length_zipWith,List.length_take,List.length_append,List.length_cons,List.length_nil];omega)) ?_|refine g_o (op_lenM rfl rfl rfl (ev_ok rfl) (tgt rfl) rfl) ?_|rw[t0]|rw[Int.toNat_natCast]);conv=>whnf))
 refine SW_loopN hE (fun k=>k) [0,1,4,5,6,18,19,20] [17] (fun m fr hp=>m=1∧fr=[(0,fvec a),(1,ivec .i64 [p]),(4,.val (.slice none 0 0)),(5,.val (.int .i64 0)),(6,.slc 17 5 0 1),(18,ivec .i64 [p]),(19,.val (.int .i64 1)),(20,.val (.int .i64 0))]∧
  hp=[(17,⟨44,true,.fracs (List.replicate 1 0)⟩)]) 1 ?_ ?_ ?_
 ·kernel_rfl
 ·exact⟨rfl,rfl,rfl⟩
 rintro m _ _ ⟨rfl,rfl,rfl⟩
 conv=>whnf
 have e1:([p]:List Int).getD 0 0=p:=rfl
 rcases Int.lt_or_le p 0 with hp|hp
 ·have t3:decide (p<0)=true:=decide_eq_true hp
  (repeat((first|refine step_w1 rfl rfl ?_|refine step_w2 rfl rfl ?_|refine g_o (op_pickT rfl (ev_ok rfl) (ev_ok rfl)) ?_|refine g_o (op_loadA rfl (ev_ok rfl) (tgt rfl) rfl (Nat.succ_ne_zero _) rfl) ?_|refine g_o (op_indexA rfl (ev_ok rfl) (ev_ok rfl) (tgt rfl) rfl (tgt rfl) rfl (by omega) (by first|decide|(simp;done)|omega) rfl) ?_|rw[t3]);conv=>whnf));(first|exact Recast.refl _|exact Frz.recast (Recast.refl _) rfl|(refine Frz.one rfl rfl ?_;skip)|(refine Frz.tup ?_;(repeat(first|exact FrzC.keyless rfl|exact FrzL.nil|refine FrzL.cons ?_ ?_|exact FrzC.nilS))))
 ·have t3:decide (p<0)=false:=decide_eq_false (by omega)
  have t4:decide (p≥(a.length:Int))=true:=decide_eq_true (by omega)
  (repeat((first|refine step_w1 rfl rfl ?_|refine g_o (op_pickF rfl (ev_ok rfl) (ev_ok rfl)) ?_|refine g_o (op_lenM rfl rfl rfl (ev_ok rfl) (tgt rfl) rfl) ?_|refine g_o (op_loadA rfl (ev_ok rfl) (tgt rfl) rfl (Nat.succ_ne_zero _) rfl) ?_|refine g_o (op_indexA rfl (ev_ok rfl) (ev_ok rfl) (tgt rfl) rfl (tgt rfl) rfl (by omega) (by first|decide|(simp;done)|omega) rfl) ?_|rw[t3]|rw[t4]);conv=>whnf));(first|exact Recast.refl _|exact Frz.recast (Recast.refl _) rfl|(refine Frz.one rfl rfl ?_;skip)|(refine Frz.tup ?_;(repeat(first|exact FrzC.keyless rfl|exact FrzL.nil|refine FrzL.cons ?_ ?_|exact FrzC.nilS))))
end Go.Proofs.YtjofnbpcanhfhabGreatDoor
