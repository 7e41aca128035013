/- The texts Hp. -/
import Derived.Test.YtjofnbpcanhfhabGreatDoorQLVecsKnown13
namespace Go.Proofs.YtjofnbpcanhfhabGreatDoor
open Go.Sx
set_option linter.unusedSimpArgs false
set_option linter.unusedVariables false
set_option maxRecDepth 100000
set_option maxHeartbeats 40000000
theorem i64w {n:Int} (h0: -9223372036854775808≤n) (h1:n<9223372036854775808):(Lit.int .i64 n).wf=true:=by
 have e1:IntKind.i64.min= -9223372036854775808:=rfl
 have e2:IntKind.i64.max=9223372036854775807:=rfl
 show(decide (IntKind.i64.min≤n)&&decide (n≤IntKind.i64.max))=true
 rw[e1,e2,decide_eq_true h0,decide_eq_true (by omega)];rfl
theorem u32w {n:Int} (h0:0≤n) (h1:n<4294967296):(Lit.int .u32 n).wf=true:=by
 have e1:IntKind.u32.min=0:=rfl
 have e2:IntKind.u32.max=4294967295:=rfl
 show(decide (IntKind.u32.min≤n)&&decide (n≤IntKind.u32.max))=true
 rw[e1,e2,decide_eq_true h0,decide_eq_true (by omega)];rfl
theorem wf_of {q:Int×Int} (h:qOK q):((Lit.int .i64 q.1).wf=true)∧((Lit.int .u32 q.2).wf=true):=⟨i64w h.1.1 h.1.2,u32w h.2.1 h.2.2⟩
theorem QWf_of {l:List (Int×Int)} {n:Nat} (hn:n≤6) (hl:l.length=n) (h:∀q∈l,qOK q):QWf l:=by
 have hm:6≤maxLen:=by decide
 exact⟨by omega,fun q hq=>wf_of (h q hq)⟩
theorem qOK_snoc {l:List (Int×Int)} {q:Int×Int} (h:∀q∈l,qOK q) (hq:qOK q):∀x∈l++[q],qOK x:=fun x hx=>by
 rcases List.mem_append.1 hx with hx|hx
 ·exact h x hx
 ·rcases List.mem_cons.1 hx with rfl|hx
  ·exact hq
  ·cases hx
abbrev Qblk (l:List (Int×Int)):Blk:=⟨25,true,.seq 2 (l.map qA)⟩
theorem Qblk_snoc {l:List (Int×Int)} {i:Nat} (hl:l.length=i) (q:Int×Int):Qblk (l++[q])=⟨25,true,.seq 2 (List.take i (l.map qA)++[qA q])⟩:=by
 rw[Qblk,List.map_append,List.take_of_length_le (by simp;omega)];rfl
theorem law_VecsKnown:CallOK Tryz.prog 3 [] [] (.val (.bool true)) [] []:=by
 have kw:=l_works
 refine callF (Z:=[6,8,126,130,134,178,183,100015,100018,100023]) tabOK mixedOK Tryz.func3 rfl (by kernel_rfl) (by first|rfl|(simp[keylessL,keyless,keylessL_map, *];done)) (by first|rfl|(simp[keylessL,keyless,keylessL_map, *];done)) (by kernel_rfl) rfl ?_
 intro w0 ρ0 hE
 conv=>whnf
 skip
 refine SW_loopN hE (fun k=>k) [1,2] [] (fun M fr hp=>∃n k:Nat,M=12 - n∧n≤12∧k<100003∧fr=[(1,.val (.int .i64 (k:Nat))),(2,.val (.int .i64 (n:Nat)))]∧hp=[]) 12 ?_ ?_ ?_
 ·kernel_rfl
 ·exact⟨0,1,rfl,Nat.zero_le _,by decide,rfl,rfl⟩
 rintro M _ _ ⟨n,k,rfl,hn,hk,rfl,rfl⟩
 conv=>whnf
 by_cases hlt:n<12
 ·have t1:decide (((n:Nat):Int)<12)=true:=decide_eq_true (by omega)
  have t2:=winc (i:=n) (by omega)
  (repeat(first|(refine tst_tt t1 ?_;conv=>whnf)|(rw[t1];conv=>whnf)))
  refine SWx_adopt (t:=3) (k:=2001) (s:=2) (blk:=Qblk []) rfl rfl rfl ?_
  refine SWx_adopt (t:=4) (k:=2002) (s:=2) (blk:=Qblk []) rfl rfl rfl ?_
  refine SW_loopS hE (fun k=>k) [1,2,3,4,5] [2001,2002] (fun M fr hp=>∃(i k:Nat) (la lb:List (Int×Int)),M=n % 7 - i∧i≤n % 7∧k<100003∧la.length=i∧lb.length=i∧(∀q∈la,qOK q)∧(∀q∈lb,qOK q)∧
   fr=[(1,.val (.int .i64 (k:Nat))),(2,.val (.int .i64 (n:Nat))),(3,.slc 2001 2 0 i),(4,.slc 2002 2 0 i),(5,.val (.int .i64 (i:Nat)))]∧hp=[(2001,Qblk la),(2002,Qblk lb)]) (n % 7) ?_ ?_ ?_
  ·kernel_rfl
  ·exact⟨0,k,[],[],rfl,Nat.zero_le _,hk,rfl,rfl,fun q hq=>(by cases hq),fun q hq=>(by cases hq),rfl,rfl⟩
  clear hk k
  rintro M _ _ ⟨i,k,la,lb,rfl,hi,hk,hla,hlb,hoa,hob,rfl,rfl⟩
  have lqa:(la.map qA).length=i:=by simp;omega
  have lqb:(lb.map qA).length=i:=by simp;omega
  by_cases hli:i<n % 7
  ·have t3:decide (((i:Nat):Int)<((n:Nat):Int).tmod 7)=true:=decide_eq_true (by rw[Int.tmod_eq_emod_of_nonneg (by omega)];omega)
   have t4:=winc (i:=i) (by omega)
   have e1:IntKind.i64.wrap (((k:Nat):Int).tmod 19 - 9)=((k % 19:Nat):Int) - 9:=by rw[Int.tmod_eq_emod_of_nonneg (by omega),wrap_i64 (by omega) (by omega)];omega
   have e2:IntKind.u32.wrap (((k:Nat):Int).tmod 5)=((k % 5:Nat):Int):=by rw[Int.tmod_eq_emod_of_nonneg (by omega),wrap_u32 (by omega) (by omega)];omega
   have e3:IntKind.i64.wrap (((k:Nat):Int).tdiv 7)=((k/7:Nat):Int):=wrap_i64 (n:=((k/7:Nat):Int)) (by omega) (by omega)
   have e4:IntKind.i64.wrap (((k/7:Nat):Int).tmod 19 - 9)=((k/7 % 19:Nat):Int) - 9:=by rw[Int.tmod_eq_emod_of_nonneg (by omega),wrap_i64 (by omega) (by omega)];omega
   have e5:IntKind.i64.wrap (((k:Nat):Int).tdiv 3)=((k/3:Nat):Int):=wrap_i64 (n:=((k/3:Nat):Int)) (by omega) (by omega)
   have e6:IntKind.u32.wrap (((k/3:Nat):Int).tmod 4)=((k/3 % 4:Nat):Int):=by rw[Int.tmod_eq_emod_of_nonneg (by omega),wrap_u32 (by omega) (by omega)];omega
   have e7:IntKind.i64.wrap (((k:Nat):Int)*31)=((k*31:Nat):Int):=by rw[wrap_i64 (by omega) (by omega)];omega
   have e8:IntKind.i64.wrap (7*((i:Nat):Int))=((7*i:Nat):Int):=by rw[wrap_i64 (by omega) (by omega)];omega
   have e9:IntKind.i64.wrap (((k*31:Nat):Int)+((7*i:Nat):Int))=((k*31+7*i:Nat):Int):=by rw[wrap_i64 (by omega) (by omega)];omega
   have e10:IntKind.i64.wrap (((k*31+7*i:Nat):Int)+11)=((k*31+7*i+11:Nat):Int):=by rw[wrap_i64 (by omega) (by omega)];omega
   have qa:qOK (((k % 19:Nat):Int) - 9,((k % 5:Nat):Int)):=⟨⟨by show _≤_ - _;omega,by show _ - _<_;omega⟩,⟨by show 0≤_;omega,by show _<_;omega⟩⟩
   have qb:qOK (((k/7 % 19:Nat):Int) - 9,((k/3 % 4:Nat):Int)):=⟨⟨by show _≤_ - _;omega,by show _ - _<_;omega⟩,⟨by show 0≤_;omega,by show _<_;omega⟩⟩
   have sa:=Qblk_snoc hla (((k % 19:Nat):Int) - 9,((k % 5:Nat):Int))
   have sb:=Qblk_snoc hlb (((k/7 % 19:Nat):Int) - 9,((k/3 % 4:Nat):Int))
   refine SWx.of hE ?_
   conv=>whnf
   (repeat(first|(refine step_oN (by first|omega|decide|(simp only[tl0,dlen,List.length_replicate,List.length_set,List.length_map,List.length_zipWith,List.length_take,List.length_append,List.length_cons,List.length_nil];omega)) ?_;conv=>whnf)|(refine tst_tt t3 ?_;conv=>whnf)|(refine And.intro (by simp only[tiB25,dlen,List.length_map,List.length_append,List.length_cons,List.length_nil];omega) ?_;conv=>whnf)|(rw[t3];conv=>whnf)|(rw[e1];conv=>whnf)|(rw[e2];conv=>whnf)|(rw[e3];conv=>whnf)|(rw[e4];conv=>whnf)|(rw[e5];conv=>whnf)|(rw[e6];conv=>whnf)|(rw[e7];conv=>whnf)|(rw[e8];conv=>whnf)|(rw[e9];conv=>whnf)|(rw[e10];conv=>whnf)|(rw[t4];conv=>whnf)))
   refine⟨n % 7 - (i+1),renBy [(38,2001),(50,2002)],[1,2,3,4,5],[38,50],by omega,by kernel_rfl,i+1,(k*31+7*i+11) % 100003,la++[(((k % 19:Nat):Int) - 9,((k % 5:Nat):Int))],lb++[(((k/7 % 19:Nat):Int) - 9,((k/3 % 4:Nat):Int))],rfl,hli,by omega,by simp;omega,by simp;omega,qOK_snoc hoa qa,qOK_snoc hob qb,rfl, ?_⟩
   rw[sa,sb]
   rfl
  ·have t3:decide (((i:Nat):Int)<((n:Nat):Int).tmod 7)=false:=decide_eq_false (by rw[Int.tmod_eq_emod_of_nonneg (by omega)];omega)
   have hI:i=n % 7:=by omega
   have wa:QWf la:=QWf_of (by omega) hla hoa
   have wb:QWf lb:=QWf_of (by omega) hlb hob
   have wt:QWf (lb.take (n % 7/2)):=QWf_of (n:=min (n % 7/2) lb.length) (by omega) (by simp) (fun q hq=>hob q (List.mem_of_mem_take hq))
   have e1:IntKind.i64.wrap (((n:Nat):Int) - 6)=((n:Nat):Int) - 6:=wrap_i64 (by omega) (by omega)
   have e2:IntKind.u32.wrap (((n:Nat):Int).tmod 3)=((n % 3:Nat):Int):=by rw[Int.tmod_eq_emod_of_nonneg (by omega),wrap_u32 (by omega) (by omega)];omega
   have e3:IntKind.i64.wrap ((((n:Nat):Int).tmod 7).tdiv 2)=((n % 7/2:Nat):Int):=wrap_i64 (n:=((n % 7/2:Nat):Int)) (by omega) (by omega)
   have e4:IntKind.i64.wrap (((n:Nat):Int) - 2)=((n:Nat):Int) - 2:=wrap_i64 (by omega) (by omega)
   have e5:IntKind.i64.wrap (((n:Nat):Int).tmod 5 - 1)=((n % 5:Nat):Int) - 1:=by rw[Int.tmod_eq_emod_of_nonneg (by omega),wrap_i64 (by omega) (by omega)];omega
   have e6:IntKind.i64.wrap (0 - ((n:Nat):Int))= -((n:Nat):Int):=by rw[wrap_i64 (by omega) (by omega)];omega
   obtain⟨bo,hbo⟩:∃bo:Bool,(((n:Nat):Int).tmod 2==0)=bo:=⟨_,rfl⟩
   have wc:((Lit.int .i64 (((n:Nat):Int) - 6)).wf=true)∧((Lit.int .u32 ((n % 3:Nat):Int)).wf=true):=⟨i64w (by omega) (by omega),u32w (by omega) (by omega)⟩
   have wd:((Lit.int .i64 (3:Int)).wf=true)∧((Lit.int .u32 (2:Int)).wf=true):=⟨i64w (by decide) (by decide),u32w (by decide) (by decide)⟩
   have hm3:3≤maxLen:=by decide
   have k1:=law_VecsPlays (((n:Nat):Int) - 6,((n % 3:Nat):Int)) la lb wc wa wb
   have k2:=law_VecsSpace (((n:Nat):Int) - 6,((n % 3:Nat):Int)) (3,2) la lb la wc wd wa wb wa
   have k3:=law_VecsCauchy la lb (((n:Nat):Int) - 6,((n % 3:Nat):Int)) bo wa wb wc
   have k4:=law_VecsSizes (((n:Nat):Int) - 6,((n % 3:Nat):Int)) la lb wc wa wb
   have k5:=law_VecsUnits la wa
   have k6:=law_VecsErrors (((n:Nat):Int) - 6,((n % 3:Nat):Int)) la (lb.take (n % 7/2)) (((n:Nat):Int) - 2) (((n % 5:Nat):Int) - 1) wc wa wt
   have k7:=law_VecsKeeps (((n:Nat):Int) - 6,((n % 3:Nat):Int)) la lb wc wa wb
   have k8:=law_VecsSums [(((n:Nat):Int) - 6,((n % 3:Nat):Int)),(((n:Nat):Int) - 6,((n % 3:Nat):Int))] [la,lb,la] [((n:Nat):Int), -((n:Nat):Int),1]
    ⟨by simp;omega,fun q hq=>by simp only[List.mem_cons,List.not_mem_nil,or_false,or_self]at hq;subst hq;exact wc⟩
    ⟨by simp;omega,fun q hq=>by
     simp only[List.mem_cons,List.not_mem_nil,or_false]at hq
     rcases hq with rfl|rfl|rfl
     ·exact wa
     ·exact wb
     ·exact wa⟩
    ⟨by simp;omega,fun q hq=>by
     simp only[List.mem_cons,List.not_mem_nil,or_false]at hq
     rcases hq with rfl|rfl|rfl<;>exact i64w (by omega) (by omega)⟩
   refine SWx_freezeM 3 2001 (fun _ h=>h) (fun _=>rfl) rfl rfl hla.symm ?_
   refine SWx_freezeM 4 2002 (fun _ h=>h) (fun _=>rfl) rfl rfl hlb.symm ?_
   clear wa wb wt wc wd hoa hob lqa lqb
   refine SWx.of hE ?_
   conv=>whnf
   (repeat((first|refine step_w1 rfl rfl ?_|refine step_w2 rfl rfl ?_|refine step_i (by kernel_rfl) ?_|refine step_oN (by first|omega|decide|(simp only[tl0,dlen,List.length_replicate,List.length_set,List.length_map,List.length_zipWith,List.length_take,List.length_append,List.length_cons,List.length_nil];omega)) ?_|refine g_c (by assumption) ?_|refine g_o (op_pickF rfl (ev_ok rfl) (ev_ok rfl)) ?_|refine tst_ff t3 ?_|refine g_o (op_sliceM rfl (ev_ok rfl) (bound_spec rfl) (bound_spec rfl) (.inl rfl) (tgt rfl) rfl (tgt rfl) rfl (by omega)) ?_|rw[t3]|rw[e1]|rw[e2]|rw[hbo]|rw[e3]|rw[e4]|rw[e5]|rw[e6]|rw[t2]|rw[Int.toNat_natCast]);conv=>whnf))
   exact⟨12 - (n+1),fun k=>k,[1,2],[],by omega,by kernel_rfl,n+1,k,rfl,hlt,hk,rfl,rfl⟩
 ·have t1:decide (((n:Nat):Int)<12)=false:=decide_eq_false (by omega)
  obtain rfl:n=12:=by omega
  (repeat(first|(refine step_w2 rfl rfl ?_;conv=>whnf)|(rw[t1];conv=>whnf)))
  refine SWx_addKeyV 138 (blk:=Fblk []) rfl rfl ?_
  refine SWx_addKeyV 193 (blk:=Fblk []) rfl rfl ?_
  refine SWx_go hE ?_
  conv=>whnf
  obtain⟨n,h9⟩:∃n:Nat,(2049:Int)=n:=⟨2049,rfl⟩
  have f1:=c_fInt 1 (by decide) (by decide)
  have f5:=c_fInt (-5) (by decide) (by decide)
  refine⟨.slc 2003 5 0 n,[],[(2003,Fblk (List.replicate n 0))],[],op_longF 2003 h9 rfl,nil_fk,one_new rfl,nil_upd, ?_⟩
  conv=>whnf
  (repeat((first|refine step_oL (by first|omega|decide|(simp only[tl0,dlen,List.length_replicate,List.length_set,List.length_map,List.length_zipWith,List.length_take,List.length_append,List.length_cons,List.length_nil];omega)) ?_|refine step_oA (by first|omega|decide|(simp only[tl0,dlen,List.length_replicate,List.length_set,List.length_map,List.length_zipWith,List.length_take,List.length_append,List.length_cons,List.length_nil];omega)) ?_|refine g_c (by assumption) ?_|rw[Nat.zero_add]);conv=>whnf))
  have hL:(List.replicate n (0:Rat)).set 2048 ((-5:Int):Rat)=longL:=by
   obtain rfl:n=2049:=by omega
   rfl
  refine SWx_freezeF 7 2003 (qs:=(List.replicate n (0:Rat)).set 2048 ((-5:Int):Rat)) (fun _ h=>h) rfl rfl (by rw[hL,long_len];omega) ?_
  rw[hL]
  have lL:=long_len
  have sL:∀l m,Sm 130 ((longL.drop l).take m):=fun l m i _=>long_sub
  have x1:=v_Max longL (by omega) 130 (by decide) (by decide) (fun i _=>fs_long i)
  rw[vmax_long]at x1
  generalize longL=L at*
  have l1:((L.drop 1).take (L.length - 1)).length=2048:=by simp;omega
  have l2:((L.drop 0).take (2048 - 0)).length=2048:=by simp;omega
  have r1:=l_refused ((1:Int):Rat) ((L.drop 1).take (L.length - 1)) ((L.drop 1).take (L.length - 1)) 2048 l1 l1 (by decide) (by decide+kernel) (sL _ _) (sL _ _)
  have r2:=l_refusedL ((1:Int):Rat) L L (by omega) (by omega) (alike_L (.inl (by omega)))
  have r3:=(l_refusedL ((1:Int):Rat) L [] (by omega) (by decide) (alike_L (.inl (by omega)))).nil3 (a:=none)
  have r4:=(l_refusedL ((1:Int):Rat) [] L (by decide) (by omega) (alike_L (.inr (by omega)))).nil2 (a:=none)
  have r5:=(l_refusedE ((1:Int):Rat) ((L.drop 0).take (2048 - 0)) [] (by omega) (by decide) (by rw[l2];decide)).nil3 (a:=none)
  have m1:=(v_MixL [] [L] (by simp) (by simp;omega) (by rw[alikeF,if_pos (by simp;omega)])).nil1 (a:=none)
  have m2:=(v_MixA [] [[]] (by decide) (by simp) (by decide) (by decide)).nil1 (a:=none) |>.nilIn2 (a:=none)
  have p1:=(v_PartL L [] (by omega) (by decide) (.inl (by omega))).nil2 (a:=none)
  have p2:=(v_PartL [] (List.replicate n 0) (by decide) (by simp;omega) (.inr (by simp;omega))).nil1 (a:=none)
  have s1:=v_ScaleE ((1:Int):Rat) L (by omega) (by rw[alike_L (.inl (by omega))];decide)
  rw[alike_L (.inl (by omega))]at s1
  have f3:=c_fInt 5 (by decide) (by decide)
  have w0:((Lit.int .i64 (0:Int)).wf=true)∧((Lit.int .u32 (0:Int)).wf=true):=⟨i64w (by decide) (by decide),u32w (by decide) (by decide)⟩
  have wn:QWf []:=⟨Nat.zero_le _,fun q hq=>by cases hq⟩
  have E1:=(law_VecsErrors (0,0) [] [] 2048 2047 w0 wn wn).nil2 (a:=none) |>.nil3 (a:=none)
  have E2:=(law_VecsErrors (0,0) [] [] 2049 (-1) w0 wn wn).nil2 (a:=none) |>.nil3 (a:=none)
  have E3:=(law_VecsErrors (0,0) [] [] (-9223372036854775808) 0 w0 wn wn).nil2 (a:=none) |>.nil3 (a:=none)
  have E4:=(law_VecsErrors (0,0) [] [] 9223372036854775807 9223372036854775807 w0 wn wn).nil2 (a:=none) |>.nil3 (a:=none)
  have E5:=(law_VecsSums [] [] [] wn ⟨Nat.zero_le _,fun q hq=>by cases hq⟩ ⟨Nat.zero_le _,fun q hq=>by cases hq⟩).nil1 (a:=none) |>.nil2 (a:=none) |>.nil3 (a:=none)
  have t5:decide (((5:Int):Rat)=((5:Int):Rat))=true:=decide_eq_true rfl
  clear sL
  refine SWx_go hE ?_
  conv=>whnf
  (repeat((first|refine step_w1 rfl rfl ?_|refine step_w2 rfl rfl ?_|refine step_i (by kernel_rfl) ?_|refine g_c (by assumption) ?_|refine g_o (op_pickF rfl (ev_ok rfl) (ev_ok rfl)) ?_|rw[bne_self_eq_false]|refine g_o (op_sliceM rfl (ev_ok rfl) (bound_spec rfl) (bound_spec rfl) (.inl rfl) (tgt rfl) rfl (tgt rfl) rfl (by omega)) ?_|rw[Int.toNat_natCast]);conv=>whnf))
  refine SWx_go hE ?_
  conv=>whnf
  refine g_o (op_longI h9 rfl) ?_
  conv=>whnf
  (repeat((first|refine step_w1 rfl rfl ?_|refine g_c (by assumption) ?_|refine g_o (op_pickT rfl (ev_ok rfl) (ev_ok rfl)) ?_|rw[beq_self_eq_true]|refine g_o (op_lenM rfl rfl rfl (ev_ok rfl) (tgt rfl) rfl) ?_|refine⟨_,op_eqAgg tabOK goodOK rfl (ev_ok rfl) (ev_ok rfl) rfl rfl rfl rfl (q_same _ _) q_guard, ?_⟩);conv=>whnf));(first|exact Recast.refl _|exact Frz.recast (Recast.refl _) rfl|(refine Frz.one rfl rfl ?_;skip)|(refine Frz.tup ?_;skip))
end Go.Proofs.YtjofnbpcanhfhabGreatDoor
