/- The texts W5. -/
import Derived.Test.YthaeohlijigplaaGreatQLTopFound30
namespace Go.Proofs.YthaeohlijigplaaGreat
open Go.Sx
set_option linter.unusedSimpArgs false
set_option linter.unusedVariables false
set_option maxRecDepth 100000
set_option maxHeartbeats 32000000
def m6x (x:M6):M6:={x with nx:=x.nx.tmod 2,ny:=x.ny.tmod 2}
theorem c_TopFound (x:M6) (l:List Stp) (z0 z1 z2:Int) (m:Me) (hx:0≤x.nx∧0≤x.ny) (hm:CallOK Tryz.prog 14 [m6A (m6x x)] [] (meA m) [] []) (hn:CallOK Tryz.prog 13 [meA m] [] (.tup [lvs [⟨m,[]⟩],iv 0]) [] [])
  (h0:LvlOK 0 m) (hl:l.length<9223372036854775808) (hu:∀s∈l,(∀v∈s.2,0≤v∧v<256)∧s.2.length<9223372036854775808) (hz0:0≤z0∧z0<256) (hz1:0≤z1∧z1<256) (hz2:0≤z2∧z2<256):
  CallOK Tryz.prog 3 [m6A x,mvec 2 stA l,.agg [u8v z0,u8v z1,u8v z2]] [] (.val (.bool true)) [] []:=by
 by_cases hl3:l.length>3
 ·have s1:decide ((l.length:Int)>3)=true:=decide_eq_true (by omega)
  refine callV (Z:=[5]) tabOK mixedOK Tryz.func3 rfl (by kernel_rfl) rfl rfl (by kernel_rfl) rfl ?_
  intro W0 w0 ρ0 hE
  conv=>whnf
  (repeat(first|(refine step_w1 rfl rfl ?_;conv=>whnf)|(refine g_o (op_lenM rfl rfl rfl (ev_ok rfl) (tgt rfl) rfl) ?_;conv=>whnf)|(rw[s1];conv=>whnf)));(first|exact Recast.refl _|exact Frz.recast (Recast.refl _) rfl|(refine Frz.one rfl rfl ?_;skip)|(refine Frz.tup ?_;skip))
 have s1:decide ((l.length:Int)>3)=false:=decide_eq_false (by omega)
 have kc:=c_Chain (m6x x) l m hm hn h0 (by omega) hu
 obtain⟨hc,hcl⟩:=chF_ok l [⟨m,[]⟩] (ChOK.one h0) (by simp;omega) fun s hs v hv=>((hu s hs).1 v hv).1
 generalize chF l [⟨m,[]⟩]=c at*
 have hp:0<c.length:=List.length_pos_iff.2 hc.ne
 obtain⟨T,hT⟩:∃T,c.length=T+1:=⟨c.length - 1,by omega⟩
 have ht:=hc.lv T (by omega)
 have hf:=ht.fit (by omega)
 have hn0:0<(lvG c T).m.ts.length:=List.length_pos_iff.2 ht.good.ne
 have hnl:=ht.tl
 have t1:(((c.length:Nat):Int)==0)=false:=beq_eq_false_iff_ne.2 (by omega)
 have e1:IntKind.i64.wrap (((c.length:Nat):Int) - 1)=((T:Nat):Int):=by rw[wrap_i64 (by omega) (by omega)];omega
 have hgT:c.getD T lv0=lvG c T:=rfl
 have t2:((((lvG c T).m.ts.length:Nat):Int)==0)=false:=beq_eq_false_iff_ne.2 (by omega)
 have e2:IntKind.i64.wrap z0=z0:=wrap_i64 (by omega) (by omega)
 have e3:IntKind.i64.wrap z1=z1:=wrap_i64 (by omega) (by omega)
 have e4:IntKind.i64.wrap z2=z2:=wrap_i64 (by omega) (by omega)
 have e5:IntKind.i64.wrap (1+z1)=1+z1:=wrap_i64 (by omega) (by omega)
 have e6:IntKind.i64.wrap (1+z2)=1+z2:=wrap_i64 (by omega) (by omega)
 obtain⟨t,ht0⟩:∃t:Nat,z0.tmod ((lvG c T).m.ts.length:Nat)=(t:Int):=⟨(z0.tmod ((lvG c T).m.ts.length:Nat)).toNat,by rw[Int.toNat_of_nonneg (Int.tmod_nonneg _ hz0.1)]⟩
 have htl:t<(lvG c T).m.ts.length:=by have:=Int.tmod_lt_of_pos z0 (b:=((lvG c T).m.ts.length:Nat)) (by omega);omega
 have kU:=c_fInt (1+z1) (by omega) (by omega)
 have kV:=c_fInt (1+z2) (by omega) (by omega)
 have k1:=c_fInt 1 (by omega) (by omega)
 have gU:fs ((1+z1:Int):Rat)≤65:=fs_int (by omega) (by omega)
 have gV:fs ((1+z2:Int):Rat)≤65:=fs_int (by omega) (by omega)
 have g1:fs ((1:Int):Rat)≤65:=fs_int (by omega) (by omega)
 have pU:(0:Rat)<((1+z1:Int):Rat):=by exact_mod_cast (show(0:Int)<1+z1 by omega)
 have pV:(0:Rat)<((1+z2:Int):Rat):=by exact_mod_cast (show(0:Int)<1+z2 by omega)
 have p1:(0:Rat)<((1:Int):Rat):=by exact_mod_cast (show(0:Int)<1 by omega)
 generalize ((1+z1:Int):Rat)=u at*
 generalize ((1+z2:Int):Rat)=v at*
 have o1:((1:Int):Rat)=1:=rfl
 generalize ((1:Int):Rat)=o at*
 have kS:=f_Sum [o,u,v] (by simp) (by simp only[fsL,List.map_cons,List.map_nil,List.sum_cons,List.sum_nil];omega)
 have gS:=fs_sum [o,u,v] 0
 simp only[fsL,List.map_cons,List.map_nil,List.sum_cons,List.sum_nil,fs_zero]at gS
 have pS:0<List.foldl (·+·) 0 [o,u,v]:=by simp only[List.foldl_cons,List.foldl_nil];grind
 have eS:List.foldl (·+·) 0 [o,u,v]=o+u+v:=by simp only[List.foldl_cons,List.foldl_nil];grind
 generalize List.foldl (·+·) 0 [o,u,v]=s at*
 have kD:=f_Div o s (by grind) (by omega)
 have gD:=fs_div o s
 have pD:0<o/s:=by rw[Rat.div_def];exact Rat.mul_pos p1 (Rat.inv_pos.2 pS)
 have eD:(o/s)*s=o:=Rat.div_mul_cancel (by grind)
 generalize o/s=w at*
 have kA:=f_Mul u w (by omega)
 have kB:=f_Mul v w (by omega)
 have gA:=fs_mul u w
 have gB:=fs_mul v w
 have pA:=Rat.mul_pos pU pD
 have pB:=Rat.mul_pos pV pD
 have eW:u*w+v*w+w=1:=by
  subst o1
  have:w*s=w*(1+u+v):=by rw[eS]
  grind
 generalize u*w=a at*
 generalize v*w=b at*
 have kC:=m_Corners (lvG c T).m t htl (ht.good.ok.at htl)
 have hpos:=ht.good.pos t htl
 have hsz:=szB_le (i:=T) (by omega)
 obtain⟨kP,gP⟩:=t_At (B:=1621) (C:=400) (u:=a) (v:=b) (w:=w) ((ht.pb (gt (lvG c T).m.ts t).1).mono hsz) ((ht.pb (gt (lvG c T).m.ts t).2.1).mono hsz) ((ht.pb (gt (lvG c T).m.ts t).2.2).mono hsz) (by omega) (by omega) (by omega) (by omega)
 have hin:inP (lvG c T).m.ps (gt (lvG c T).m.ts t) (atP (gp (lvG c T).m.ps (gt (lvG c T).m.ts t).1) (gp (lvG c T).m.ps (gt (lvG c T).m.ts t).2.1) (gp (lvG c T).m.ps (gt (lvG c T).m.ts t).2.2) a b w):=at_in hpos pA pB pD eW
 generalize atP (gp (lvG c T).m.ps (gt (lvG c T).m.ts t).1) (gp (lvG c T).m.ps (gt (lvG c T).m.ts t).2.1) (gp (lvG c T).m.ps (gt (lvG c T).m.ts t).2.2) a b w=P at*
 have hup:=up_in hc (by omega) htl hin
 have hlt:=upF_lt hc.pa (L:=T) (t:=t) (by omega) htl
 have kF:∀n,n≤T→CallOK Tryz.prog 11 [meA (lvG c (T - n)).m,ptA P] [] (.tup [iv (upF c T t n:Nat),iv 1]) [] []:=fun n hn=>find_in (hc.lv (T - n) (by omega)) (by omega) gP (by omega) (hlt n hn) (hup n hn)
 have kUp:∀n,n≤T→CallOK Tryz.prog 12 [lvs c,iv (T:Nat),iv (t:Nat),iv (n:Nat)] [] (iv (upF c T t (T - n):Nat)) [] []:=fun n hn=>v_Up c hc.pa (by omega) T t n (by omega) htl hn fun i=>by
  by_cases hi:i<c.length
  ·have:=(hc.lv i hi).tl;omega
  ·have:lvG c i=lv0:=by rw[lvG,List.getD_eq_getElem?_getD,List.getElem?_eq_none (by omega)];rfl
   rw[this];decide
 have kF0:=kF 0 (Nat.zero_le _)
 rw[Nat.sub_zero,show upF c T t 0=t from rfl]at kF0
 clear hm hn h0 hup hin gP hpos hlt ht
 clear eW pA pB pD eD gA gB gD pS eS gS
 generalize gp (lvG c T).m.ps (gt (lvG c T).m.ts t).1=A at*
 generalize gp (lvG c T).m.ps (gt (lvG c T).m.ts t).2.1=B at*
 generalize gp (lvG c T).m.ps (gt (lvG c T).m.ts t).2.2=D at*
 have e7:((t:Int)==(t:Int))=true:=beq_self_eq_true _
 obtain⟨nx,ny,ce,x0,x1,x2,x3,den,fi⟩:=x
 refine callV (Z:=[5,77]) tabOK mixedOK Tryz.func3 rfl (by kernel_rfl) rfl rfl (by kernel_rfl) rfl ?_
 intro W0 w0 ρ0 hE
 conv=>whnf
 (repeat((first|refine step_w2 rfl rfl ?_|refine step_i (by kernel_rfl) ?_|refine step_oN (by first|omega|decide|(simp only[tl1,dlen,List.length_replicate,List.length_set,List.length_map,List.length_zipWith,List.length_take,List.length_append,List.length_cons,List.length_nil];omega)) ?_|refine g_c (by assumption) ?_|refine g_o (op_lenM rfl rfl rfl (ev_ok rfl) (tgt rfl) rfl) ?_|refine g_o (op_loadA rfl (ev_ok rfl) (tgt rfl) rfl (Nat.succ_ne_zero _) rfl) ?_|refine g_o (op_fieldA rfl (ev_ok rfl) (tgt rfl) rfl rfl (Nat.succ_ne_zero _) rfl) ?_|refine g_o (op_indexArrA rfl (ev_ok rfl) (ev_ok rfl) (tgt rfl) rfl (tgt rfl) (by omega) (by omega) (Nat.succ_ne_zero _) rfl) ?_|refine g_o (op_indexN (α:=Lv) (d:=lv0) rfl (ev_ok rfl) (ev_ok rfl) (tgt rfl) rfl (tgt rfl) rfl (by omega)) ?_|rw[s1]|rw[t1]|rw[e1]|rw[hgT]|rw[t2]|rw[e2]|rw[e3]|rw[e4]|rw[e5]|rw[e6]|rw[ht0]|rw[Nat.zero_add]);conv=>whnf))
 refine SW_loopN hE (fun k=>k) [7,8,9,10,19,20] [9,19] (fun M fr hp=>∃L,M=T+1 - L∧L≤T+1∧fr=[(7,lvs c),(8,iv (T:Nat)),(9,.ptr 9 0 0 0),(10,iv (t:Nat)),(19,.ptr 19 0 0 0),(20,iv (L:Nat))]∧
  hp=[(9,⟨35,true,.one [mvec 10 ptA (lvG c T).m.ps,mvec 3 triA (lvG c T).m.ts,mvec 3 triA (lvG c T).m.ss]⟩),(19,⟨54,true,.one [.frac P.1,.frac P.2]⟩)]) (T+1) ?_ ?_ ?_
 ·kernel_rfl
 ·exact⟨0,rfl,by omega,rfl,rfl⟩
 rintro M _ _ ⟨L,rfl,hL,rfl,rfl⟩
 clear kc kU kV k1 kS kD kA kB kC kP
 by_cases hlt:L≤T
 ·have s2:decide ((L:Int)≤(T:Int))=true:=decide_eq_true (by omega)
  have kf:=kF (T - L) (by omega)
  have ku:=kUp L hlt
  rw[show T - (T - L)=L by omega]at kf
  have wk:=winc (i:=L) (by omega)
  have hgL:c.getD L lv0=lvG c L:=rfl
  generalize upF c T t (T - L)=k at*
  have e8:((k:Int) != (k:Int))=false:=bne_self_eq_false _
  clear kF kUp kF0
  generalize lvG c L=mL at*
  conv=>whnf
  (repeat((first|refine step_w1 rfl rfl ?_|refine step_w2 rfl rfl ?_|refine step_i (by kernel_rfl) ?_|refine g_c (by assumption) ?_|refine g_o (op_pickF rfl (ev_ok rfl) (ev_ok rfl)) ?_|rw[bne_self_eq_false]|refine g_o (op_loadA rfl (ev_ok rfl) (tgt rfl) rfl (Nat.succ_ne_zero _) rfl) ?_|refine g_o (op_fieldA rfl (ev_ok rfl) (tgt rfl) rfl rfl (Nat.succ_ne_zero _) rfl) ?_|refine g_o (op_indexN (α:=Lv) (d:=lv0) rfl (ev_ok rfl) (ev_ok rfl) (tgt rfl) rfl (tgt rfl) rfl (by omega)) ?_|rw[s2]|rw[hgL]|rw[wk]);conv=>whnf))
  exact⟨T+1 - (L+1),fun k=>k,[7,8,9,10,19,20],[9,19],by omega,by kernel_rfl,L+1,rfl,by omega,rfl,rfl⟩
 ·have s2:decide ((L:Int)≤(T:Int))=false:=decide_eq_false (by omega)
  clear kF kUp
  conv=>whnf
  (repeat((first|refine step_w1 rfl rfl ?_|refine step_w2 rfl rfl ?_|refine g_c (by assumption) ?_|refine g_o (op_pickT rfl (ev_ok rfl) (ev_ok rfl)) ?_|rw[beq_self_eq_true]|rw[s2]);conv=>whnf))
  (first|exact Recast.refl _|exact Frz.recast (Recast.refl _) rfl|(refine Frz.one rfl rfl ?_;skip)|(refine Frz.tup ?_;skip))
end Go.Proofs.YthaeohlijigplaaGreat
