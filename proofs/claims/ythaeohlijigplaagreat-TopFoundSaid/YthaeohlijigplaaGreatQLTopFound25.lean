/- The texts Fz6. -/
import Derived.Test.YthaeohlijigplaaGreatQLTopFound23
namespace Go.Proofs.YthaeohlijigplaaGreat
open Go.Sx
set_option linter.unusedSimpArgs false
set_option linter.unusedVariables false
set_option maxRecDepth 100000
set_option maxHeartbeats 32000000
theorem b_Bisect0 {B:Nat} (m:Me) (mk:List Int) (hf:m.Fit) (h0:m.ps≠[]) (hn:m.ts≠[]) (hok:OkTs m.ps.length m.ts) (hb:∀i,PB B (gp m.ps i)) (hB:16*B≤1073741824) (hkl:mk.length<274877906944) (hmk:∀i,i<mk.length→0≤mk.getD i 0∧mk.getD i 0<(m.ts.length:Nat))
  (hl1:m.ps.length+(cutL m mk).length≤4096) (hl2:4*m.ts.length≤8192) (hcut:cutL m mk=[])
  (hev:∀k,k<(cutL m mk).length→pv m.ps.length (ge (cutL m mk) k).1=true∧pv m.ps.length (ge (cutL m mk) k).2.1=true) (hok2:OkTs (m.ps.length+(cutL m mk).length) (bisL m mk)):
  CallOK Tryz.prog 43 [meA m,ivec .i64 mk] [] (.tup [meA (bisM m mk),ivec .i64 (bisP (midB m.ps.length (cutL m mk) (cutL m mk).length) m.ts m.ts.length),iv 0]) [] []:=by
 have hbl:(bisL m mk).length≤4*m.ts.length:=bisA_len _ _ _
 have hbn:bisL m mk≠[]:=by
  have:0<m.ts.length:=List.length_pos_iff.2 hn
  unfold bisL
  obtain⟨k,hk⟩:∃k,m.ts.length=k+1:=⟨m.ts.length - 1,by omega⟩
  rw[hk];simp only[bisA]
  simp[halveF_ne]
 have kn:=m_Numbered m hf hok
 have kI:=g_IndexIc (fun _=>false) 82 [mvec 10 ptA m.ps,mvec 3 triA m.ts,mvec 3 triA m.ss] mk (by omega) (fun i hi=>b_mark1 m _ (hmk i hi))
 rw[show mk.any (fun _=>false)=false by simp]at kI
 have kcl:=b_closure m mk (by omega) hkl hmk
 have ked:=b_edges0 m (closeL m.ts mk) hf (by omega) hok hn hcut
 have kh:=r_HalvesA m (cutL m mk) (bisL m mk) hf h0 hb hB (by omega) (by omega) hev (by omega) hok2 hbn
 have hbd:bisL m mk=bisA (midB m.ps.length (cutL m mk) (cutL m mk).length) m.ts m.ts.length:=rfl
 have hrm:bisM m mk=halvesM m (cutL m mk) (bisL m mk):=rfl
 rw[hrm]
 rw[show([]:List E4)=cutL m mk from hcut.symm]at ked
 generalize bisL m mk=bl at*
 generalize cutL m mk=cut at*
 generalize closeL m.ts mk=hm at*
 obtain⟨ps,ts,ss⟩:=m
 generalize halvesM ⟨ps,ts,ss⟩ cut bl=fm at*
 simp only at*
 have c1:decide (IntKind.i64.wrap ((ps.length:Int)+cut.length)>4096)=false:=by rw[wrap_i64 (by omega) (by omega)];exact decide_eq_false (by omega)
 refine callF (Z:=[2,10,14,100004,100020]) tabOK mixedOK Tryz.func43 rfl (by kernel_rfl) (by first|rfl|(simp[keylessL,keyless,keylessL_map, *];done)) (by first|rfl|(simp[keylessL,keyless,keylessL_map, *];done)) (by kernel_rfl) rfl ?_
 intro w0 ρ0 hE
 conv=>whnf
 (repeat((first|refine step_w1 rfl rfl ?_|refine step_w2 rfl rfl ?_|refine step_i (by kernel_rfl) ?_|refine g_c (by assumption) ?_|refine g_cn (by assumption) rfl ?_|refine g_c1 (by assumption) rfl ?_|refine g_o (op_pickF rfl (ev_ok rfl) (ev_ok rfl)) ?_|refine g_o (op_loadA rfl (ev_ok rfl) (tgt rfl) rfl (Nat.succ_ne_zero _) rfl) ?_|refine g_o (op_makeFunc rfl rfl rfl) ?_);conv=>whnf))
 refine SWx_go hE ?_
 conv=>whnf
 (repeat(first|(refine g_o (op_lenM rfl rfl rfl (ev_ok rfl) (tgt rfl) rfl) ?_;conv=>whnf)|(refine⟨_,[],_,[],op_makeMap (k:=29) rfl,nil_fk,one_new rfl,nil_upd, ?_⟩;conv=>whnf)))
 refine SW_loopN hE (fun k=>k) [2,4,5,7,8,30,31,32] [4,5,29,8] (fun M fr hp=>∃k,M=cut.length - k∧k≤cut.length∧fr=[(2,ptrA [mvec 10 ptA ps,mvec 3 triA ts,mvec 3 triA ss]),(4,.ptr 4 0 0 0),(5,.ptr 5 0 0 0),(7,mvec 4 edA cut),(8,.ptr 8 0 0 0),(30,mvec 4 edA cut),(31,iv (cut.length:Nat)),(32,iv (k:Nat))]∧
  hp=[(4,⟨35,true,.one [.val (.slice none 0 0),.val (.slice none 0 0),.val (.slice none 0 0)]⟩),(5,⟨36,true,.one [.val (.slice none 0 0)]⟩),(29,⟨0,true,.mp (mE eI (midB ps.length cut k))⟩),(8,⟨161,true,.one [.mp 29]⟩)]) cut.length ?_ ?_ ?_
 ·kernel_rfl
 ·exact⟨0,rfl,by omega,rfl,rfl⟩
 rintro M _ _ ⟨k,rfl,hk,rfl,rfl⟩
 by_cases hlt:k<cut.length
 ·have s1:=dlt hlt
  have wk:=winc (i:=k) (by omega)
  have wn:IntKind.i64.wrap ((ps.length:Int)+(k:Nat))=((ps.length+k:Nat):Int):=by rw[wrap_i64 (by omega) (by omega)];omega
  obtain⟨x,y,u,v,hgn⟩:∃x y u v,ge cut k=(x,y,u,v):=⟨_,_,_,_,rfl⟩
  have hg:cut.getD k (0,0,0,0)=(x,y,u,v):=hgn
  have hm1:midB ps.length cut (k+1)=updL (midB ps.length cut k) (x,y) ((ps.length+k:Nat):Int):=by simp only[midB,hgn]
  conv=>whnf
  (repeat((first|refine step_w1 rfl rfl ?_|refine g_o (op_lenM rfl rfl rfl (ev_ok rfl) (tgt rfl) rfl) ?_|refine g_o (op_loadA rfl (ev_ok rfl) (tgt rfl) rfl (Nat.succ_ne_zero _) rfl) ?_|refine g_o (op_fieldA rfl (ev_ok rfl) (tgt rfl) rfl rfl (Nat.succ_ne_zero _) rfl) ?_|refine g_o (op_indexM (α:=E4) (d:=(0,0,0,0)) rfl (ev_ok rfl) (ev_ok rfl) (tgt rfl) rfl (tgt rfl) rfl (by omega)) ?_|refine⟨_,[(29,_)],[],[(29,_)],op_mapUpdate eI (p:=(x,y)) (v:=((ps.length+k:Nat):Int)) rfl (ev_ok rfl) (ev_ok rfl) (ev_ok rfl) rfl um_b key_b (List.mem_cons_self ..),one_fk rfl,nil_new,one_upd (List.mem_cons_self ..) rfl rfl rfl, ?_⟩|rw[s1]|rw[hg]|rw[wk]|rw[wn]|rw[Int.toNat_natCast]|rw[Nat.zero_add]);conv=>whnf))
  exact⟨cut.length - (k+1),fun k=>k,[2,4,5,7,8,30,31,32],[4,5,29,8],by omega,by kernel_rfl,k+1,rfl,by omega,rfl,by rw[hm1];rfl⟩
 ·have s1:=dge hlt
  obtain rfl:k=cut.length:=by omega
  generalize midB ps.length cut cut.length=mm at*
  conv=>whnf
  (repeat((first|refine step_w2 rfl rfl ?_|refine g_o (op_lenM rfl rfl rfl (ev_ok rfl) (tgt rfl) rfl) ?_|refine g_o (op_loadA rfl (ev_ok rfl) (tgt rfl) rfl (Nat.succ_ne_zero _) rfl) ?_|refine g_o (op_fieldA rfl (ev_ok rfl) (tgt rfl) rfl rfl (Nat.succ_ne_zero _) rfl) ?_|refine g_o (op_makeFunc rfl rfl rfl) ?_|rw[s1]);conv=>whnf))
  refine SW_loopN hE (renBy [(8,1001),(29,1002),(11,1003),(5,1005),(12,1007)]) [2,4,5,7,11,12,51,52,53] [4,8,29,12,11,5] (fun M fr hp=>∃i,M=ts.length - i∧i≤ts.length∧fr=[(2,ptrA [mvec 10 ptA ps,mvec 3 triA ts,mvec 3 triA ss]),(4,.ptr 4 0 0 0),(5,.ptr 1005 0 0 0),(7,mvec 4 edA cut),(11,.ptr 1003 0 0 0),(12,.ptr 1007 0 0 0),(51,mvec 3 triA ts),(52,iv (ts.length:Nat)),(53,iv (i:Nat))]∧((i=0∧hp=[(4,⟨35,true,.one [.val (.slice none 0 0),.val (.slice none 0 0),.val (.slice none 0 0)]⟩),(1001,⟨161,true,.one [.mp 1002]⟩),(1002,⟨0,true,.mp (mE eI mm)⟩),(1007,⟨164,true,.one [.clo 85 [] [.ptr 1001 0 0 0,.ptr 1003 0 0 0,.ptr 1005 0 0 0,.ptr 1007 0 0 0]]⟩),(1003,⟨32,true,.one [.val (.slice none 0 0)]⟩),(1005,⟨36,true,.one [.val (.slice none 0 0)]⟩)])∨
   (0<i∧hp=[(4,⟨35,true,.one [.val (.slice none 0 0),.val (.slice none 0 0),.val (.slice none 0 0)]⟩),(1001,⟨161,true,.one [.mp 1002]⟩),(1002,⟨0,true,.mp (mE eI mm)⟩),(1007,⟨164,true,.one [.clo 85 [] [.ptr 1001 0 0 0,.ptr 1003 0 0 0,.ptr 1005 0 0 0,.ptr 1007 0 0 0]]⟩),(1003,⟨32,true,.one [.slc 3000 3 0 (bisA mm ts i).length]⟩),(1005,⟨36,true,.one [.slc 3001 1 0 (bisP mm ts i).length]⟩),(3000,alB (bisA mm ts i)),(3001,paB (bisP mm ts i))]))) ts.length ?_ ?_ ?_
  ·kernel_rfl
  ·exact⟨0,rfl,by omega,rfl,.inl ⟨rfl,rfl⟩⟩
  rintro M _ _ ⟨i,rfl,hi,rfl,hst⟩
  by_cases hie:i<ts.length
  ·have s2:=dlt hie
   have wk:=winc (i:=i) (by omega)
   obtain⟨c,hgn⟩:∃c,gt ts i=c:=⟨_,rfl⟩
   have hg:ts.getD i (0,0,0)=c:=hgn
   have hb1:=bisA_len mm ts i
   have hb2:=bisP_len mm ts i
   have hA:bisA mm ts (i+1)=bisA mm ts i++halveF mm 2 c:=by simp only[bisA,hgn]
   have hP:bisP mm ts (i+1)=bisP mm ts i++List.replicate (halveF mm 2 c).length ((i:Nat):Int):=by simp only[bisP,hgn]
   have hh:=b_halve mm ((i:Nat):Int) 2 c (by omega)
   rcases hst with⟨rfl,rfl⟩|⟨hpos,rfl⟩
   ·have kk:=hh.none 0
    conv=>whnf
    (repeat((first|refine step_w1 rfl rfl ?_|refine g_o (op_loadA rfl (ev_ok rfl) (tgt rfl) rfl (Nat.succ_ne_zero _) rfl) ?_|refine g_o (op_indexM (α:=T3) (d:=(0,0,0)) rfl (ev_ok rfl) (ev_ok rfl) (tgt rfl) rfl (tgt rfl) rfl (by omega)) ?_|refine⟨_,_,_,_,kk,get_cons rfl (get_cons rfl (get_cons rfl (get_cons rfl (get_cons rfl get_nil)))),two_newH rfl rfl,upd_ok rfl rfl, ?_⟩|rw[s2]|rw[hg]|rw[wk]|rw[Int.toNat_natCast]|rw[Nat.zero_add]);conv=>whnf))
    refine⟨ts.length - 1,fun k=>k,[2,4,5,7,11,12,51,52,53],[4,1001,1002,1007,1003,1005,3000,3001],by omega,by kernel_rfl,1,rfl,by omega,rfl,.inr ⟨by omega, ?_⟩⟩
    rw[show(1:Nat)=0+1 from rfl,hA,hP]
    rfl
   ·have kk:=hh.more (bisA mm ts i) (bisP mm ts i) 0 1 hb2 (by omega) (by omega)
    conv=>whnf
    (repeat((first|refine step_w1 rfl rfl ?_|refine g_o (op_loadA rfl (ev_ok rfl) (tgt rfl) rfl (Nat.succ_ne_zero _) rfl) ?_|refine g_o (op_indexM (α:=T3) (d:=(0,0,0)) rfl (ev_ok rfl) (ev_ok rfl) (tgt rfl) rfl (tgt rfl) rfl (by omega)) ?_|refine⟨_,_,_,_,kk,get_cons rfl (get_cons rfl (get_cons rfl (get_cons rfl (get_cons rfl (get_cons rfl (get_cons rfl get_nil)))))),two_newH rfl rfl,upd_ok rfl rfl, ?_⟩|rw[s2]|rw[hg]|rw[wk]|rw[Int.toNat_natCast]);conv=>whnf))
    refine⟨ts.length - (i+1),renBy [(3002,3000),(3003,3001)],[2,4,5,7,11,12,51,52,53],[4,1001,1002,1007,1003,1005,3002,3003],by omega,by kernel_rfl,i+1,rfl,by omega,rfl,.inr ⟨by omega, ?_⟩⟩
    rw[hA,hP]
    rfl
  ·have s2:=dge hie
   obtain rfl:i=ts.length:=by omega
   rcases hst with⟨h1,_⟩|⟨hpos,rfl⟩
   ·exact absurd (List.length_eq_zero_iff.1 h1) hn
   have c2:decide (((bisA mm ts ts.length).length:Int)>8192)=false:=decide_eq_false (by rw[←hbd];omega)
   have kc:=g_ClipI (bisP mm ts ts.length)
   conv=>whnf
   (repeat((first|refine step_w1 rfl rfl ?_|refine step_w2 rfl rfl ?_|refine g_o (op_pickF rfl (ev_ok rfl) (ev_ok rfl)) ?_|refine g_o (op_lenM rfl rfl rfl (ev_ok rfl) (tgt rfl) rfl) ?_|refine g_o (op_loadA rfl (ev_ok rfl) (tgt rfl) rfl (Nat.succ_ne_zero _) rfl) ?_|refine g_o (op_fieldA rfl (ev_ok rfl) (tgt rfl) rfl rfl (Nat.succ_ne_zero _) rfl) ?_|rw[s2]|rw[c1]|rw[c2]);conv=>whnf))
   refine SWx_freezeB 1003 0 3000 (fun _ h=>h) rfl (by decide) rfl rfl (keylessL_map (fun _=>rfl) _) (by simp) ?_
   refine SWx_freezeBI 1005 0 3001 (fun _ h=>h) rfl (by decide) rfl rfl rfl ?_
   rw[←hbd]
   refine SWx_go hE ?_
   conv=>whnf
   (repeat(first|(refine step_i (by kernel_rfl) ?_;conv=>whnf)|(refine g_c (by assumption) ?_;conv=>whnf)|(refine g_o (op_loadA rfl (ev_ok rfl) (tgt rfl) rfl (Nat.succ_ne_zero _) rfl) ?_;conv=>whnf)))
   (first|exact Recast.refl _|exact Frz.recast (Recast.refl _) rfl|(refine Frz.one rfl rfl ?_;skip)|(refine Frz.tup ?_;skip))
end Go.Proofs.YthaeohlijigplaaGreat
