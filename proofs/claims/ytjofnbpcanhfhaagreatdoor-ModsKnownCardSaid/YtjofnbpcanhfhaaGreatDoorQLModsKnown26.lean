/- The texts Wk. -/
import Derived.Test.YtjofnbpcanhfhaaGreatDoorQLModsKnown25
namespace Go.Proofs.YtjofnbpcanhfhaaGreatDoor
open Go.Sx
set_option linter.unusedSimpArgs false
set_option linter.unusedVariables false
set_option maxRecDepth 100000
set_option maxHeartbeats 40000000
theorem u32_wf {n:Int} (h0:0≤n) (h1:n<4294967296):(Lit.int .u32 n).wf=true:=by
 have e1:IntKind.u32.min=0:=rfl
 have e2:IntKind.u32.max=4294967295:=rfl
 show(decide (IntKind.u32.min≤n)&&decide (n≤IntKind.u32.max))=true
 rw[e1,e2,decide_eq_true h0,decide_eq_true (by omega)];rfl
theorem u64_wf {n:Int} (h0:0≤n) (h1:n<18446744073709551616):(Lit.int .u64 n).wf=true:=by
 have e1:IntKind.u64.min=0:=rfl
 have e2:IntKind.u64.max=18446744073709551615:=rfl
 show(decide (IntKind.u64.min≤n)&&decide (n≤IntKind.u64.max))=true
 rw[e1,e2,decide_eq_true h0,decide_eq_true (by omega)];rfl
abbrev iW (n:Int):SV:=.val (.int .i64 n)
def knownL:List Int:=[2047,1373653,25326001,1729,2465,294409,56052361,2147210123,4292870399,2147483646,2147117569,4294967295,4294967291,3215031751]
def endsL:List Int:=[0,1,2,3,2147483647,2147483648,4294967291,4294967295]
theorem law_ModsKnown:CallOK Tryz.prog 3 [] [] (.val (.bool true)) [] []:=by
 have kw:=c_works
 have lP:∀n:Int,0≤n→n<4294967296→CallOK Tryz.prog 4 [iel .u32 n] [] (.val (.bool true)) [] []:=fun n h0 h1=>law_ModsPrimes n (u32_wf h0 h1)
 have kp1:=lP 2147483600 (by decide) (by decide)
 have kp2:=lP 4294967295 (by decide) (by decide)
 refine callV (Z:=[51,63,81,84]) tabOK mixedOK Tryz.func3 rfl (by kernel_rfl) rfl rfl (by kernel_rfl) rfl ?_
 intro W0 w0 ρ0 hE
 conv=>whnf
 skip
 refine SW_loopN hE (fun k=>k) [1] [] (fun M fr hp=>∃i:Nat,M=400 - i∧i≤400∧fr=[(1,iel .u32 (i:Nat))]∧hp=[]) 400 ?_ ?_ ?_
 ·kernel_rfl
 ·exact⟨0,rfl,Nat.zero_le _,rfl,rfl⟩
 rintro M _ _ ⟨i,rfl,hi,rfl,rfl⟩
 by_cases hlt:i<400
 ·have t1:decide (((i:Nat):Int)<400)=true:=decide_eq_true (by omega)
  have e0:∀n:Nat,n<4294967296→IntKind.u32.wrap ((n:Nat):Int)=((n:Nat):Int):=fun n hn=>wrap_u32 (by omega) (by omega)
  have e1:IntKind.u32.wrap (((i:Nat):Int).tdiv 3)=((i/3:Nat):Int):=e0 (i/3) (by omega)
  have e2:IntKind.u32.wrap (((i:Nat):Int).tmod 23)=((i % 23:Nat):Int):=by rw[Int.tmod_eq_emod_of_nonneg (by omega)];exact e0 (i % 23) (by omega)
  have e3:IntKind.u64.wrap ((i:Nat):Int)=((i:Nat):Int):=wrap_u64 (by omega) (by omega)
  have e4:IntKind.u32.wrap (((i:Nat):Int)*7)=((i*7:Nat):Int):=e0 (i*7) (by omega)
  have e5:IntKind.u32.wrap (((i*7:Nat):Int)+1)=((i*7+1:Nat):Int):=e0 (i*7+1) (by omega)
  have e6:IntKind.u32.wrap (((i:Nat):Int).tdiv 2)=((i/2:Nat):Int):=e0 (i/2) (by omega)
  have e7:IntKind.u32.wrap (((i:Nat):Int)+5)=((i+5:Nat):Int):=e0 (i+5) (by omega)
  have e8:IntKind.u32.wrap (((i:Nat):Int).tmod 19)=((i % 19:Nat):Int):=by rw[Int.tmod_eq_emod_of_nonneg (by omega)];exact e0 (i % 19) (by omega)
  have e9:IntKind.u32.wrap (((i:Nat):Int)+1)=((i+1:Nat):Int):=e0 (i+1) (by omega)
  have k1:=lP ((i:Nat):Int) (by omega) (by omega)
  have k2:=law_ModsSums ((i:Nat):Int) ((i/3:Nat):Int) ((i % 23:Nat):Int) ((i:Nat):Int) (u32_wf (by omega) (by omega)) (u32_wf (by omega) (by omega)) (u32_wf (by omega) (by omega)) (u64_wf (by omega) (by omega))
  have k3:=law_ModsField ((i:Nat):Int) ((i*7+1:Nat):Int) ((i/2:Nat):Int) ((i:Nat):Int) ⟨by omega,by omega⟩ ⟨by omega,by omega⟩ ⟨by omega,by omega⟩ ⟨by omega,by omega⟩
  have k4:=law_ModsPowers ((i:Nat):Int) ((i+5:Nat):Int) ((i % 19:Nat):Int) ((i:Nat):Int) ((i/2:Nat):Int) ⟨by omega,by omega⟩ ⟨by omega,by omega⟩ ⟨by omega,by omega⟩ ⟨by omega,by omega⟩ ⟨by omega,by omega⟩
  clear lP e0
  conv=>whnf
  (repeat((first|refine step_w1 rfl rfl ?_|refine step_w2 rfl rfl ?_|refine step_oN (by first|omega|decide|(simp only[tl0,dlen,List.length_replicate,List.length_set,List.length_map,List.length_zipWith,List.length_take,List.length_append,List.length_cons,List.length_nil];omega)) ?_|refine g_c (by assumption) ?_|refine g_o (op_pickF rfl (ev_ok rfl) (ev_ok rfl)) ?_|rw[t1]|rw[e1]|rw[e3]|rw[e4]|rw[e5]|rw[e6]|rw[e7]|rw[e9]);conv=>whnf))
  exact⟨400 - (i+1),fun k=>k,[1],[],by omega,by kernel_rfl,i+1,rfl,hlt,rfl,rfl⟩
 ·have t1:decide (((i:Nat):Int)<400)=false:=decide_eq_false (by omega)
  obtain rfl:i=400:=by omega
  conv=>whnf
  (repeat(first|(refine step_w2 rfl rfl ?_;conv=>whnf)|(refine g_o (op_lenA rfl rfl rfl (ev_ok rfl) (tgt rfl) rfl) ?_;conv=>whnf)|(rw[t1];conv=>whnf)))
  refine SW_loopN hE (fun k=>k) [51,52,53] [] (fun M fr hp=>∃i:Nat,M=14 - i∧i≤14∧fr=[(51,ivec .u32 knownL),(52,iW ((14:Nat))),(53,iW (i:Nat))]∧hp=[]) 14 ?_ ?_ ?_
  ·kernel_rfl
  ·exact⟨0,rfl,Nat.zero_le _,rfl,rfl⟩
  rintro M _ _ ⟨i,rfl,hi,rfl,rfl⟩
  by_cases hlt:i<14
  ·have t2:=dlt hlt
   have t3:=winc (i:=i) (by omega)
   have hlk:i<knownL.length:=hlt
   have hb:∀x∈knownL,0≤x∧x<4294967296:=by decide
   have hx:=hb (knownL.getD i 0) (getD_mem hlk)
   obtain⟨v,hv⟩:∃v:Nat,knownL.getD i 0=v:=⟨(knownL.getD i 0).toNat,by omega⟩
   have k1:=c_Prime v (by omega)
   have k2:=r6_Prime v (by omega)
   rw[←hv]at k1 k2
   have t4:(primeF v != primeF v)=false:=bne_self_eq_false _
   generalize primeF v=pv at*
   clear hb hx lP
   conv=>whnf
   (repeat((first|refine step_w1 rfl rfl ?_|refine step_w2 rfl rfl ?_|refine g_c (by assumption) ?_|rw[bne_self_eq_false]|refine g_o (op_loadA rfl (ev_ok rfl) (tgt rfl) rfl (Nat.succ_ne_zero _) rfl) ?_|refine g_o (op_indexN (α:=Int) (d:=0) rfl (ev_ok rfl) (ev_ok rfl) (tgt rfl) rfl (tgt rfl) rfl (by omega)) ?_|rw[t2]|rw[t3]);conv=>whnf))
   exact⟨14 - (i+1),fun k=>k,[51,52,53],[],by omega,by kernel_rfl,i+1,rfl,hlt,rfl,rfl⟩
  ·have t2:=dge hlt
   obtain rfl:i=14:=by omega
   conv=>whnf
   (repeat(first|(refine step_w2 rfl rfl ?_;conv=>whnf)|(refine g_o (op_lenA rfl rfl rfl (ev_ok rfl) (tgt rfl) rfl) ?_;conv=>whnf)|(rw[t2];conv=>whnf)))
   refine SW_loopN hE (fun k=>k) [4,64,65,66] [] (fun M fr hp=>∃i:Nat,M=8 - i∧i≤8∧fr=[(4,ivec .u32 endsL),(64,ivec .u32 endsL),(65,iW ((8:Nat))),(66,iW (i:Nat))]∧hp=[]) 8 ?_ ?_ ?_
   ·kernel_rfl
   ·exact⟨0,rfl,Nat.zero_le _,rfl,rfl⟩
   rintro M _ _ ⟨i,rfl,hi,rfl,rfl⟩
   by_cases hlt:i<8
   ·have t3:=dlt hlt
    have t4:=winc (i:=i) (by omega)
    have hli:i<endsL.length:=hlt
    conv=>whnf
    (repeat((first|refine step_w1 rfl rfl ?_|refine g_o (op_lenM rfl rfl rfl (ev_ok rfl) (tgt rfl) rfl) ?_|refine g_o (op_loadA rfl (ev_ok rfl) (tgt rfl) rfl (Nat.succ_ne_zero _) rfl) ?_|refine g_o (op_indexN (α:=Int) (d:=0) rfl (ev_ok rfl) (ev_ok rfl) (tgt rfl) rfl (tgt rfl) rfl (by omega)) ?_|rw[t3]);conv=>whnf))
    refine SW_loopN hE (fun k=>k) [4,6,64,65,66,70,71,72] [] (fun M fr hp=>∃j:Nat,M=8 - j∧j≤8∧fr=[(4,ivec .u32 endsL),(6,iel .u32 (endsL.getD i 0)),(64,ivec .u32 endsL),(65,iW ((8:Nat))),(66,iW (i:Nat)),(70,ivec .u32 endsL),(71,iW ((8:Nat))),(72,iW (j:Nat))]∧hp=[]) 8 ?_ ?_ ?_
    ·kernel_rfl
    ·exact⟨0,rfl,Nat.zero_le _,rfl,rfl⟩
    rintro M _ _ ⟨j,rfl,hj,rfl,rfl⟩
    by_cases hlj:j<8
    ·have t5:=dlt hlj
     have t6:=winc (i:=j) (by omega)
     have hljl:j<endsL.length:=hlj
     have hb:∀x∈endsL,0≤x∧x<4294967296:=by decide
     have hx:=hb (endsL.getD i 0) (getD_mem hli)
     have hy:=hb (endsL.getD j 0) (getD_mem hljl)
     obtain⟨a,ha⟩:∃a:Nat,endsL.getD i 0=a:=⟨(endsL.getD i 0).toNat,by omega⟩
     obtain⟨p,hp⟩:∃p:Nat,endsL.getD j 0=p:=⟨(endsL.getD j 0).toNat,by omega⟩
     have ha1:a<4294967296:=by omega
     have hp1:p<4294967296:=by omega
     have e2:IntKind.u64.wrap ((a:Nat):Int)=((a:Nat):Int):=wrap_u64 (by omega) (by omega)
     have e3:ishl .u64 ((a:Nat):Int) 31=((a*2147483648:Nat):Int):=by
      show IntKind.u64.wrap (((a:Nat):Int)*2^(min (31:Int).toNat 64))=_
      rw[show(2:Int)^(min (31:Int).toNat 64)=2147483648 from by decide]
      rw[wrap_u64 (by omega) (by omega)];omega
     obtain⟨bo,hbo⟩:∃bo:Bool,(((a:Nat):Int).tmod 2==1)=bo:=⟨_,rfl⟩
     have hw:∀x∈[((a:Nat):Int),((p:Nat):Int)],(Lit.int .u32 x).wf=true:=fun x hx=>by
      simp only[List.mem_cons,List.not_mem_nil,or_false]at hx
      rcases hx with rfl|rfl<;>exact u32_wf (by omega) (by omega)
     have hd:∀x∈[((a:Nat):Int),3],(Lit.int .u32 x).wf=true:=fun x hx=>by
      simp only[List.mem_cons,List.not_mem_nil,or_false]at hx
      rcases hx with rfl|rfl
      ·exact u32_wf (by omega) (by omega)
      ·exact u32_wf (by decide) (by decide)
     have hml:(2:Nat)≤maxLen:=by decide
     have k1:=law_ModsSums ((a:Nat):Int) ((p:Nat):Int) ((p:Nat):Int) ((a*2147483648:Nat):Int) (u32_wf (by omega) (by omega)) (u32_wf (by omega) (by omega)) (u32_wf (by omega) (by omega)) (u64_wf (by omega) (by omega))
     have k2:=law_ModsSums ((p:Nat):Int) ((a:Nat):Int) ((p:Nat):Int) 18446744073709551615 (u32_wf (by omega) (by omega)) (u32_wf (by omega) (by omega)) (u32_wf (by omega) (by omega)) (u64_wf (by decide) (by decide))
     have k3:=law_ModsOf ((bo,[((a:Nat):Int),((p:Nat):Int)]),[((a:Nat):Int),3]) ((p:Nat):Int) ⟨⟨trivial,hml,hw⟩,hml,hd⟩ (u32_wf (by omega) (by omega))
     have k4:=law_ModsRings ((bo,[((a:Nat):Int),((p:Nat):Int)]),[((a:Nat):Int),3]) ((bo,[((a:Nat):Int),((p:Nat):Int)]),[((a:Nat):Int),3]) ((p:Nat):Int) ⟨⟨trivial,hml,hw⟩,hml,hd⟩ ⟨⟨trivial,hml,hw⟩,hml,hd⟩ (u32_wf (by omega) (by omega))
     have k5:=law_ModsPowers ((a:Nat):Int) ((p:Nat):Int) ((p:Nat):Int) ((a:Nat):Int) ((p:Nat):Int) ⟨by omega,by omega⟩ ⟨by omega,by omega⟩ ⟨by omega,by omega⟩ ⟨by omega,by omega⟩ ⟨by omega,by omega⟩
     clear hb hx hy hw hd hml lP
     conv=>whnf
     (repeat((first|refine step_w1 rfl rfl ?_|refine step_w2 rfl rfl ?_|refine step_oM (by first|omega|decide|(simp only[tl0,dlen,List.length_replicate,List.length_set,List.length_map,List.length_zipWith,List.length_take,List.length_append,List.length_cons,List.length_nil];omega)) ?_|refine step_oN (by first|omega|decide|(simp only[tl0,dlen,List.length_replicate,List.length_set,List.length_map,List.length_zipWith,List.length_take,List.length_append,List.length_cons,List.length_nil];omega)) ?_|refine g_c (by assumption) ?_|refine g_o (op_pickF rfl (ev_ok rfl) (ev_ok rfl)) ?_|refine g_o (op_loadA rfl (ev_ok rfl) (tgt rfl) rfl (Nat.succ_ne_zero _) rfl) ?_|refine g_o (op_indexN (α:=Int) (d:=0) rfl (ev_ok rfl) (ev_ok rfl) (tgt rfl) rfl (tgt rfl) rfl (by omega)) ?_|rw[t5]|rw[ha]|rw[hp]|rw[e2]|rw[e3]|rw[hbo]|rw[t6]);conv=>whnf))
     exact⟨8 - (j+1),fun k=>k,[4,6,64,65,66,70,71,72],[],by omega,by kernel_rfl,j+1,rfl,hlj,by first|kernel_rfl|rfl,rfl⟩
    ·have t5:=dge hlj
     obtain rfl:j=8:=by omega
     conv=>whnf
     (repeat(first|(refine step_w2 rfl rfl ?_;conv=>whnf)|(rw[t5];conv=>whnf)|(rw[t4];conv=>whnf)))
     exact⟨8 - (i+1),fun k=>k,[4,64,65,66],[],by omega,by kernel_rfl,i+1,rfl,hlt,rfl,rfl⟩
   ·have t3:=dge hlt
    obtain rfl:i=8:=by omega
    clear lP
    conv=>whnf
    (repeat((first|refine step_w1 rfl rfl ?_|refine step_w2 rfl rfl ?_|refine g_c (by assumption) ?_|refine g_o (op_pickT rfl (ev_ok rfl) (ev_ok rfl)) ?_);conv=>whnf));(first|exact Recast.refl _|exact Frz.recast (Recast.refl _) rfl|(refine Frz.one rfl rfl ?_;skip)|(refine Frz.tup ?_;skip))
end Go.Proofs.YtjofnbpcanhfhaaGreatDoor
