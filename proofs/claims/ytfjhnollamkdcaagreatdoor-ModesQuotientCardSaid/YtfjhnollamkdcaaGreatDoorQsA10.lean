/- The texts Mg. -/
import Derived.Test.YtfjhnollamkdcaaGreatDoorQsA9
namespace Go.Sx
set_option linter.unusedSimpArgs false
set_option linter.unusedVariables false
def bls (n:Nat) (d:Nat→Bool):List SV:=(List.range n).map fun j=>.val (.bool (d j))
section
variable {P:Program} {o:Oper} {fr:List (Nat×SV)} {hp:List (Nat×Blk)}
theorem g_loadB {K:SV→List (Nat×Blk)→List (Nat×Blk)→List (Nat×Blk)→Prop} {t ty:TypeId} {x:Operand} {ti:TI} {k i n:Nat} {wr:Bool} {d:Nat→Bool} {c:SV} {b:Bool} (ho:o.op= .load t x) (hx:EvOK fr x (.ptr k 1 i 0))
  (hf:find hp k=some ⟨ty,wr,.seq 1 (bls n d)⟩) (ht:TOK P t ti) (hi:i<n) (hb:d i=b) (hsz:ti.size=1) (hsh:shapeAs ti [.val (.bool b)]=some c) (hK:K c [(k,⟨ty,wr,.seq 1 (bls n d)⟩)] [] []):
  Good P fr hp o K:=
 ⟨c,_,[],[],op_load (ob:=some (i<(bls n d).length)) (cs:=[.val (.bool b)]) (f:=64) ho hx ht (List.mem_singleton.2 rfl) (by
  show(some (some (i<(bls n d).length),[(bls n d).getD i .any]):Option (Option Prop×List SV))=_
  rw[show(bls n d).getD i .any= .val (.bool b)from by simp[bls,List.getD_eq_getElem?_getD,hi,hb]]) (by show i<(bls n d).length;simp[bls];exact hi) (by rw[hsz];rfl) (by omega) hsh,one_fk hf,nil_new,nil_upd,hK⟩
end
end Go.Sx
namespace Go.Proofs.YtfjhnollamkdcaaGreatDoor
open Go.Sx
set_option linter.unusedSimpArgs false
set_option linter.unusedVariables false
set_option maxRecDepth 100000
set_option maxHeartbeats 40000000
abbrev doB (n:Nat) (d:Nat→Bool):Blk:=⟨4,true,.seq 1 (bls n d)⟩
abbrev hpD (r n:Nat) (X:Mx) (d:Nat→Bool):List (Nat×Blk):=(1003,doB n d)::hpS r n X
theorem find_hpD {r n j:Nat} {X:Mx} {d:Nat→Bool} (h:j<r):find (hpD r n X d) (1010+j)=some (rwB true (rowsM n X j)):=by
 rw[find_skip (by omega)]
 exact find_hpS h
theorem sign0 {q:Rat}:(q.num.sign==0)=decide (q=0):=by
 rw[←rat_sign0];rfl
theorem m_pivot1 {r n i:Nat} (X:Mx) (d:Nat→Bool) (hrn:r=n) (hr:r≤5) (hi:i<n) (h0:∀j,j<i→d j=true∨X j j=0) (hd:d i=false) (hx:X i i≠0):
  CallOK Tryz.prog 138 [.ptr 1001 0 0 0,.slc 1003 1 0 n] (hpD r n X d) (.tup [iv i,.val (.bool true)]) [] (hpD r n X d):=by
 obtain⟨KR,hKR⟩:∃K,K=1003::1001::1002::(List.range r).map fun j=>1010+j:=⟨_,rfl⟩
 rcases(show r=1∨r=2∨r=3∨r=4∨r=5 by omega)with e1|e1|e1|e1|e1
 all_goals
  rw[e1]
  refine callI (Z:=[700019,700028,700031,700054,700060,700070,700073]) tabOK mixedOK Tryz.func138 rfl (by kernel_rfl) (ShapeOK.of rfl rfl rfl rfl rfl rfl rfl rfl rfl rfl rfl) rfl ?_
  intro W0 w0 ρ0 hE
  conv=>whnf
  (repeat(first|(rw[Nat.zero_add];conv=>whnf)))
  refine SW_loopN hE (fun k=>k) [0,1,12,13] KR (fun m' fr hp=>∃q:Nat,m'=n - q∧q≤i∧fr=[(0,.ptr 1001 0 0 0),(1,.slc 1003 1 0 n),(12,iv n),(13,iv q)]∧hp=hpD r n X d) n ?_ ?_ ?_
  ·subst e1 hKR;kernel_rfl
  ·exact⟨0,rfl,Nat.zero_le _,rfl,by subst e1 hKR;rfl⟩
  rintro m' _ _ ⟨q,rfl,hq,rfl,rfl⟩
  have hlt:q<n:=by omega
  have t1:=dlt hlt
  have t2:=winc (i:=q) (by omega)
  have hqr:=Nat.lt_of_lt_of_eq hlt hrn.symm
  have hs:=sub_cells (n:=n) (by omega) hqr
  have hfd:=find_hpD (n:=n) (X:=X) (d:=d) hqr
  have k1:=c_fSign (X q q)
  rw[e1]at hfd hs
  rw[e1]
  cases hdq:d q with
  |true=>
   have hqi:q<i:=by
    rcases Nat.lt_or_ge q i with g|g
    ·exact g
    ·rw[show q=i by omega,hd]at hdq;cases hdq
   conv=>whnf
   (repeat((first|refine step_w2 rfl rfl ?_|refine step_oA (by first|omega|decide|(simp only[tl0,dlen,List.length_replicate,List.length_set,List.length_map,List.length_zipWith,List.length_take,List.length_append,List.length_cons,List.length_nil];omega)) ?_|refine g_o (op_pickF rfl (ev_ok rfl) (ev_ok rfl)) ?_|refine tst_tt t1 ?_|refine g_loadB rfl (ev_ok rfl) rfl (tgt rfl) hlt hdq rfl rfl ?_|rw[t1]|rw[t2]|rw[Int.toNat_natCast]|rw[Nat.zero_add]);conv=>whnf))
   exact⟨n - (q+1),fun k=>k,[0,1,12,13],KR,by omega,by subst e1 hKR;kernel_rfl,q+1,rfl,hqi,rfl,by subst e1 hKR;rfl⟩
  |false=>
   by_cases g:X q q=0
   ·have hqi:q<i:=by
     rcases Nat.lt_or_ge q i with g2|g2
     ·exact g2
     ·rw[show q=i by omega]at g;exact absurd g hx
    have t3:((X q q).num.sign != 0)=false:=by rw[bne,sign0,decide_eq_true g];rfl
    conv=>whnf
    (repeat(first|(refine step_w1 rfl rfl ?_;conv=>whnf)|(refine step_oA (by first|omega|decide|(simp only[tl0,dlen,List.length_replicate,List.length_set,List.length_map,List.length_zipWith,List.length_take,List.length_append,List.length_cons,List.length_nil];omega)) ?_;conv=>whnf)|(refine g_c (by assumption) ?_;conv=>whnf)|(refine g_o (op_pickT rfl (ev_ok rfl) (ev_ok rfl)) ?_;conv=>whnf)|(refine tst_tt t1 ?_;conv=>whnf)|(refine tst_ff t3 ?_;conv=>whnf)|(refine g_loadB rfl (ev_ok rfl) rfl (tgt rfl) hlt hdq rfl rfl ?_;conv=>whnf)|(refine g_load1 rfl (ev_ok rfl) rfl (tgt rfl) hs (Nat.succ_ne_zero _) rfl ?_;conv=>whnf)|(refine g_loadR rfl (ev_ok rfl) hfd (tgt rfl) (by rw[rwL_len];omega) (rwL_get (by omega)) rfl (Nat.succ_ne_zero _) rfl ?_;conv=>whnf)|(rw[t1];conv=>whnf)|(rw[t2];conv=>whnf)|(rw[t3];conv=>whnf)|(rw[Int.toNat_natCast];conv=>whnf)|(rw[Nat.zero_add];conv=>whnf)))
    exact⟨n - (q+1),fun k=>k,[0,1,12,13],KR,by omega,by subst e1 hKR;kernel_rfl,q+1,rfl,hqi,rfl,by subst e1 hKR;rfl⟩
   ·obtain rfl:q=i:=by
     rcases Nat.lt_or_ge q i with g2|g2
     ·rcases h0 q g2 with g3|g3
      ·rw[g3]at hdq;cases hdq
      ·exact absurd g3 g
     ·omega
    have t3:((X q q).num.sign != 0)=true:=by rw[bne,sign0,decide_eq_false g];rfl
    conv=>whnf
    (repeat(first|(refine step_w1 rfl rfl ?_;conv=>whnf)|(refine step_oA (by first|omega|decide|(simp only[tl0,dlen,List.length_replicate,List.length_set,List.length_map,List.length_zipWith,List.length_take,List.length_append,List.length_cons,List.length_nil];omega)) ?_;conv=>whnf)|(refine g_c (by assumption) ?_;conv=>whnf)|(refine g_o (op_pickT rfl (ev_ok rfl) (ev_ok rfl)) ?_;conv=>whnf)|(refine tst_tt t1 ?_;conv=>whnf)|(refine tst_tt t3 ?_;conv=>whnf)|(refine g_loadB rfl (ev_ok rfl) rfl (tgt rfl) hlt hdq rfl rfl ?_;conv=>whnf)|(refine g_load1 rfl (ev_ok rfl) rfl (tgt rfl) hs (Nat.succ_ne_zero _) rfl ?_;conv=>whnf)|(refine g_loadR rfl (ev_ok rfl) hfd (tgt rfl) (by rw[rwL_len];omega) (rwL_get (by omega)) rfl (Nat.succ_ne_zero _) rfl ?_;conv=>whnf)|(rw[t1];conv=>whnf)|(rw[Int.toNat_natCast];conv=>whnf)|(rw[Nat.zero_add];conv=>whnf)))
    exact⟨Recast.refl _,get_nil,by repeat(first|exact get_nil|refine get_cons rfl ?_)⟩
end Go.Proofs.YtfjhnollamkdcaaGreatDoor
