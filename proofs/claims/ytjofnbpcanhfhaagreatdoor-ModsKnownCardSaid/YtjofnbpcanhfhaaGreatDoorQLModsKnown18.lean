/- The texts Ek, Em, Ga, Rb, Rc, Rd, Aa, Re, Rf, Ua. -/
import Derived.Test.YtjofnbpcanhfhaaGreatDoorQLModsKnown17
namespace Go.Proofs.YtjofnbpcanhfhaaGreatDoor
open Go.Sx
set_option linter.unusedSimpArgs false
set_option linter.unusedVariables false
set_option maxRecDepth 100000
set_option maxHeartbeats 8000000
theorem c_Div (a b:Nat) (ha:(wInts a).length<274877906944) (hb:(wInts b).length<274877906944) (h0:b≠0):
  CallOK Tryz.prog 88 [.nat a,.nat b] [] (.tup [.nat (a/b),.nat (a % b),.val (.bool true)]) [] []:=by
 by_cases hs:a<18446744073709551616∧b<18446744073709551616
 ·exact s_Div a b hs.1 hs.2 h0
 have kz:=c_nZero b
 rw[decide_eq_false h0]at kz
 have kc:=c_Cmp a b (by omega) (by omega)
 have kb:=c_words b 1002 (by omega)
 have ka:=c_words a 1001 (by omega)
 by_cases hlt:a<b
 ·have t1:Hid (decide (((a:Int) - b).sign<0)=true):=show decide (((a:Int) - b).sign<0)=true from decide_eq_true (Int.sign_neg_iff.2 (by omega))
  rw[Nat.div_eq_of_lt hlt,Nat.mod_eq_of_lt hlt]
  refine callV (Z:=[]) tabOK mixedOK Tryz.func88 rfl (by kernel_rfl) rfl rfl (by kernel_rfl) rfl ?_
  intro W0 w0 ρ0 hE
  conv=>whnf
  (repeat((first|refine step_w1 rfl rfl ?_|refine step_w2 rfl rfl ?_|refine step_i (by kernel_rfl) ?_|refine g_c (by assumption) ?_|rw[t1.out]);conv=>whnf));exact Recast.refl _
 have t1:Hid (decide (((a:Int) - b).sign<0)=false):=show decide (((a:Int) - b).sign<0)=false from decide_eq_false (by have:=Int.sign_nonneg_iff.2 (show 0≤(a:Int) - b by omega);omega)
 have hbig:¬a<18446744073709551616:=by omega
 have hlen:(wInts b).length≤(wInts a).length:=len_le_of (Nat.lt_of_le_of_lt (Nat.le_of_not_lt hlt) (lt_of_len a))
 have hA:wArr a=wInts a:=if_neg hbig
 rw[hA]at ka
 have htop:=wt_top b
 have hb0:(wInts b).length≠0:=(wInts_top h0).1
 have hval:=wInts_val a
 have hvb:=wArr_val b
 have hbl:=wArr_len b
 have hbl2:(wArr b).length<549755813888:=by
  have:=wArr_len2 b (M:=274877906944) (by omega) (by omega)
  omega
 by_cases hone:(wInts b).length=1
 ·rw[hone]at kb hvb htop
  obtain⟨y,hy⟩:=Int.eq_ofNat_of_zero_le (wArr_w32 b 0).1
  have hy2:=(wArr_w32 b 0).2
  have hyb:y=b:=by
   rw[valI,valI,Int.pow_zero,hy]at hvb
   omega
  subst hyb
  have ks:=c_short (wInts a) (wInts a).length (Nat.le_refl _) (by omega) (wInts_w32 a) y h0 (by omega) 1001 2001 (by decide) true a hval
  have hq:(valI (digs (a/y) (wInts a).length) (wInts a).length).toNat=a/y:=by
   rw[valI_digs,Nat.mod_eq_of_lt (Nat.lt_of_le_of_lt (Nat.div_le_self _ _) (lt_of_len a))];exact Int.toNat_natCast _
  have ko:=c_of (digs (a/y) (wInts a).length) (wInts a).length (by rw[digs_len];exact Nat.le_refl _) (by rw[digs_len];omega) (digs_w32 _ _) 2001 true
  rw[hq]at ko
  have hr:a % y<y:=Nat.mod_lt _ (by omega)
  have i1:Hid (IntKind.u64.wrap ((a % y:Nat):Int)=((a % y:Nat):Int)):=show IntKind.u64.wrap ((a % y:Nat):Int)=((a % y:Nat):Int)from wu64 (by omega)
  have i2:Hid ((wArr y).getD (0+Int.toNat 0) 0=(y:Int)):=show(wArr y).getD (0+Int.toNat 0) 0=(y:Int)from hy
  refine callV (Z:=[]) tabOK mixedOK Tryz.func88 rfl (by kernel_rfl) rfl rfl (by kernel_rfl) rfl ?_
  intro W0 w0 ρ0 hE
  conv=>whnf
  (repeat(first|(refine step_w2 rfl rfl ?_;conv=>whnf)|(refine g_c (by assumption) ?_;conv=>whnf)|(rw[t1.out];conv=>whnf)))
  rw[big_eq,decide_eq_false hbig]
  (repeat((first|refine step_w1 rfl rfl ?_|refine step_w2 rfl rfl ?_|refine step_i (by kernel_rfl) ?_|refine step_oL (by first|omega|decide|(simp only[tl0,dlen,List.length_replicate,List.length_set,List.length_map,List.length_zipWith,List.length_take,List.length_append,List.length_cons,List.length_nil];omega)) ?_|refine step_oA (by first|omega|decide|(simp only[tl0,dlen,List.length_replicate,List.length_set,List.length_map,List.length_zipWith,List.length_take,List.length_append,List.length_cons,List.length_nil];omega)) ?_|refine g_cn (by assumption) rfl ?_|refine g_c1 (by assumption) rfl ?_|refine g_c1n (by assumption) rfl rfl ?_|rw[i2.out]|rw[i1.out]);conv=>whnf))
  refine recast_tup3 (fun _ _ h=>h) rfl (hasC_nat ?_ rfl (by omega)) rfl (fun _ _ h=>h) rfl
  rfl
 ·have hn2:2≤(wInts b).length:=by omega
  have htop':(wArr b).getD ((wInts b).length - 1) 0≠0:=htop.resolve_left hb0
  have hbg:4294967296^((wInts b).length - 1)≤b:=by
   have:=valI_ge (wArr_w32 b) htop'
   rw[show(wInts b).length - 1+1=(wInts b).length from by omega,hvb,←natPowW]at this
   omega
  have hqb:a/b<4294967296^((wInts a).length+1 - (wInts b).length):=by
   refine Nat.div_lt_of_lt_mul (Nat.lt_of_lt_of_le (lt_of_len a) ?_)
   have e:4294967296^(wInts a).length=4294967296^((wInts b).length - 1)*4294967296^((wInts a).length+1 - (wInts b).length):=by rw[←Nat.pow_add];congr 1;omega
   rw[e]
   exact Nat.mul_le_mul_right _ hbg
  have hrb:a % b<4294967296^((wInts a).length+1):=Nat.lt_of_le_of_lt (Nat.mod_le _ _) (Nat.lt_of_lt_of_le (lt_of_len a) (Nat.pow_le_pow_right (by decide) (by omega)))
  have kl:=CallOK.anyWr (c_long (wInts a) (wArr b) (wInts a).length (wInts b).length a b (Nat.le_refl _) hbl (by omega) hbl2 (wInts_w32 a) (wArr_w32 b) hval hvb hn2 htop' hlen 1001 1002 2001 2002 (by decide) (by decide) (by decide)) (fk:=[(1001,⟨22,true,.ints .u32 (wInts a)⟩),(1002,⟨22,true,.ints .u32 (wArr b)⟩)])
  have ko1:=c_of (digs (a/b) ((wInts a).length+1 - (wInts b).length)) ((wInts a).length+1 - (wInts b).length) (by rw[digs_len];exact Nat.le_refl _) (by rw[digs_len];omega) (digs_w32 _ _) 2001 true
  have ko2:=c_of (digs (a % b) ((wInts a).length+1)) ((wInts a).length+1) (by rw[digs_len];exact Nat.le_refl _) (by rw[digs_len];omega) (digs_w32 _ _) 2002 true
  rw[valI_digs,Nat.mod_eq_of_lt hqb,Int.toNat_natCast]at ko1
  rw[valI_digs,Nat.mod_eq_of_lt hrb,Int.toNat_natCast]at ko2
  have t2:Hid ((((wInts b).length:Int)==1)=false):=show(((wInts b).length:Int)==1)=false from by simp;omega
  have t3:Hid (decide (((wInts b).length:Int)=1)=false):=show decide (((wInts b).length:Int)=1)=false from by simp;omega
  refine callV (Z:=[]) tabOK mixedOK Tryz.func88 rfl (by kernel_rfl) rfl rfl (by kernel_rfl) rfl ?_
  intro W0 w0 ρ0 hE
  conv=>whnf
  (repeat(first|(refine step_w2 rfl rfl ?_;conv=>whnf)|(refine g_c (by assumption) ?_;conv=>whnf)|(rw[t1.out];conv=>whnf)))
  rw[big_eq,decide_eq_false hbig]
  (repeat((first|refine step_w2 rfl rfl ?_|refine g_cn (by assumption) rfl ?_|refine g_c1 (by assumption) rfl ?_|refine⟨[_,_],_,[_,_],[],(by assumption),two_fk rfl rfl,two_new rfl rfl,nil_upd, ?_⟩|rw[t2.out]);conv=>whnf))
  exact Recast.refl _
theorem c_Gcd (a b:Nat) (ha:(wInts a).length<274877906944) (hb:(wInts b).length<274877906944):
  CallOK Tryz.prog 93 [.nat a,.nat b] [] (.nat (Nat.gcd a b)) [] []:=by
 refine callV (Z:=[]) tabOK mixedOK Tryz.func93 rfl (by kernel_rfl) rfl rfl (by kernel_rfl) rfl ?_
 intro W0 w0 ρ0 hE
 conv=>whnf
 refine SW_loopN hE (fun k=>k) [2,3,4] [2,3,4] (fun m fr hp=>∃x,(wInts x).length<274877906944∧(wInts m).length<274877906944∧Nat.gcd x m=Nat.gcd a b∧fr=[(2,.ptr 2 0 0 0),(3,.ptr 3 0 0 0),(4,.ptr 4 0 0 0)]∧hp=[(2,⟨51,true,.one [.nat x]⟩),(3,⟨51,true,.one [.nat m]⟩),(4,⟨51,true,.one [.nat 0]⟩)]) b ?_ ?_ ?_
 ·kernel_rfl
 ·exact⟨a,ha,hb,rfl,rfl,rfl⟩
 rintro m _ _ ⟨x,hx,hm,hg,rfl,rfl⟩
 have kz:=c_nZero m
 by_cases h0:m=0
 ·rw[decide_eq_true h0]at kz
  subst h0
  rw[←hg,Nat.gcd_zero_right]
  conv=>whnf
  (repeat(first|(refine step_w2 rfl rfl ?_;conv=>whnf)|(refine g_c (by assumption) ?_;conv=>whnf)));exact Recast.refl _
 ·rw[decide_eq_false h0]at kz
  have kd:=c_Div x m hx hm h0
  have hlt:=Nat.mod_lt x (Nat.pos_of_ne_zero h0)
  conv=>whnf
  (repeat(first|(refine step_w1 rfl rfl ?_;conv=>whnf)|(refine step_i (by kernel_rfl) ?_;conv=>whnf)|(refine g_c (by assumption) ?_;conv=>whnf)))
  refine⟨x % m,fun k=>k,[2,3,4],[2,3,4],hlt,by kernel_rfl,m,hm, ?_, ?_,rfl,rfl⟩
  ·exact Nat.lt_of_le_of_lt (len_le_of (Nat.lt_trans hlt (lt_of_len m))) hm
  ·rw[←hg,Nat.gcd_comm m,←Nat.gcd_rec,Nat.gcd_comm]
end Go.Proofs.YtjofnbpcanhfhaaGreatDoor
namespace Go.Proofs.YtjofnbpcanhfhaaGreatDoor
open Go.Sx
set_option linter.unusedSimpArgs false
set_option linter.unusedVariables false
theorem len_sz {n:Nat} (h:sz n≤1073741824):(wInts n).length<274877906944:=by
 have:=wlen_sz (n:=n) (M:=33554432) (by omega)
 omega
theorem natBig:NatOK 1073741824 where
 big:=by decide
 cmp a b ha hb:=c_Cmp a b (by have:=len_sz ha;omega) (by have:=len_sz hb;omega)
 add a b h:=n_Add a b (by have:=len_sz (n:=a) (Nat.le_trans (sz_mono (by omega)) h);omega) (by have:=len_sz (n:=b) (Nat.le_trans (sz_mono (by omega)) h);omega)
 sub a b ha h:=n_Sub a b (by have:=len_sz ha;omega) h
 subF a b hb h:=c_SubF a b (by have:=len_sz hb;have:=len_le_of (Nat.lt_trans h (lt_of_len b));omega) (by have:=len_sz hb;omega) h
 mul a b h:=n_Mul a b (len_sz (by omega)) (len_sz (by omega))
 div a b ha hb h0:=c_Div a b (len_sz ha) (len_sz hb) h0
 divZ a:=c_DivZ a
 gcd a b ha hb:=c_Gcd a b (len_sz ha) (len_sz hb)
end Go.Proofs.YtjofnbpcanhfhaaGreatDoor
namespace Go.Proofs.YtjofnbpcanhfhaaGreatDoor
open Go.Sx
set_option linter.unusedSimpArgs false
set_option linter.unusedVariables false
set_option maxRecDepth 100000
set_option maxHeartbeats 4000000
def fs (q:Rat):Nat:=fsz q+1
end Go.Proofs.YtjofnbpcanhfhaaGreatDoor
namespace Go.Proofs.YtjofnbpcanhfhaaGreatDoor
open Go.Sx
set_option linter.unusedSimpArgs false
set_option linter.unusedVariables false
set_option maxRecDepth 100000
set_option maxHeartbeats 4000000
theorem SWx_frzI {E:Env} (t k:Nat) {c:Code} {K:Post'} {fr:List (Nat×SV)} {hp:List (Nat×Blk)} {ty:TypeId} {n:Nat} {kd:IntKind} {xs:List Int} (hW:∀b,¬E.W0 b) (ht:lk fr t=some (.slc k 1 0 n)) (hk:find hp k=some ⟨ty,true,.ints kd xs⟩)
  (hn:n=xs.length) (hs:SWx E c K ((t,ivec kd xs)::fr) (setB hp k ⟨ty,true,.dead⟩)):SWx E c K fr hp:=by
 refine SWx_freeze t k (xs:=xs.map (iel kd)) hW ht hk rfl rfl (keylessL_map (fun _=>rfl) xs) (by simp;omega) ?_
 rw[cutL_all (by simp;omega)]
 exact hs
theorem snoc_end {L:List Int} {i:Nat} {d:Int} (h:L.length=i):List.take i L++List.take 1 (List.drop 0 [d])=L++[d]:=by
 rw[List.take_of_length_le (by omega)];rfl
abbrev zblk (l:List Int):Blk:=⟨3,true,.ints .i64 l⟩
theorem r_trim (l:List Int) (hl:l.length<1099511627776) (h:W4 l):CallOK Tryz.prog 100 [ivec .i64 l] [] (nN (valT l l.length).toNat) [] []:=by
 refine callV (Z:=[]) tabOK mixedOK Tryz.func100 rfl (by kernel_rfl) rfl rfl (by kernel_rfl) rfl ?_
 intro W0 w0 ρ0 hE
 conv=>whnf
 skip
 refine SW_loopN hE (fun k=>k) [0] [] (fun m fr hp=>∃x:List Int,m=x.length∧x.length≤l.length∧W4 x∧valT x x.length=valT l l.length∧fr=[(0,ivec .i64 x)]∧hp=[]) l.length ?_ ?_ ?_
 ·kernel_rfl
 ·exact⟨l,rfl,Nat.le_refl _,h,rfl,rfl,rfl⟩
 rintro m _ _ ⟨x,rfl,hx,hw,hv,rfl,rfl⟩
 conv=>whnf
 by_cases h0:0<x.length
 ·have t1:decide ((x.length:Int)>0)=true:=decide_eq_true (by omega)
  have e1:IntKind.i64.wrap ((x.length:Int) - 1)=((x.length - 1:Nat):Int):=by rw[wrap_i64 (by omega) (by omega)];omega
  by_cases hz:x.getD (x.length - 1) 0=0
  ·have t2:(x.getD (x.length - 1) 0==0)=true:=beq_iff_eq.2 hz
   (repeat((first|refine step_w1 rfl rfl ?_|refine g_o (op_pickT rfl (ev_ok rfl) (ev_ok rfl)) ?_|refine g_o (op_lenM rfl rfl rfl (ev_ok rfl) (tgt rfl) rfl) ?_|refine g_o (op_loadA rfl (ev_ok rfl) (tgt rfl) rfl (Nat.succ_ne_zero _) rfl) ?_|refine g_o (op_indexM (α:=Int) (d:=0) rfl (ev_ok rfl) (ev_ok rfl) (tgt rfl) rfl (tgt rfl) rfl (by omega)) ?_|refine g_o (op_sliceM rfl (ev_ok rfl) (bound_spec rfl) (bound_spec rfl) (.inl rfl) (tgt rfl) rfl (tgt rfl) rfl (by omega)) ?_|rw[t1]|rw[e1]|rw[t2]|rw[Int.toNat_natCast]);conv=>whnf))
   have hl':(x.take (x.length - 1)).length=x.length - 1:=by simp
   exact⟨x.length - 1,fun k=>k,[0],[],by omega,by kernel_rfl,x.take (x.length - 1),hl'.symm,by omega,W4_take hw _,(valT_last h0 hz).trans hv,rfl,rfl⟩
  ·have t2:(x.getD (x.length - 1) 0==0)=false:=beq_false_of_ne hz
   have e:nN (valT l l.length).toNat=ivec .i64 x:=by rw[nN,←hv,td_is hw (.inr hz)]
   rw[e]
   (repeat((first|refine step_w1 rfl rfl ?_|refine step_w2 rfl rfl ?_|refine g_o (op_pickT rfl (ev_ok rfl) (ev_ok rfl)) ?_|refine g_o (op_lenM rfl rfl rfl (ev_ok rfl) (tgt rfl) rfl) ?_|refine g_o (op_loadA rfl (ev_ok rfl) (tgt rfl) rfl (Nat.succ_ne_zero _) rfl) ?_|refine g_o (op_indexM (α:=Int) (d:=0) rfl (ev_ok rfl) (ev_ok rfl) (tgt rfl) rfl (tgt rfl) rfl (by omega)) ?_|rw[t1]|rw[e1]|rw[t2]|rw[Int.toNat_natCast]);conv=>whnf));(first|exact Recast.refl _|exact Frz.recast (Recast.refl _) rfl|(refine Frz.one rfl rfl ?_;skip)|(refine Frz.tup ?_;skip))
 ·have t1:decide ((x.length:Int)>0)=false:=decide_eq_false (by omega)
  have e:nN (valT l l.length).toNat=ivec .i64 x:=by rw[nN,←hv,td_is hw (.inl (by omega))]
  rw[e]
  (repeat((first|refine step_w2 rfl rfl ?_|refine g_o (op_pickF rfl (ev_ok rfl) (ev_ok rfl)) ?_|refine g_o (op_lenM rfl rfl rfl (ev_ok rfl) (tgt rfl) rfl) ?_|rw[t1]);conv=>whnf));(first|exact Recast.refl _|exact Frz.recast (Recast.refl _) rfl|(refine Frz.one rfl rfl ?_;skip)|(refine Frz.tup ?_;skip))
theorem r_Of (n:Nat) (hn:n<18446744073709551616):CallOK Tryz.prog 76 [.val (.int .u64 (n:Nat))] [] (nN n) [] []:=by
 refine callF (Z:=[]) tabOK mixedOK Tryz.func76 rfl (by kernel_rfl) (by first|rfl|(simp[keylessL,keyless,keylessL_map, *];done)) (by first|rfl|(simp[keylessL,keyless,keylessL_map, *];done)) (by kernel_rfl) rfl ?_
 intro w0 ρ0 hE
 conv=>whnf
 skip
 refine SWx_adopt (t:=3) (k:=2001) (s:=1) (blk:=zblk []) rfl rfl rfl ?_
 refine SW_loopS hE (fun k=>k) [0,3] [2001] (fun m fr hp=>∃(v:Nat) (L:List Int),m=v∧v≤n∧td n=L++td v∧L.length≤n∧L.length+v≤n∧fr=[(0,.val (.int .u64 (v:Nat))),(3,.slc 2001 1 0 L.length)]∧hp=[(2001,zblk L)]) n ?_ ?_ ?_
 ·kernel_rfl
 ·exact⟨n,[],rfl,Nat.le_refl _,rfl,Nat.zero_le _,by simp,rfl,rfl⟩
 rintro m _ _ ⟨v,L,rfl,hv,hL,hl,hl2,rfl,rfl⟩
 by_cases h0:0<m
 ·have hlen:L.length<1099511627776:=by
   have:=congrArg List.length hL
   rw[List.length_append]at this
   have h5:(td n).length≤5:=tlen_le (by omega)
   omega
  have t1:decide ((m:Int)>0)=true:=decide_eq_true (by omega)
  have e0:(m:Int).tmod 10000=((m % 10000:Nat):Int):=by rw[Int.tmod_eq_emod_of_nonneg (by omega)];omega
  have e1:IntKind.i64.wrap ((m:Int).tmod 10000)=((m % 10000:Nat):Int):=by rw[e0,wrap_i64 (by omega) (by omega)]
  have e2:(m:Int).tdiv 10000=((m/10000:Nat):Int):=by rw[Int.tdiv_eq_ediv_of_nonneg (by omega)];omega
  have e3:IntKind.u64.wrap ((m:Int).tdiv 10000)=((m/10000:Nat):Int):=by rw[e2,wrap_u64 (by omega) (by omega)]
  refine SWx.of hE ?_
  conv=>whnf
  (repeat((first|refine step_w1 rfl rfl ?_|refine And.intro (by first|decide|omega|(simp only[tl0,dlen,List.length_replicate,List.length_set,List.length_map,List.length_zipWith,List.length_take,List.length_append,List.length_cons,List.length_nil];omega)) ?_|rw[t1]|rw[e1]|rw[e3]);conv=>whnf))
  refine⟨m/10000,renBy [(11,2001)],[0,3],[11],Nat.div_lt_self h0 (by decide),by kernel_rfl,m/10000,L++[((m % 10000:Nat):Int)],rfl,by omega, ?_, ?_, ?_, ?_, ?_⟩
  ·rw[hL,td_succ (by omega),List.append_assoc];rfl
  ·rw[List.length_append];simp;omega
  ·rw[List.length_append];simp;omega
  ·rw[List.length_append];rfl
  ·rw[←snoc_end rfl];rfl
 ·have t1:decide ((m:Int)>0)=false:=decide_eq_false (by omega)
  have hm:m=0:=by omega
  subst hm
  rw[td_zero,List.append_nil]at hL
  refine SWx_frzI 3 2001 (fun _ h=>h) rfl rfl rfl ?_
  refine SWx.of hE ?_
  conv=>whnf
  have e:nN n=ivec .i64 L:=by rw[nN,hL]
  rw[e]
  (repeat(first|(refine step_w2 rfl rfl ?_;conv=>whnf)));(first|exact Recast.refl _|exact Frz.recast (Recast.refl _) rfl|(refine Frz.one rfl rfl ?_;skip)|(refine Frz.tup ?_;skip))
theorem r_at (n i:Nat) (hn:(td n).length<1099511627776):CallOK Tryz.prog 99 [nN n,.val (.int .i64 (i:Nat))] [] (.val (.int .i64 ((td n).getD i 0))) [] []:=by
 refine callV (Z:=[]) tabOK mixedOK Tryz.func99 rfl (by kernel_rfl) rfl rfl (by kernel_rfl) rfl ?_
 intro W0 w0 ρ0 hE
 conv=>whnf
 by_cases h:i<(td n).length
 ·have t1:decide ((i:Int)<((td n).length:Int))=true:=decide_eq_true (by omega)
  (repeat((first|refine step_w1 rfl rfl ?_|refine g_o (op_lenM rfl rfl rfl (ev_ok rfl) (tgt rfl) rfl) ?_|refine g_o (op_loadA rfl (ev_ok rfl) (tgt rfl) rfl (Nat.succ_ne_zero _) rfl) ?_|refine g_o (op_indexN (α:=Int) (d:=0) rfl (ev_ok rfl) (ev_ok rfl) (tgt rfl) rfl (tgt rfl) rfl (by omega)) ?_|rw[t1]);conv=>whnf));(first|exact Recast.refl _|exact Frz.recast (Recast.refl _) rfl|(refine Frz.one rfl rfl ?_;skip)|(refine Frz.tup ?_;skip))
 ·have t1:decide ((i:Int)<((td n).length:Int))=false:=decide_eq_false (by omega)
  rw[getD_ge (by omega)]
  (repeat(first|(refine step_w2 rfl rfl ?_;conv=>whnf)|(refine g_o (op_lenM rfl rfl rfl (ev_ok rfl) (tgt rfl) rfl) ?_;conv=>whnf)|(rw[t1];conv=>whnf)));(first|exact Recast.refl _|exact Frz.recast (Recast.refl _) rfl|(refine Frz.one rfl rfl ?_;skip)|(refine Frz.tup ?_;skip))
end Go.Proofs.YtjofnbpcanhfhaaGreatDoor
namespace Go.Proofs.YtjofnbpcanhfhaaGreatDoor
open Go.Sx
set_option linter.unusedSimpArgs false
set_option linter.unusedVariables false
set_option maxRecDepth 100000
set_option maxHeartbeats 4000000
theorem valT_diff {xs ys:List Int} {j:Nat}:∀{n:Nat},j≤n→(∀i,j≤i→i<n→xs.getD i 0=ys.getD i 0)→valT xs n - valT ys n=valT xs j - valT ys j
 |0,h,_=>by obtain rfl:j=0:=by omega
            rfl
 |n+1,h,he=>by
  by_cases hj:j=n+1
  ·rw[hj]
  ·have:=valT_diff (n:=n) (by omega) (fun i h1 h2=>he i h1 (by omega))
   rw[valT,valT,he n (by omega) (by omega)];omega
theorem valT_lt_of {xs ys:List Int} (hx:W4 xs) (hy:W4 ys) {j:Nat} (h:xs.getD j 0<ys.getD j 0):valT xs (j+1)<valT ys (j+1):=by
 have h1:=valT_lt hx j
 have h2:=valT_nonneg hy j
 have h3:(xs.getD j 0+1)*10000^j≤ys.getD j 0*10000^j:=Int.mul_le_mul_of_nonneg_right (by omega) (Int.le_of_lt (powT_pos j))
 rw[Int.add_mul,Int.one_mul]at h3
 rw[valT,valT];omega
theorem r_Cmp (a b:Nat) (ha:(td a).length<1099511627776) (hb:(td b).length<1099511627776):CallOK Tryz.prog 87 [nN a,nN b] [] (.val (.int .i64 ((a:Int) - b).sign)) [] []:=by
 refine callV (Z:=[]) tabOK mixedOK Tryz.func87 rfl (by kernel_rfl) rfl rfl (by kernel_rfl) rfl ?_
 intro W0 w0 ρ0 hE
 conv=>whnf
 by_cases h1:(td a).length<(td b).length
 ·have t1:decide (((td a).length:Int)<((td b).length:Int))=true:=decide_eq_true (by omega)
  have:=td_len_lt h1
  rw[Int.sign_eq_neg_one_of_neg (show(a:Int) - b<0 by omega)]
  (repeat(first|(refine step_w1 rfl rfl ?_;conv=>whnf)|(refine g_o (op_lenM rfl rfl rfl (ev_ok rfl) (tgt rfl) rfl) ?_;conv=>whnf)|(rw[t1];conv=>whnf)));(first|exact Recast.refl _|exact Frz.recast (Recast.refl _) rfl|(refine Frz.one rfl rfl ?_;skip)|(refine Frz.tup ?_;skip))
 have t1:decide (((td a).length:Int)<((td b).length:Int))=false:=decide_eq_false (by omega)
 by_cases h2:(td b).length<(td a).length
 ·have t2:decide (((td a).length:Int)>((td b).length:Int))=true:=decide_eq_true (by omega)
  have:=td_len_lt h2
  rw[Int.sign_eq_one_of_pos (show 0<(a:Int) - b by omega)]
  (repeat((first|refine step_w1 rfl rfl ?_|refine step_w2 rfl rfl ?_|refine g_o (op_lenM rfl rfl rfl (ev_ok rfl) (tgt rfl) rfl) ?_|rw[t1]|rw[t2]);conv=>whnf));(first|exact Recast.refl _|exact Frz.recast (Recast.refl _) rfl|(refine Frz.one rfl rfl ?_;skip)|(refine Frz.tup ?_;skip))
 have t2:decide (((td a).length:Int)>((td b).length:Int))=false:=decide_eq_false (by omega)
 have e0:IntKind.i64.wrap (((td a).length:Int) - 1)=((td a).length:Int) - 1:=wrap_i64 (by omega) (by omega)
 have va:=td_valN a (td a).length (Nat.le_refl _)
 have vb:=td_valN b (td a).length (by omega)
 have wa:=td_w32 a
 have wb:=td_w32 b
 (repeat((first|refine step_w2 rfl rfl ?_|refine g_o (op_lenM rfl rfl rfl (ev_ok rfl) (tgt rfl) rfl) ?_|rw[t1]|rw[t2]|rw[e0]);conv=>whnf))
 refine SW_loopN hE (fun k=>k) [0,1,5] [] (fun m fr hp=>m≤(td a).length∧(∀i,m≤i→i<(td a).length→(td a).getD i 0=(td b).getD i 0)∧fr=[(0,nN a),(1,nN b),(5,.val (.int .i64 ((m:Int) - 1)))]∧hp=[]) (td a).length ?_ ?_ ?_
 ·kernel_rfl
 ·exact⟨Nat.le_refl _,(fun i h1 h2=>by omega),rfl,rfl⟩
 rintro j _ _ ⟨hj,heq,rfl,rfl⟩
 have hd:=valT_diff hj heq
 rw[va,vb]at hd
 conv=>whnf
 by_cases h0:j=0
 ·subst h0
  have t3:decide (((0:Nat):Int) - 1≥0)=false:=rfl
  have e:((a:Int) - b).sign=0:=by rw[hd];rfl
  rw[e]
  (repeat(first|(refine step_w2 rfl rfl ?_;conv=>whnf)));(first|exact Recast.refl _|exact Frz.recast (Recast.refl _) rfl|(refine Frz.one rfl rfl ?_;skip)|(refine Frz.tup ?_;skip))
 ·obtain⟨i,rfl⟩:∃i,j=i+1:=⟨j - 1,by omega⟩
  have ei:(((i+1:Nat):Int) - 1)=(i:Int):=by omega
  rw[ei]
  have hib:i<(td b).length:=by omega
  have t3:decide ((i:Int)≥0)=true:=decide_eq_true (by omega)
  have e2:IntKind.i64.wrap ((i:Int) - 1)=(i:Int) - 1:=wrap_i64 (by omega) (by omega)
  by_cases hlt:(td a).getD i 0<(td b).getD i 0
  ·have t4:decide ((td a).getD i 0<(td b).getD i 0)=true:=decide_eq_true hlt
   have:=valT_lt_of wa wb hlt
   rw[Int.sign_eq_neg_one_of_neg (show(a:Int) - b<0 by omega)]
   (repeat((first|refine step_w1 rfl rfl ?_|refine step_i (by kernel_rfl) ?_|refine g_o (op_loadA rfl (ev_ok rfl) (tgt rfl) rfl (Nat.succ_ne_zero _) rfl) ?_|refine g_o (op_indexN (α:=Int) (d:=0) rfl (ev_ok rfl) (ev_ok rfl) (tgt rfl) rfl (tgt rfl) rfl (by omega)) ?_|rw[t3]|rw[t4]);conv=>whnf));(first|exact Recast.refl _|exact Frz.recast (Recast.refl _) rfl|(refine Frz.one rfl rfl ?_;skip)|(refine Frz.tup ?_;skip))
  ·have t4:decide ((td a).getD i 0<(td b).getD i 0)=false:=decide_eq_false hlt
   by_cases hgt:(td b).getD i 0<(td a).getD i 0
   ·have t5:decide ((td a).getD i 0>(td b).getD i 0)=true:=decide_eq_true hgt
    have:=valT_lt_of wb wa hgt
    rw[Int.sign_eq_one_of_pos (show 0<(a:Int) - b by omega)]
    (repeat((first|refine step_w1 rfl rfl ?_|refine step_w2 rfl rfl ?_|refine step_i (by kernel_rfl) ?_|refine g_o (op_loadA rfl (ev_ok rfl) (tgt rfl) rfl (Nat.succ_ne_zero _) rfl) ?_|refine g_o (op_indexN (α:=Int) (d:=0) rfl (ev_ok rfl) (ev_ok rfl) (tgt rfl) rfl (tgt rfl) rfl (by omega)) ?_|rw[t3]|rw[t4]|rw[t5]);conv=>whnf));(first|exact Recast.refl _|exact Frz.recast (Recast.refl _) rfl|(refine Frz.one rfl rfl ?_;skip)|(refine Frz.tup ?_;skip))
   ·have t5:decide ((td a).getD i 0>(td b).getD i 0)=false:=decide_eq_false hgt
    (repeat((first|refine step_w1 rfl rfl ?_|refine step_w2 rfl rfl ?_|refine step_i (by kernel_rfl) ?_|refine g_o (op_loadA rfl (ev_ok rfl) (tgt rfl) rfl (Nat.succ_ne_zero _) rfl) ?_|refine g_o (op_indexN (α:=Int) (d:=0) rfl (ev_ok rfl) (ev_ok rfl) (tgt rfl) rfl (tgt rfl) rfl (by omega)) ?_|rw[t3]|rw[t4]|rw[t5]|rw[e2]);conv=>whnf))
    exact⟨i,fun k=>k,[0,1,5],[],by omega,by kernel_rfl,by omega,(fun q h1 h2=>by
     by_cases hq:q=i
     ·rw[hq];omega
     ·exact heq q (by omega) h2),rfl,rfl⟩
theorem add_carry {P vL va vb c x y D C:Int} (h:vL+c*P=va+vb) (hD:x+y+c=D+10000*C):vL+D*P+C*(P*10000)=va+x*P+(vb+y*P):=by
 have h2:(x+y+c)*P=(D+10000*C)*P:=by rw[hD]
 grind
theorem r_Add (a b:Nat) (ha:(td a).length<1073741824) (hb:(td b).length<1073741824):CallOK Tryz.prog 82 [nN a,nN b] [] (nN (a+b)) [] []:=by
 have wa:=td_w32 a
 have wb:=td_w32 b
 refine callF (Z:=[]) tabOK mixedOK Tryz.func82 rfl (by kernel_rfl) (by first|rfl|(simp[keylessL,keyless,keylessL_map, *];done)) (by first|rfl|(simp[keylessL,keyless,keylessL_map, *];done)) (by kernel_rfl) rfl ?_
 intro w0 ρ0 hE
 conv=>whnf
 skip
 generalize hM:max (td a).length (td b).length=M
 refine SWx_adopt (t:=5) (k:=2001) (s:=1) (blk:=zblk []) rfl rfl rfl ?_
 refine SW_loopS hE (fun k=>k) [0,1,5,6,7] [2001] (fun m fr hp=>∃(i:Nat) (L:List Int) (c:Int),m=M+2 - i∧i≤M+1∧L.length=i∧W4 L∧0≤c∧c≤1∧(M<i→c=0)∧valT L i+c*10000^i=valT (td a) i+valT (td b) i∧
  fr=[(0,nN a),(1,nN b),(5,.slc 2001 1 0 i),(6,.val (.int .i64 c)),(7,.val (.int .i64 (i:Nat)))]∧hp=[(2001,zblk L)]) (M+2) ?_ ?_ ?_
 ·kernel_rfl
 ·exact⟨0,[],0,rfl,by omega,rfl,(fun i=>by simp),by omega,by omega,(fun _=>rfl),rfl,rfl,rfl⟩
 rintro m _ _ ⟨i,L,c,rfl,hi,hl,hw,hc0,hc1,hcM,hv,rfl,rfl⟩
 by_cases hgo:i<(td a).length∨i<(td b).length∨0<c
 ·have hiM:i≤M:=by
   rcases hgo with h|h|h
   ·omega
   ·omega
   ·rcases Nat.lt_or_ge M i with g|g
    ·have:=hcM g;omega
    ·exact g
  have k1:=r_at a i (by omega)
  have k2:=r_at b i (by omega)
  have hx:=wa i
  have hy:=wb i
  have hxz:(td a).length≤i→(td a).getD i 0=0:=fun h=>getD_ge h
  have hyz:(td b).length≤i→(td b).getD i 0=0:=fun h=>getD_ge h
  generalize hxe:(td a).getD i 0=x at*
  generalize hye:(td b).getD i 0=y at*
  have e1:IntKind.i64.wrap (x+y)=x+y:=wrap_i64 (by omega) (by omega)
  have e2:IntKind.i64.wrap (x+y+c)=x+y+c:=wrap_i64 (by omega) (by omega)
  have e3:(x+y+c).tmod 10000=(x+y+c) % 10000:=Int.tmod_eq_emod_of_nonneg (by omega)
  have e4:IntKind.i64.wrap ((x+y+c).tdiv 10000)=(x+y+c)/10000:=by rw[Int.tdiv_eq_ediv_of_nonneg (by omega)];exact wrap_i64 (by omega) (by omega)
  have e5:(x+y+c).tdiv 10000=(x+y+c)/10000:=Int.tdiv_eq_ediv_of_nonneg (by omega)
  have e6:=winc (i:=i) (by omega)
  have hc2:M<i+1→(x+y+c)/10000=0:=fun h=>by
   have:=hxz (by omega);have:=hyz (by omega);omega
  have hiA:i<1099511627776:=by omega
  clear hxz hyz
  have hstep:valT (L++[(x+y+c) % 10000]) (i+1)+(x+y+c)/10000*10000^(i+1)=valT (td a) (i+1)+valT (td b) (i+1):=by
   have h1:=valT_snoc L ((x+y+c) % 10000)
   rw[hl]at h1
   rw[h1,valT,valT,Int.pow_succ,hxe,hye]
   exact add_carry hv (by omega)
  have hw2:W4 (L++[(x+y+c) % 10000]):=W4_snoc hw (by omega) (by omega)
  have hl2:(L++[(x+y+c) % 10000]).length=i+1:=by rw[List.length_append,hl];rfl
  have hhp:=snoc_end (d:=(x+y+c) % 10000) hl
  refine SWx.of hE ?_
  conv=>whnf
  by_cases g1:i<(td a).length
  ·have t1:decide ((i:Int)<((td a).length:Int))=true:=decide_eq_true (by omega)
   (repeat((first|refine step_w1 rfl rfl ?_|refine step_w2 rfl rfl ?_|refine step_oA (by first|omega|decide|(simp only[tl0,dlen,List.length_replicate,List.length_set,List.length_map,List.length_zipWith,List.length_take,List.length_append,List.length_cons,List.length_nil];omega)) ?_|refine step_oN (by first|omega|decide|(simp only[tl0,dlen,List.length_replicate,List.length_set,List.length_map,List.length_zipWith,List.length_take,List.length_append,List.length_cons,List.length_nil];omega)) ?_|refine g_c (by assumption) ?_|refine g_o (op_pickT rfl (ev_ok rfl) (ev_ok rfl)) ?_|refine g_o (op_lenM rfl rfl rfl (ev_ok rfl) (tgt rfl) rfl) ?_|rw[t1]|rw[e1]|rw[e2]|rw[e3]|rw[e4]|rw[e6]);conv=>whnf))
   exact⟨M+2 - (i+1),renBy [(38,2001)],[0,1,5,6,7],[38],by omega,by kernel_rfl,i+1,_,_,rfl,by omega,hl2,hw2,by omega,by omega,hc2,hstep,rfl,by rw[←hhp];rfl⟩
  ·have t1:decide ((i:Int)<((td a).length:Int))=false:=decide_eq_false (by omega)
   by_cases g2:i<(td b).length
   ·have t2:decide ((i:Int)<((td b).length:Int))=true:=decide_eq_true (by omega)
    (repeat((first|refine step_w1 rfl rfl ?_|refine step_w2 rfl rfl ?_|refine step_oA (by first|omega|decide|(simp only[tl0,dlen,List.length_replicate,List.length_set,List.length_map,List.length_zipWith,List.length_take,List.length_append,List.length_cons,List.length_nil];omega)) ?_|refine step_oN (by first|omega|decide|(simp only[tl0,dlen,List.length_replicate,List.length_set,List.length_map,List.length_zipWith,List.length_take,List.length_append,List.length_cons,List.length_nil];omega)) ?_|refine g_c (by assumption) ?_|refine g_o (op_pickT rfl (ev_ok rfl) (ev_ok rfl)) ?_|refine g_o (op_pickF rfl (ev_ok rfl) (ev_ok rfl)) ?_|refine g_o (op_lenM rfl rfl rfl (ev_ok rfl) (tgt rfl) rfl) ?_|rw[t1]|rw[t2]|rw[e1]|rw[e2]|rw[e3]|rw[e4]|rw[e6]);conv=>whnf))
    exact⟨M+2 - (i+1),renBy [(38,2001)],[0,1,5,6,7],[38],by omega,by kernel_rfl,i+1,_,_,rfl,by omega,hl2,hw2,by omega,by omega,hc2,hstep,rfl,by rw[←hhp];rfl⟩
   ·have t2:decide ((i:Int)<((td b).length:Int))=false:=decide_eq_false (by omega)
    have t3:decide (c>0)=true:=decide_eq_true (by omega)
    (repeat((first|refine step_w1 rfl rfl ?_|refine step_oA (by first|omega|decide|(simp only[tl0,dlen,List.length_replicate,List.length_set,List.length_map,List.length_zipWith,List.length_take,List.length_append,List.length_cons,List.length_nil];omega)) ?_|refine step_oN (by first|omega|decide|(simp only[tl0,dlen,List.length_replicate,List.length_set,List.length_map,List.length_zipWith,List.length_take,List.length_append,List.length_cons,List.length_nil];omega)) ?_|refine g_c (by assumption) ?_|refine g_o (op_pickF rfl (ev_ok rfl) (ev_ok rfl)) ?_|refine g_o (op_lenM rfl rfl rfl (ev_ok rfl) (tgt rfl) rfl) ?_|rw[t1]|rw[t2]|rw[t3]|rw[e1]|rw[e2]|rw[e3]|rw[e4]|rw[e6]);conv=>whnf))
    exact⟨M+2 - (i+1),renBy [(38,2001)],[0,1,5,6,7],[38],by omega,by kernel_rfl,i+1,_,_,rfl,by omega,hl2,hw2,by omega,by omega,hc2,hstep,rfl,by rw[←hhp];rfl⟩
 ·have t1:decide ((i:Int)<((td a).length:Int))=false:=decide_eq_false (by omega)
  have t2:decide ((i:Int)<((td b).length:Int))=false:=decide_eq_false (by omega)
  have t3:decide (c>0)=false:=decide_eq_false (by omega)
  have hc:c=0:=by omega
  subst hc
  rw[td_valN a i (by omega),td_valN b i (by omega)]at hv
  have k1:=r_trim L (by omega) hw
  rw[show(valT L L.length).toNat=a+b by rw[hl];omega]at k1
  refine SWx_frzI 5 2001 (fun _ h=>h) rfl rfl hl.symm ?_
  refine SWx.of hE ?_
  conv=>whnf
  (repeat((first|refine step_w1 rfl rfl ?_|refine step_w2 rfl rfl ?_|refine g_c (by assumption) ?_|refine g_o (op_pickF rfl (ev_ok rfl) (ev_ok rfl)) ?_|refine g_o (op_lenM rfl rfl rfl (ev_ok rfl) (tgt rfl) rfl) ?_|rw[t1]|rw[t2]);conv=>whnf));(first|exact Recast.refl _|exact Frz.recast (Recast.refl _) rfl|(refine Frz.one rfl rfl ?_;skip)|(refine Frz.tup ?_;skip))
theorem sub_lend {P vL va vb c x y D C:Int} (h:vL - c*P=va - vb) (hD:x - y - c=D - 10000*C):vL+D*P - C*(P*10000)=va+x*P - (vb+y*P):=by
 have h2:(x - y - c)*P=(D - 10000*C)*P:=by rw[hD]
 grind
theorem r_Sub (a b:Nat) (hab:b≤a) (ha:(td a).length<1073741824):CallOK Tryz.prog 86 [nN a,nN b] [] (nN (a - b)) [] []:=by
 have wa:=td_w32 a
 have wb:=td_w32 b
 have hlb:=td_len_mono hab
 refine callF (Z:=[]) tabOK mixedOK Tryz.func86 rfl (by kernel_rfl) (by first|rfl|(simp[keylessL,keyless,keylessL_map, *];done)) (by first|rfl|(simp[keylessL,keyless,keylessL_map, *];done)) (by kernel_rfl) rfl ?_
 intro w0 ρ0 hE
 conv=>whnf
 skip
 refine SWx_adopt (t:=5) (k:=2001) (s:=1) (blk:=zblk []) rfl rfl rfl ?_
 refine SW_loopS hE (fun k=>k) [0,1,5,6,7] [2001] (fun m fr hp=>∃(i:Nat) (L:List Int) (c:Int),m=(td a).length - i∧i≤(td a).length∧L.length=i∧W4 L∧0≤c∧c≤1∧valT L i - c*10000^i=valT (td a) i - valT (td b) i∧
  fr=[(0,nN a),(1,nN b),(5,.slc 2001 1 0 i),(6,.val (.int .i64 c)),(7,.val (.int .i64 (i:Nat)))]∧hp=[(2001,zblk L)]) (td a).length ?_ ?_ ?_
 ·kernel_rfl
 ·exact⟨0,[],0,rfl,by omega,rfl,(fun i=>by simp),by omega,by omega,rfl,rfl,rfl⟩
 rintro m _ _ ⟨i,L,c,rfl,hi,hl,hw,hc0,hc1,hv,rfl,rfl⟩
 by_cases hlt:i<(td a).length
 ·have t1:decide ((i:Int)<((td a).length:Int))=true:=decide_eq_true (by omega)
  have k2:=r_at b i (by omega)
  have hx:=wa i
  have hy:=wb i
  generalize hxe:(td a).getD i 0=x at*
  generalize hye:(td b).getD i 0=y at*
  have e1:IntKind.i64.wrap (x - y)=x - y:=wrap_i64 (by omega) (by omega)
  have e2:IntKind.i64.wrap (x - y - c)=x - y - c:=wrap_i64 (by omega) (by omega)
  have e6:=winc (i:=i) (by omega)
  have hst:∀D C,x - y - c=D - 10000*C→valT (L++[D]) (i+1) - C*10000^(i+1)=valT (td a) (i+1) - valT (td b) (i+1):=fun D C hD=>by
   have h1:=valT_snoc L D
   rw[hl]at h1
   rw[h1,valT,valT,Int.pow_succ,hxe,hye]
   exact sub_lend hv hD
  have hl2:∀D:Int,(L++[D]).length=i+1:=fun D=>by rw[List.length_append,hl];rfl
  have hhp:=fun D=>snoc_end (d:=D) hl
  refine SWx.of hE ?_
  conv=>whnf
  by_cases hn:x - y - c<0
  ·have t2:decide (x - y - c<0)=true:=decide_eq_true hn
   have e3:IntKind.i64.wrap (x - y - c+10000)=x - y - c+10000:=wrap_i64 (by omega) (by omega)
   (repeat((first|refine step_w1 rfl rfl ?_|refine step_i (by kernel_rfl) ?_|refine step_oA (by first|omega|decide|(simp only[tl0,dlen,List.length_replicate,List.length_set,List.length_map,List.length_zipWith,List.length_take,List.length_append,List.length_cons,List.length_nil];omega)) ?_|refine g_c (by assumption) ?_|refine g_o (op_lenM rfl rfl rfl (ev_ok rfl) (tgt rfl) rfl) ?_|refine g_o (op_loadA rfl (ev_ok rfl) (tgt rfl) rfl (Nat.succ_ne_zero _) rfl) ?_|refine g_o (op_indexN (α:=Int) (d:=0) rfl (ev_ok rfl) (ev_ok rfl) (tgt rfl) rfl (tgt rfl) rfl (by omega)) ?_|rw[t1]|rw[hxe]|rw[e1]|rw[e2]|rw[t2]|rw[e3]|rw[e6]);conv=>whnf))
   exact⟨(td a).length - (i+1),renBy [(32,2001)],[0,1,5,6,7],[32],by omega,by kernel_rfl,i+1,_,1,rfl,by omega,hl2 _,W4_snoc hw (show 0≤x - y - c+10000 by omega) (by omega),by omega,by omega,hst _ _ (by omega),rfl,by rw[←hhp];rfl⟩
  ·have t2:decide (x - y - c<0)=false:=decide_eq_false hn
   (repeat((first|refine step_w1 rfl rfl ?_|refine step_w2 rfl rfl ?_|refine step_i (by kernel_rfl) ?_|refine step_oA (by first|omega|decide|(simp only[tl0,dlen,List.length_replicate,List.length_set,List.length_map,List.length_zipWith,List.length_take,List.length_append,List.length_cons,List.length_nil];omega)) ?_|refine g_c (by assumption) ?_|refine g_o (op_lenM rfl rfl rfl (ev_ok rfl) (tgt rfl) rfl) ?_|refine g_o (op_loadA rfl (ev_ok rfl) (tgt rfl) rfl (Nat.succ_ne_zero _) rfl) ?_|refine g_o (op_indexN (α:=Int) (d:=0) rfl (ev_ok rfl) (ev_ok rfl) (tgt rfl) rfl (tgt rfl) rfl (by omega)) ?_|rw[t1]|rw[hxe]|rw[e1]|rw[e2]|rw[t2]|rw[e6]);conv=>whnf))
   exact⟨(td a).length - (i+1),renBy [(32,2001)],[0,1,5,6,7],[32],by omega,by kernel_rfl,i+1,_,0,rfl,by omega,hl2 _,W4_snoc hw (show 0≤x - y - c by omega) (by omega),by omega,by omega,hst _ _ (by omega),rfl,by rw[←hhp];rfl⟩
 ·have t1:decide ((i:Int)<((td a).length:Int))=false:=decide_eq_false (by omega)
  rw[td_valN a i (by omega),td_valN b i (by omega)]at hv
  have h1:=valT_lt hw i
  have hc:c=0:=by
   rcases(show c=0∨c=1 by omega)with h|h
   ·exact h
   ·subst h;omega
  subst hc
  have k1:=r_trim L (by omega) hw
  rw[show(valT L L.length).toNat=a - b by rw[hl];omega]at k1
  refine SWx_frzI 5 2001 (fun _ h=>h) rfl rfl hl.symm ?_
  refine SWx.of hE ?_
  conv=>whnf
  (repeat((first|refine step_w2 rfl rfl ?_|refine g_c (by assumption) ?_|refine g_o (op_lenM rfl rfl rfl (ev_ok rfl) (tgt rfl) rfl) ?_|rw[t1]);conv=>whnf));(first|exact Recast.refl _|exact Frz.recast (Recast.refl _) rfl|(refine Frz.one rfl rfl ?_;skip)|(refine Frz.tup ?_;skip))
end Go.Proofs.YtjofnbpcanhfhaaGreatDoor
namespace Go.Proofs.YtjofnbpcanhfhaaGreatDoor
open Go.Sx
set_option linter.unusedSimpArgs false
set_option linter.unusedVariables false
set_option maxRecDepth 100000
set_option maxHeartbeats 4000000
theorem mul_carry {V P c x y o D C R:Int} (hV:V+c*P=R) (hD:o+x*y+c=D+10000*C):V+(D - o)*P+C*(P*10000)=R+x*y*P:=by
 have h2:(o+x*y+c)*P=(D+10000*C)*P:=by rw[hD]
 grind
theorem pow_lt_of {i k l:Nat} (h:(10000:Int)^i<10000^k):i<k:=by
 rcases Nat.lt_or_ge i k with g|g
 ·exact g
 ·have:(10000:Nat)^k≤10000^i:=Nat.pow_le_pow_right (by decide) g
  have h2:((10000^k:Nat):Int)≤((10000^i:Nat):Int):=Int.ofNat_le.2 this
  rw[natPowT,natPowT]at h2
  omega
theorem r_Mul (a b:Nat) (ha:(td a).length<536870912) (hb:(td b).length<536870912):CallOK Tryz.prog 91 [nN a,nN b] [] (nN (a*b)) [] []:=by
 have wa:=td_w32 a
 have wb:=td_w32 b
 have ela:IntKind.i64.wrap (((td a).length:Int)+((td b).length:Int))=(((td a).length+(td b).length:Nat):Int):=by rw[wrap_i64 (by omega) (by omega)];omega
 refine callF (Z:=[]) tabOK mixedOK Tryz.func91 rfl (by kernel_rfl) (by first|rfl|(simp[keylessL,keyless,keylessL_map, *];done)) (by first|rfl|(simp[keylessL,keyless,keylessL_map, *];done)) (by kernel_rfl) rfl ?_
 intro w0 ρ0 hE
 conv=>whnf
 (repeat((first|refine step_oA (by first|omega|decide|(simp only[tl0,dlen,List.length_replicate,List.length_set,List.length_map,List.length_zipWith,List.length_take,List.length_append,List.length_cons,List.length_nil];omega)) ?_|refine g_o (op_lenM rfl rfl rfl (ev_ok rfl) (tgt rfl) rfl) ?_|rw[ela]|rw[Int.toNat_natCast]);conv=>whnf))
 generalize hla:(td a).length=la at*
 generalize hlb:(td b).length=lb at*
 refine SW_loopS hE (fun k=>k) [0,1,5,6] [15] (fun m fr hp=>∃(i:Nat) (out:List Int),m=la - i∧i≤la∧out.length=la+lb∧W4 out∧valT out (la+lb)=valT (td a) i*b∧
  fr=[(0,nN a),(1,nN b),(5,.slc 15 1 0 (la+lb)),(6,.val (.int .i64 (i:Nat)))]∧hp=[(15,zblk out)]) la ?_ ?_ ?_
 ·kernel_rfl
 ·refine⟨0,List.replicate (la+lb) 0,rfl,Nat.zero_le _,List.length_replicate,W4_of (fun x hx=>by rw[(List.mem_replicate.1 hx).2];omega), ?_,rfl,rfl⟩
  rw[valT_zeros (k:=0) (fun i _ _=>getD_replicate) (Nat.zero_le _)];simp[valT]
 rintro m _ _ ⟨i,out,rfl,hi,hol,how,hov,rfl,rfl⟩
 by_cases hlt:i<la
 ·have t1:decide ((i:Int)<(la:Int))=true:=decide_eq_true (by omega)
  have e9:=winc (i:=i) (by omega)
  have hx:=wa i
  have hbnd:valT (td a) (i+1)*b<10000^(i+1+lb):=by
   have h1:=valT_lt wa (i+1)
   have h2:(b:Int)<10000^lb:=by rw[←natPowT];exact Int.ofNat_lt.2 (td_lt_pow (by omega))
   have h3:=valT_nonneg wa (i+1)
   have h4:valT (td a) (i+1)*b≤valT (td a) (i+1)*10000^lb:=Int.mul_le_mul_of_nonneg_left (by omega) h3
   have h5:valT (td a) (i+1)*10000^lb<10000^(i+1)*10000^lb:=Int.mul_lt_mul_of_pos_right h1 (powT_pos lb)
   rw[Int.pow_add];omega
  have hva1:valT (td a) (i+1)=valT (td a) i+(td a).getD i 0*10000^i:=rfl
  have hila:i<(td a).length:=by omega
  generalize hxe:(td a).getD i 0=x at*
  refine SWx.of hE ?_
  conv=>whnf
  (repeat((first|refine step_w1 rfl rfl ?_|refine g_o (op_lenM rfl rfl rfl (ev_ok rfl) (tgt rfl) rfl) ?_|rw[hla]|rw[t1]);conv=>whnf))
  refine SW_loopN hE (fun k=>k) [0,1,5,6,7,8] [15] (fun m fr hp=>∃(k:Nat) (out:List Int) (c:Int),m=lb+2 - k∧k≤lb+1∧out.length=la+lb∧W4 out∧0≤c∧c≤9999∧valT out (la+lb)+c*10000^(i+k)=valT (td a) i*b+x*valT (td b) k*10000^i∧
   fr=[(0,nN a),(1,nN b),(5,.slc 15 1 0 (la+lb)),(6,.val (.int .i64 (i:Nat))),(7,.val (.int .i64 c)),(8,.val (.int .i64 (k:Nat)))]∧hp=[(15,zblk out)]) (lb+2) ?_ ?_ ?_
  ·kernel_rfl
  ·exact⟨0,out,0,rfl,by omega,hol,how,by omega,by omega,by rw[hov];simp[valT],rfl,rfl⟩
  clear hov how hol out
  rintro m _ _ ⟨k,out,c,rfl,hk,hol,how,hc0,hc1,hov,rfl,rfl⟩
  have hend:lb≤k→valT out (la+lb)+c*10000^(i+k)=valT (td a) (i+1)*b:=fun h=>by
   rw[hov,td_valN b k (by omega),hva1];grind
  have hck:0<c→k≤lb:=fun h=>by
   rcases Nat.lt_or_ge lb k with g|g
   ·have h1:=hend (by omega)
    have h2:=valT_nonneg how (la+lb)
    have h3:1*(10000:Int)^(i+k)≤c*10000^(i+k):=Int.mul_le_mul_of_nonneg_right (by omega) (Int.le_of_lt (powT_pos _))
    have h4:(10000:Int)^(i+k)<10000^(i+1+lb):=by omega
    have:=pow_lt_of (l:=0) h4
    omega
   ·exact g
  by_cases hgo:k<lb∨0<c
  ·have hkb:k≤lb:=by
    rcases hgo with h|h
    ·omega
    ·exact hck h
   have hik:i+k<out.length:=by omega
   have k2:=r_at b k (by omega)
   have hy:=wb k
   have ho:=how (i+k)
   generalize hye:(td b).getD k 0=y at*
   generalize hoe:out.getD (i+k) 0=o at*
   have hxy:0≤x*y:=Int.mul_nonneg hx.1 hy.1
   have hxy2:x*y≤9999*9999:=by
    have h1:x*y≤9999*y:=Int.mul_le_mul_of_nonneg_right (by omega) hy.1
    omega
   have e1:IntKind.i64.wrap ((i:Int)+(k:Int))=((i+k:Nat):Int):=by rw[wrap_i64 (by omega) (by omega)];omega
   have e2:IntKind.i64.wrap (x*y)=x*y:=wrap_i64 (by omega) (by omega)
   have e3:IntKind.i64.wrap (o+x*y)=o+x*y:=wrap_i64 (by omega) (by omega)
   have e4:IntKind.i64.wrap (o+x*y+c)=o+x*y+c:=wrap_i64 (by omega) (by omega)
   have e5:(o+x*y+c).tmod 10000=(o+x*y+c) % 10000:=Int.tmod_eq_emod_of_nonneg (by omega)
   have e6:IntKind.i64.wrap ((o+x*y+c).tdiv 10000)=(o+x*y+c)/10000:=by rw[Int.tdiv_eq_ediv_of_nonneg (by omega)];exact wrap_i64 (by omega) (by omega)
   have e7:(o+x*y+c).tdiv 10000=(o+x*y+c)/10000:=Int.tdiv_eq_ediv_of_nonneg (by omega)
   have e8:=winc (i:=k) (by omega)
   have hD:o+x*y+c=(o+x*y+c) % 10000+10000*((o+x*y+c)/10000):=(Int.emod_add_mul_ediv _ _).symm
   have hC0:0≤(o+x*y+c)/10000:=by omega
   have hC1:(o+x*y+c)/10000≤9999:=by omega
   have hD0:0≤(o+x*y+c) % 10000:=by omega
   have hD1:(o+x*y+c) % 10000<10000:=by omega
   have hnew:valT (out.set (i+k) ((o+x*y+c) % 10000)) (la+lb)+(o+x*y+c)/10000*10000^(i+(k+1))=valT (td a) i*b+x*valT (td b) (k+1)*10000^i:=by
    rw[valT_set (by omega) hik,hoe,show i+(k+1)=i+k+1 from rfl,Int.pow_succ,valT,hye]
    have:=mul_carry hov hD
    have e:x*(valT (td b) k+y*10000^k)*10000^i=x*valT (td b) k*10000^i+x*y*10000^(i+k):=by rw[Int.pow_add];grind
    rw[e];omega
   have hl2:(out.set (i+k) ((o+x*y+c) % 10000)).length=la+lb:=by rw[List.length_set];exact hol
   have hw2:=how.set (i:=i+k) hD0 hD1
   clear hend hck hov hxy hxy2 hD
   conv=>whnf
   by_cases g1:k<lb
   ·have t2:decide ((k:Int)<(lb:Int))=true:=decide_eq_true (by omega)
    (repeat((first|refine step_w1 rfl rfl ?_|refine step_w2 rfl rfl ?_|refine step_i (by kernel_rfl) ?_|refine step_oL (by first|omega|decide|(simp only[tl0,dlen,List.length_replicate,List.length_set,List.length_map,List.length_zipWith,List.length_take,List.length_append,List.length_cons,List.length_nil];omega)) ?_|refine step_oA (by first|omega|decide|(simp only[tl0,dlen,List.length_replicate,List.length_set,List.length_map,List.length_zipWith,List.length_take,List.length_append,List.length_cons,List.length_nil];omega)) ?_|refine step_oN (by first|omega|decide|(simp only[tl0,dlen,List.length_replicate,List.length_set,List.length_map,List.length_zipWith,List.length_take,List.length_append,List.length_cons,List.length_nil];omega)) ?_|refine g_c (by assumption) ?_|refine g_o (op_pickT rfl (ev_ok rfl) (ev_ok rfl)) ?_|refine g_o (op_lenM rfl rfl rfl (ev_ok rfl) (tgt rfl) rfl) ?_|refine g_o (op_loadA rfl (ev_ok rfl) (tgt rfl) rfl (Nat.succ_ne_zero _) rfl) ?_|refine g_o (op_indexN (α:=Int) (d:=0) rfl (ev_ok rfl) (ev_ok rfl) (tgt rfl) rfl (tgt rfl) rfl (by omega)) ?_|rw[hlb]|rw[t2]|rw[hxe]|rw[e1]|rw[hoe]|rw[e2]|rw[e3]|rw[e4]|rw[e5]|rw[e6]|rw[e8]|rw[Int.toNat_natCast]|rw[Nat.zero_add]);conv=>whnf))
    exact⟨lb+2 - (k+1),fun k=>k,[0,1,5,6,7,8],[15],by omega,by kernel_rfl,k+1,_,_,rfl,by omega,hl2,hw2,hC0,hC1,hnew,rfl,rfl⟩
   ·have t2:decide ((k:Int)<(lb:Int))=false:=decide_eq_false (by omega)
    have t3:decide (c>0)=true:=decide_eq_true (by omega)
    (repeat((first|refine step_w1 rfl rfl ?_|refine step_i (by kernel_rfl) ?_|refine step_oL (by first|omega|decide|(simp only[tl0,dlen,List.length_replicate,List.length_set,List.length_map,List.length_zipWith,List.length_take,List.length_append,List.length_cons,List.length_nil];omega)) ?_|refine step_oA (by first|omega|decide|(simp only[tl0,dlen,List.length_replicate,List.length_set,List.length_map,List.length_zipWith,List.length_take,List.length_append,List.length_cons,List.length_nil];omega)) ?_|refine step_oN (by first|omega|decide|(simp only[tl0,dlen,List.length_replicate,List.length_set,List.length_map,List.length_zipWith,List.length_take,List.length_append,List.length_cons,List.length_nil];omega)) ?_|refine g_c (by assumption) ?_|refine g_o (op_pickF rfl (ev_ok rfl) (ev_ok rfl)) ?_|refine g_o (op_lenM rfl rfl rfl (ev_ok rfl) (tgt rfl) rfl) ?_|refine g_o (op_loadA rfl (ev_ok rfl) (tgt rfl) rfl (Nat.succ_ne_zero _) rfl) ?_|refine g_o (op_indexN (α:=Int) (d:=0) rfl (ev_ok rfl) (ev_ok rfl) (tgt rfl) rfl (tgt rfl) rfl (by omega)) ?_|rw[hlb]|rw[t2]|rw[t3]|rw[hxe]|rw[e1]|rw[hoe]|rw[e2]|rw[e3]|rw[e4]|rw[e5]|rw[e6]|rw[e8]|rw[Int.toNat_natCast]|rw[Nat.zero_add]);conv=>whnf))
    exact⟨lb+2 - (k+1),fun k=>k,[0,1,5,6,7,8],[15],by omega,by kernel_rfl,k+1,_,_,rfl,by omega,hl2,hw2,hC0,hC1,hnew,rfl,rfl⟩
  ·have t2:decide ((k:Int)<(lb:Int))=false:=decide_eq_false (by omega)
   have t3:decide (c>0)=false:=decide_eq_false (by omega)
   have hc:c=0:=by omega
   have hv:=hend (by omega)
   rw[hc,Int.zero_mul,Int.add_zero]at hv
   conv=>whnf
   (repeat((first|refine step_w1 rfl rfl ?_|refine step_w2 rfl rfl ?_|refine g_o (op_pickF rfl (ev_ok rfl) (ev_ok rfl)) ?_|refine g_o (op_lenM rfl rfl rfl (ev_ok rfl) (tgt rfl) rfl) ?_|rw[hlb]|rw[t2]|rw[t3]|rw[e9]);conv=>whnf))
   exact⟨la - (i+1),fun k=>k,[0,1,5,6],[15],by omega,by kernel_rfl,i+1,out,rfl,by omega,hol,how,hv,rfl,rfl⟩
 ·have t1:decide ((i:Int)<(la:Int))=false:=decide_eq_false (by omega)
  have hI:i=la:=by omega
  subst hI
  rw[td_valN a i (by omega)]at hov
  have k1:=r_trim out (by omega) how
  rw[show(valT out out.length).toNat=a*b by rw[hol,hov,←Int.natCast_mul];exact Int.toNat_natCast _]at k1
  refine SWx_frzI 5 15 (fun _ h=>h) rfl rfl hol.symm ?_
  refine SWx.of hE ?_
  conv=>whnf
  (repeat((first|refine step_w2 rfl rfl ?_|refine g_c (by assumption) ?_|refine g_o (op_lenM rfl rfl rfl (ev_ok rfl) (tgt rfl) rfl) ?_|rw[hla]|rw[t1]);conv=>whnf));(first|exact Recast.refl _|exact Frz.recast (Recast.refl _) rfl|(refine Frz.one rfl rfl ?_;skip)|(refine Frz.tup ?_;skip))
end Go.Proofs.YtjofnbpcanhfhaaGreatDoor
namespace Go.Proofs.YtjofnbpcanhfhaaGreatDoor
open Go.Sx
set_option linter.unusedSimpArgs false
set_option linter.unusedVariables false
set_option maxRecDepth 100000
set_option maxHeartbeats 4000000
theorem run_firstV {P:Program} {ρ:Rho} {w:World} {s n:Nat} {vs:List SV} {d:Sx.Data} {v:Value} (hv:Has ρ (vecA s vs) v) (himm:∀b o,ρ.imm b=some o→w.heap[b]? =some o)
  (hr:∀z,HasZ (bareR ρ.imm ρ.glob) vs z→(∀x∈vs,x.width=s)→Go.Sx.Rows ρ s d z) (hn:n=vs.length):
  ∃z,Go.Sx.Rows ρ s d z∧(∀w',(∀b,b<w.heap.size→w'.heap[b]? =w.heap[b]?)→(Builtin.firstCells s n v).run P w'= .ok (((z.drop 0).take n).flatten).toArray w')∧Builtin.lenOf v=Pure.pure n:=by
 subst hn
 rcases has_vec hv with⟨rfl,a,rfl⟩|⟨b,cap,z,pre,ex,ty,fz,h1,h2,h3,h4,h5,h6⟩
 ·refine⟨[],hr [] (by simp only[HasZ]) (fun x hx=>by cases hx),fun w' _=> ?_,rfl⟩
  cases a with
  |none=>simp[Builtin.firstCells]
  |some a=>simp[Builtin.firstCells,loadCells,loadCellsFrom]
 ·have hzr:=hr z h2 h3
  obtain⟨zl,zw⟩:=hzr.len
  have hzl:z.length=vs.length:=HasZ_length h2
  subst h6
  refine⟨z,hzr,fun w' hw'=> ?_,rfl⟩
  have hh0:=himm _ _ h1
  have hblt:b<w.heap.size:=by
   rcases Nat.lt_or_ge b w.heap.size with h'|h'
   ·exact h'
   ·simp[Array.getElem?_eq_none h']at hh0
  have hh:w'.heap[b]? =some (.cells (pre++(z.flatten++ex)).toArray ty fz):=by rw[hw' b hblt];exact hh0
  have e0:(z.drop 0).take vs.length=z:=by rw[List.drop_zero,List.take_of_length_le (by omega)]
  rw[e0]
  have hlen:z.flatten.length=vs.length*s:=by rw[flatten_len (s:=s) _ zw,hzl]
  refine run_firstCells_some (P:=P) w' s vs.length _ vs.length cap _ hlen ?_
  intro j u hj
  have hadd:(⟨b,pre.length,none⟩:Addr).add j=⟨b,pre.length+j,none⟩:=by unfold Addr.add;split<;>simp_all
  rw[hadd,cell_of_row w' b (pre.length+j) _ ty fz hh]
  have hlt:j<z.flatten.length:=(List.getElem?_eq_some_iff.1 hj).1
  simp only[List.getElem?_toArray]
  rw[List.getElem?_append_right (by omega),Nat.add_sub_cancel_left,List.getElem?_append_left hlt]
  exact hj
theorem HasZ_intsU {ρ:Rho} {kd:IntKind}:∀(xs:List Int) (z:List (List Value)),HasZ ρ (xs.map (iel kd)) z→z=xs.map fun x=>[.int kd x]
 |[],z,h=>by simpa only[List.map_nil,HasZ]using h
 |x::xs,z,h=>by
  simp only[List.map_cons,HasZ]at h
  obtain⟨y,r,rfl,h1,h2⟩:=h
  rw[HasZ_intsU xs r h2]
  simp only[iel,HasC]at h1
  rw[h1.1,List.map_cons]
theorem rows_ints {kd:IntKind} (xs:List Int):∀(ρ:Rho) z,HasZ (bareR ρ.imm ρ.glob) (xs.map (iel kd)) z→(∀x∈xs.map (iel kd),x.width=1)→Go.Sx.Rows ρ 1 (.ints kd xs) z:=
 fun ρ z h _=>⟨rfl,HasZ_intsU xs z h⟩
theorem op_appendV {P:Program} {o:Oper} {fr:List (Nat×SV)} {fk:List (Nat×Blk)} {t t2 e:TypeId} {x y:Operand} {xs:Array Operand} {ts:Array TypeId} {ti t0 te:TI} {k kn n m:Nat} {d d' d2:Sx.Data} {vs:List SV} (ho:o.op= .call ⟨.builtin .append,xs,ts⟩) (hxs:xs= #[x,y]) (hts:ts= #[t,t2])
  (hx:EvOK fr x (.slc k te.size 0 n)) (hy:EvOK fr y (vecA te.size vs)) (hr2:∀(ρ:Rho) z,HasZ (bareR ρ.imm ρ.glob) vs z→(∀x∈vs,x.width=te.size)→Go.Sx.Rows ρ te.size d2 z) (ht:TOK P t ti) (hk:ti.kind= .slc e) (ht2:TOK P t2 t0) (hk2:t0.kind= .slc e) (he:TOK P e te)
  (hf:(k,⟨e,true,d⟩)∈fk) (hl:d.live=true) (hw:dwidth d=some te.size)
  (hn:n≤dlen d) (hmv:m=vs.length) (hm:0+m≤dlen d2) (hd:dapp d n d2 0 m=some d') (hbytes:(n+m)*te.bytes≤140737488355328) (h63:n+m≤9223372036854775807):
  OpOK P o fr fk (.slc kn te.size 0 (n+m)) [(kn,⟨e,true,d'⟩)] [(k,⟨e,true,.dead⟩)]:=
 ok_value fun ρ a w hp=>by
  have hvx:=hx ρ a hp.hft
  have hvy:=hy ρ a hp.hft
  obtain⟨i,zv,i1,i2',i3,i4,i5,i6,i7,_⟩:=he.info
  have hu:=ht.kind;rw[hk]at hu
  have hu2:=ht2.kind;rw[hk2]at hu2
  obtain⟨z,hz,hzc⟩:=blk_rows (hp.hfk k _ hf) hl hw
  obtain⟨z2,hz2,hrun2,hlen2⟩:=run_firstV (P:=P) (d:=d2) hvy hp.imm (hr2 ρ) hmv
  obtain⟨zl,zw⟩:=hz.len
  obtain⟨zl2,zw2⟩:=hz2.len
  have hrows:=(dapp_rows hd hz hz2).1
  have hfresh:=hp.fresh kn _ (List.mem_cons_self ..)
  simp only at zl
  have hsegw:∀u∈(z2.drop 0).take m,u.length=te.size:=fun u hu=>zw2 u (List.mem_of_mem_drop (List.mem_of_mem_take hu))
  have hsegl:((z2.drop 0).take m).length=m:=by rw[List.length_take,List.length_drop];omega
  have hnews:(((z2.drop 0).take m).flatten).length=m*te.size:=by rw[flatten_len _ hsegw,hsegl]
  have hnone:∀u∈(((z2.drop 0).take m).flatten),u.oneCell'=true:=fun u hu=>by
   obtain⟨q,hq,hu⟩:=List.mem_flatten.1 hu
   exact hz2.one' q (List.mem_of_mem_drop (List.mem_of_mem_take hq)) u hu
  have hcall:∀v w',(Builtin.append_ ts o.type #[a.eval x,a.eval y]).run P w= .ok v w'→(execOp a.eval o).run P w= .ok (.value v) w':=by
   intro v w' h
   simp only[execOp,ho,resolve,invoke,builtin,hxs,Sem.run_bind,Sem.run_pure,Result.andThen_ok,List.map_toArray,List.map_cons,List.map_nil]
   rw[h]
   rfl
  have zone:∀v∈zv.cells.toList,v.oneCell'=true:=by
   have h1:=(HasZ.len (ρ:=ρ) te.zero _ (zero_has i6)).2
   rw[i5,List.flatMap_def];exact h1
  have h63':¬((n+m:Nat):Int)>IntKind.i64.max:=by
   have:IntKind.i64.max=9223372036854775807:=by decide
   omega
  have grow:∀(base:Option Addr) (cap:Nat),a.eval x= .slice base n cap→cap<n+m→(∀w',(∀b,b<w.heap.size→w'.heap[b]? =w.heap[b]?)→(Builtin.firstCells te.size n (.slice base n cap)).run P w'= .ok ((z.take n).flatten).toArray w')→
    ∃v w' ρ',(execOp a.eval o).run P w= .ok (.value v) w'∧Post ρ w (.slc kn te.size 0 (n+m)) [(kn,⟨e,true,d'⟩)] [(k,⟨e,true,.dead⟩)] v ρ' w':=by
   intro base cap hbx hcap hfirst
   have hfit:¬Builtin.nextslicecap (n+m) cap*i.bytes>2^48:=by
    have:=growslice_fits (bytes:=te.bytes) hcap hbytes
    rw[i3];simpa using this
   have hgc:n+m≤grownCap w (n+m) cap e:=by
    simp only[grownCap,Question.cut]
    omega
   have hpost:=post_row (hL:=hrows.notLoop) (ρ:=ρ) (w:=w.drew) (k:=kn) (s:=te.size) (n:=n+m) (cap:=grownCap w (n+m) cap e) (ty:=e) (d:=d') (vs:=(z.take n++(z2.drop 0).take m).flatten) (ex:=(Builtin.zeroCells zv.cells (grownCap w (n+m) cap e - (n+m))).toList) hfresh hrows.data hgc
    (by
     have h1:((z.take n++(z2.drop 0).take m).flatten).length=(n+m)*te.size:=by
      rw[flatten_len (s:=te.size) _ (fun u hu=>(List.mem_append.1 hu).elim (fun h=>zw u (List.mem_of_mem_take h)) (hsegw u)),List.length_append,hsegl,List.length_take]
      congr 1
      omega
     rw[List.length_append,h1,Array.length_toList]
     have h2:(Builtin.zeroCells zv.cells (grownCap w (n+m) cap e - (n+m))).size=(grownCap w (n+m) cap e - (n+m))*te.size:=by simp[Builtin.zeroCells,i7]
     rw[h2,←Nat.add_mul,show n+m+(grownCap w (n+m) cap e - (n+m))=grownCap w (n+m) cap e from by omega]
     exact Nat.le_refl _) (zeroCells_one zone _)
   refine⟨_,_,_,hcall _ _ ?_,{hpost with
    pres:=⟨hpost.pres.os,hpost.pres.tape,hpost.pres.output,hpost.pres.size,fun b hb hn=>hpost.pres.block b hb (fun hh=>by obtain⟨_,_,_,hh,_⟩:=hh;cases hh)⟩
    blk:=fun j b hj=>by
     rcases hj with hj|hj
     ·simp only[List.mem_singleton,Prod.mk.injEq]at hj
      obtain⟨rfl,rfl⟩:=hj
      exact .inl rfl
     ·exact hpost.blk j b (.inr hj)
    once:=fun j b b' h1 h2 h3 h4=>by
     simp only[List.mem_singleton,Prod.mk.injEq]at h1 h2
     rw[h2.2]at h4
     cases h4
    newb:=fun j b q hj hq=>.inl ((hpost.newb j b q hj hq).elim id (fun hh=>by obtain⟨_,_,_,hh,_⟩:=hh;cases hh))}⟩
   have hz0:(if false=true then(Pure.pure 0:Sem Nat)else Builtin.lenOf (a.eval y)).run P w= .ok m w:=by rw[hlen2];rfl
   have hcap':¬n+m≤cap:=by omega
   have hnb:(w.drew).heap=w.heap:=rfl
   have hr1:=hfirst w.drew (fun b _=>rfl)
   have hr2:=hrun2 w.drew (fun b _=>rfl)
   simp only[Builtin.append_,hts,hbx,List.getElem?_toArray,List.getElem?_cons_zero,List.getElem?_cons_succ,Sem.run_bind,run_underlying hu,run_underlying hu2,Result.andThen_ok,he.sizeOf,Sem.run_pure,Bool.false_eq_true,if_false,hlen2]
   have hti:∀w',(typeInfo e).run P w'= .ok i w':=fun w'=>by simp[typeInfo,i1]
   have hzv:∀w',(Go.zeroValue e).run P w'= .ok zv w':=fun w'=>by simp[Go.zeroValue,typeInfo,i1,i4]
   have hcond:¬(((n+m:Nat):Int)>IntKind.i64.max∧(False∨i.bytes=0)):=fun h=>h63' h.1
   have hforced:(Question.appendCap (n+m) cap e).forced=false:=rfl
   simp only[hcap',if_false,Sem.run_bind,hti,Result.andThen_ok,hcond,hfit,run_choose,hforced,Bool.false_eq_true,World.drew_eq,run_askRoom,hr1,Bool.not_false,if_true,hr2,hzv,newRow,run_newObj,Sem.run_pure,World.alloc_eq]
   have harr:((z.take n).flatten.toArray++((z2.drop 0).take m).flatten.toArray++Builtin.zeroCells zv.cells (grownCap w (n+m) cap e - (n+m)))=((z.take n++(z2.drop 0).take m).flatten++(Builtin.zeroCells zv.cells (grownCap w (n+m) cap e - (n+m))).toList).toArray:=by
    apply Array.ext'
    simp
   show Result.ok (Value.slice (some ⟨w.drew.heap.size,0,none⟩) (n+m) (grownCap w (n+m) cap e)) (w.drew.alloc (.cells ((z.take n).flatten.toArray++((z2.drop 0).take m).flatten.toArray++Builtin.zeroCells zv.cells (grownCap w (n+m) cap e - (n+m))) e))=_
   rw[harr]
  rcases has_slc hvx with⟨b,tt,cap,e1,e2,e3,e4⟩|⟨rfl,ad,e4⟩
  ·rcases hzc with⟨b',tt',ex,c1,c2,c3,c4⟩|⟨c1,_⟩
   ·rw[e1]at c1
    cases c1
    simp only at c2
    rcases Nat.lt_or_ge cap (n+m)with hlt|hge
    ·refine grow _ cap e4 hlt ?_
     obtain⟨z3,hz3,hrun3,_⟩:=run_first (P:=P) hvx (hp.hfk k _ hf) hl hw (by simpa using hn)
     intro w' hw'
     have h0:=run_firstCells_some (P:=P) w' te.size n ⟨b,0*te.size,none⟩ n cap ((z.take n).flatten) (by
      rw[flatten_len (s:=te.size) _ (fun u hu=>zw u (List.mem_of_mem_take hu)),List.length_take];congr 1;omega) (by
      intro j u hj
      have hblt:b<w.heap.size:=by
       rcases Nat.lt_or_ge b w.heap.size with h'|h'
       ·exact h'
       ·simp[Array.getElem?_eq_none h']at c2
      have hh:w'.heap[b]? =some (.cells (z.flatten++ex).toArray e (0,0)):=by rw[hw' b hblt];exact c2
      have hadd:(⟨b,0*te.size,none⟩:Addr).add j=⟨b,j,none⟩:=addr_add0 b te.size j
      rw[hadd,cell_of_row w' b j _ e (0,0) hh]
      rw[flatten_take (s:=te.size) _ _ zw]at hj
      have h6:z.flatten[j]? =some u:=by
       rw[List.getElem?_take]at hj
       split at hj
       ·exact hj
       ·cases hj
      have hlt2:j<z.flatten.length:=(List.getElem?_eq_some_iff.1 h6).1
      simp only[List.getElem?_toArray]
      rw[List.getElem?_append_left hlt2]
      exact h6)
     exact h0
    ·-- in place
     have hblt:b<w.heap.size:=by
      rcases Nat.lt_or_ge b w.heap.size with h'|h'
      ·exact h'
      ·simp[Array.getElem?_eq_none h']at c2
     have hr2:=hrun2 w (fun b _=>rfl)
     have hfitc:0*te.size+n*te.size+(((z2.drop 0).take m).flatten).length≤(z.flatten++ex).length:=by
      rw[hnews,c3,Nat.zero_mul,Nat.zero_add,←Nat.add_mul]
      exact Nat.le_trans (Nat.mul_le_mul_right _ hge) (by simpa using e3)
     have hsc:=run_storeCells_at (P:=P) b (n*te.size) e (((z2.drop 0).take m).flatten) 0 (z.flatten++ex).toArray w c2 (by simp only[List.size_toArray];simpa using hfitc) hnone
     have hadd:(⟨b,0*te.size,none⟩:Addr).add (n*te.size)=⟨b,n*te.size,none⟩:=addr_add0 b te.size _
     have hcells:((z.flatten++ex).take (n*te.size+0)++(((z2.drop 0).take m).flatten)++(z.flatten++ex).drop (n*te.size+0+(((z2.drop 0).take m).flatten).length))=
       (z.take n++(z2.drop 0).take m).flatten++(z.flatten++ex).drop (n*te.size+m*te.size):=by
      rw[Nat.add_zero,hnews,List.flatten_append,flatten_take (s:=te.size) _ _ zw,List.take_append_of_le_length (by rw[flatten_len (s:=te.size) _ zw];exact Nat.mul_le_mul_right _ (by omega))]
     rw[hcells]at hsc
     let ρ':Rho:=⟨fun j=>if j=kn then some (b,tt)else ρ.key j,ρ.imm,ρ.glob⟩
     have hle:ρ.Le ρ':=⟨fun j q hq=>by
      show(if j=kn then _ else _)=_
      by_cases hj:j=kn
      ·subst hj;rw[hfresh]at hq;cases hq
      ·rw[if_neg hj];exact hq,fun b o hb=>hb⟩
     refine⟨.slice (some ⟨b,0*te.size,none⟩) (n+m) cap,w.setRow b ((z.take n++(z2.drop 0).take m).flatten++(z.flatten++ex).drop (n*te.size+m*te.size)).toArray,ρ',hcall _ _ ?_, ?_⟩
     ·simp only[Builtin.append_,hts,e4,List.getElem?_toArray,List.getElem?_cons_zero,List.getElem?_cons_succ,Sem.run_bind,run_underlying hu,run_underlying hu2,Result.andThen_ok,he.sizeOf,Sem.run_pure,Bool.false_eq_true,if_false,hlen2,hge,if_true,Bool.not_false,hr2,hadd,hsc]
     ·refine⟨hle,slc_has (.inl ⟨b,tt,cap, ?_,hge,e3,rfl⟩), ?_,⟨rfl,rfl,rfl,by simp[World.setRow], ?_⟩, ?_, ?_, ?_, ?_,fun b o hb=>.inl hb⟩
      ·show(if kn=kn then _ else _)=_
       rw[if_pos rfl]
      ·intro j hj
       show(if j=kn then _ else _)=_
       rw[if_neg]
       rintro rfl
       exact hj _ (List.mem_cons_self ..)
      ·intro q hq hnq
       refine heap_setRow_other fun hqb=>hnq ⟨k,_,tt,List.mem_cons_self .., ?_⟩
       rw[hqb];exact e1
      ·intro j bj hj
       rcases hj with hj|hj
       ·simp only[List.mem_singleton,Prod.mk.injEq]at hj
        obtain⟨rfl,rfl⟩:=hj
        exact .inl rfl
       ·simp only[List.mem_singleton,Prod.mk.injEq]at hj
        obtain⟨rfl,rfl⟩:=hj
        refine .inr (.inl ⟨b,tt,_,(z.flatten++ex).drop (n*te.size+m*te.size), ?_,by rw[Data.obj_cells hrows.notLoop];exact heap_setRow_same c2,hrows.data.mono hle, ?_, ?_⟩)
        ·show(if j=j then _ else _)=_
         rw[if_pos rfl]
        ·have h1:((z.take n++(z2.drop 0).take m).flatten).length=(n+m)*te.size:=by
          rw[flatten_len (s:=te.size) _ (fun u hu=>(List.mem_append.1 hu).elim (fun h=>zw u (List.mem_of_mem_take h)) (hsegw u)),List.length_append,hsegl,List.length_take]
          congr 1
          omega
         rw[List.length_append,h1,List.length_drop,c3,Nat.add_mul]
         rw[hnews,c3]at hfitc
         omega
        ·intro u hu
         have:=List.mem_of_mem_drop hu
         rcases List.mem_append.1 this with h|h
         ·obtain⟨q,hq,hu'⟩:=List.mem_flatten.1 h
          exact hz.one' q hq u hu'
         ·exact c4 u h
      ·intro j c c' h1 h2 h3 h4
       simp only[List.mem_singleton,Prod.mk.injEq]at h1 h2
       rw[h2.2]at h4
       cases h4
      ·intro j bj q hj hq
       simp only[List.mem_singleton,Prod.mk.injEq]at hj
       obtain⟨rfl,rfl⟩:=hj
       have hq':(if j=j then some (b,tt)else ρ.key j)=some q:=hq
       rw[if_pos rfl]at hq'
       cases hq'
       exact .inr ⟨k,_,tt,List.mem_cons_self ..,rfl,e1⟩
      ·intro j bj j' bj' q q' hj hj' hne
       simp only[List.mem_singleton,Prod.mk.injEq]at hj hj'
       exact absurd (hj.1.trans hj'.1.symm) hne
   ·rw[e1]at c1;cases c1
  ·rcases Nat.eq_zero_or_pos m with rfl|hm0
   ·-- nothing onto nothing
    have hr2:=hrun2 w (fun b _=>rfl)
    refine⟨.slice ad 0 0,w,ρ,hcall _ _ ?_, ?_⟩
    ·have hst:∀q:Addr,(storeCells q ([]:List Value)).run P w= .ok () w:=fun q=>rfl
     have hseg0:((z2.drop 0).take 0).flatten=[]:=by simp
     rw[hseg0]at hr2
     cases ad<;>simp only[Builtin.append_,hts,e4,List.getElem?_toArray,List.getElem?_cons_zero,List.getElem?_cons_succ,Sem.run_bind,run_underlying hu,run_underlying hu2,Result.andThen_ok,he.sizeOf,Sem.run_pure,Bool.false_eq_true,if_false,hlen2,Nat.add_zero,Nat.le_refl,if_true,Bool.not_false,hr2,hst]
    ·have hemp:d'.empty∨True:=.inr trivial
     have hd0:d'.empty:=by
      unfold dapp at hd
      split at hd
      ·split at hd
       ·simp only[Option.some.injEq]at hd;subst hd;simp[Data.empty]
       ·simp at hd
      ·simp only[Option.some.injEq]at hd;subst hd;simp[Data.empty]
      ·split at hd
       ·simp only[Option.some.injEq]at hd;subst hd;simp[Data.empty]
       ·simp at hd
      ·simp at hd
     refine⟨.refl ρ,slc_has (.inr ⟨rfl,ad,rfl⟩),fun _ _=>rfl,.refl _ _, ?_, ?_, ?_, ?_,fun b o hb=>.inl hb⟩
     ·intro j bj hj
      rcases hj with hj|hj
      ·simp only[List.mem_singleton,Prod.mk.injEq]at hj
       obtain⟨rfl,rfl⟩:=hj
       exact .inl rfl
      ·simp only[List.mem_singleton,Prod.mk.injEq]at hj
       obtain⟨rfl,rfl⟩:=hj
       exact .inr (.inr ⟨hfresh,hd0⟩)
     ·intro j c c' h1 h2 h3 h4
      simp only[List.mem_singleton,Prod.mk.injEq]at h1 h2
      rw[h2.2]at h4
      cases h4
     ·intro j bj q hj hq
      simp only[List.mem_singleton,Prod.mk.injEq]at hj
      obtain⟨rfl,rfl⟩:=hj
      rw[hfresh]at hq;cases hq
     ·intro j bj j' bj' q q' hj hj' hne
      simp only[List.mem_singleton,Prod.mk.injEq]at hj hj'
      exact absurd (hj.1.trans hj'.1.symm) hne
   ·refine grow ad 0 e4 (by omega) ?_
    intro w' _
    cases ad with
    |none=>simp[Builtin.firstCells]
    |some q=>simp[Builtin.firstCells,loadCells,loadCellsFrom]
end Go.Proofs.YtjofnbpcanhfhaaGreatDoor
namespace Go.Proofs.YtjofnbpcanhfhaaGreatDoor
open Go.Sx
set_option linter.unusedSimpArgs false
set_option linter.unusedVariables false
set_option maxRecDepth 100000
set_option maxHeartbeats 4000000
theorem SWx_frzP {E:Env} (t k:Nat) {c:Code} {K:Post'} {fr:List (Nat×SV)} {hp:List (Nat×Blk)} {ty:TypeId} {n:Nat} {kd:IntKind} {xs ys:List Int} (hW:∀b,¬E.W0 b) (ht:lk fr t=some (.slc k 1 0 n)) (hk:find hp k=some ⟨ty,true,.ints kd xs⟩)
  (hn:n≤xs.length) (hy:xs.take n=ys) (hs:SWx E c K ((t,ivec kd ys)::fr) (setB hp k ⟨ty,true,.dead⟩)):SWx E c K fr hp:=by
 refine SWx_freeze t k (xs:=xs.map (iel kd)) hW ht hk rfl rfl (keylessL_map (fun _=>rfl) xs) (by simp;omega) ?_
 have e:cutL (xs.map (iel kd)) 0 (0+n)=ys.map (iel kd):=by
  rw[cutL,List.drop_zero,Nat.sub_zero,Nat.zero_add,←List.map_take,hy]
 rw[e]
 exact hs
theorem r_trimM (xs:List Int) (n:Nat) (hn:n≤xs.length) (hl:xs.length<1099511627776) (K:Nat) (wr:Bool):
  CallOK Tryz.prog 100 [.slc K 1 0 n] [(K,⟨3,wr,.ints .i64 xs⟩)] (.slc K 1 0 (cutN xs n)) [] []:=by
 refine CallOK.anyWr ?_
 refine callK (Z:=[]) tabOK mixedOK Tryz.func100 rfl (by kernel_rfl) (args:=[.slc 1001 1 0 n]) (fk:=[(1001,⟨3,false,.ints .i64 xs⟩)]) (c:=.slc 1001 1 0 (cutN xs n)) (new:=[]) (upd:=[]) (ShapeOK.of rfl rfl rfl rfl rfl rfl rfl rfl rfl rfl rfl) rfl (fun _=>K) (NamesOK.ro rfl) ?_
 intro W0 w0 ρ0 hE
 conv=>whnf
 skip
 refine SW_loopN hE (fun k=>k) [0] [1001] (fun m fr hp=>m≤n∧cutN xs m=cutN xs n∧fr=[(0,.slc 1001 1 0 m)]∧hp=[(1001,⟨3,false,.ints .i64 xs⟩)]) n ?_ ?_ ?_
 ·kernel_rfl
 ·exact⟨by omega,rfl,rfl,rfl⟩
 rintro m _ _ ⟨hm,hc,rfl,rfl⟩
 conv=>whnf
 by_cases h0:m=0
 ·subst h0
  have t1:decide (((0:Nat):Int)>0)=false:=rfl
  have e:cutN xs n=0:=hc.symm
  rw[e]
  (repeat(first|(refine step_w2 rfl rfl ?_;conv=>whnf)|(refine g_o (op_pickF rfl (ev_ok rfl) (ev_ok rfl)) ?_;conv=>whnf)))
  exact⟨Recast.refl _,(fun _ _ h=>by cases h),(fun _ _ h=>by cases h)⟩
 ·obtain⟨m,rfl⟩:∃k,m=k+1:=⟨m - 1,by omega⟩
  have t1:decide (((m+1:Nat):Int)>0)=true:=decide_eq_true (by omega)
  have e1:IntKind.i64.wrap (((m+1:Nat):Int) - 1)=(m:Int):=by rw[wrap_i64 (by omega) (by omega)];omega
  by_cases hx:xs.getD m 0=0
  ·have t2:(xs.getD m 0==0)=true:=beq_iff_eq.2 hx
   rw[cutN,if_pos hx]at hc
   (repeat((first|refine step_w1 rfl rfl ?_|refine step_oL (by first|omega|decide|(simp only[tl0,dlen,List.length_replicate,List.length_set,List.length_map,List.length_zipWith,List.length_take,List.length_append,List.length_cons,List.length_nil];omega)) ?_|refine step_oA (by first|omega|decide|(simp only[tl0,dlen,List.length_replicate,List.length_set,List.length_map,List.length_zipWith,List.length_take,List.length_append,List.length_cons,List.length_nil];omega)) ?_|refine g_o (op_pickT rfl (ev_ok rfl) (ev_ok rfl)) ?_|rw[t1]|rw[e1]|rw[show 0+(m:Int).toNat=m from by omega]|rw[t2]|rw[show((m:Int) - 0).toNat=m from by omega]|rw[Nat.zero_add]);conv=>whnf))
   exact⟨m,fun k=>k,[0],[1001],by omega,by kernel_rfl,by omega,hc,rfl,rfl⟩
  ·have t2:(xs.getD m 0==0)=false:=beq_false_of_ne hx
   rw[cutN,if_neg hx]at hc
   rw[←hc]
   (repeat((first|refine step_w1 rfl rfl ?_|refine step_w2 rfl rfl ?_|refine step_oL (by first|omega|decide|(simp only[tl0,dlen,List.length_replicate,List.length_set,List.length_map,List.length_zipWith,List.length_take,List.length_append,List.length_cons,List.length_nil];omega)) ?_|refine step_oA (by first|omega|decide|(simp only[tl0,dlen,List.length_replicate,List.length_set,List.length_map,List.length_zipWith,List.length_take,List.length_append,List.length_cons,List.length_nil];omega)) ?_|refine g_o (op_pickT rfl (ev_ok rfl) (ev_ok rfl)) ?_|rw[t1]|rw[e1]|rw[show 0+(m:Int).toNat=m from by omega]|rw[t2]);conv=>whnf))
   exact⟨Recast.refl _,(fun _ _ h=>by cases h),(fun _ _ h=>by cases h)⟩
theorem div_pow_step (R i:Nat):R/10000^i=10000*(R/10000^(i+1))+R/10000^i % 10000:=by
 have:=Nat.div_add_mod (R/10000^i) 10000
 rw[Nat.div_div_eq_div_mul,←Nat.pow_succ]at this
 exact this.symm
theorem r_leading (R F:Nat) (hR:(td R).length<1099511627776) (hF:F<1099511627776) (hb:R/10000^F<100000000000000000):CallOK Tryz.prog 101 [nN R,.val (.int .i64 (F:Nat))] [] (.val (.int .i64 ((R/10000^F:Nat):Int))) [] []:=by
 have e0:IntKind.i64.wrap (((td R).length:Int) - 1)=((td R).length:Int) - 1:=wrap_i64 (by omega) (by omega)
 refine callV (Z:=[]) tabOK mixedOK Tryz.func101 rfl (by kernel_rfl) rfl rfl (by kernel_rfl) rfl ?_
 intro W0 w0 ρ0 hE
 conv=>whnf
 (repeat(first|(refine g_o (op_lenM rfl rfl rfl (ev_ok rfl) (tgt rfl) rfl) ?_;conv=>whnf)|(rw[e0];conv=>whnf)))
 refine SW_loopN hE (fun k=>k) [0,1,5,6] [] (fun q fr hp=>∃j:Nat,q=j - F∧j≤(td R).length∧(F≤j∨j=(td R).length)∧fr=[(0,nN R),(1,.val (.int .i64 (F:Nat))),(5,.val (.int .i64 ((R/10000^j:Nat):Int))),(6,.val (.int .i64 ((j:Int) - 1)))]∧hp=[]) ((td R).length - F) ?_ ?_ ?_
 ·kernel_rfl
 ·exact⟨(td R).length,rfl,Nat.le_refl _,.inr rfl,by rw[Nat.div_eq_of_lt (tlt_len R)];rfl,rfl⟩
 rintro q _ _ ⟨j,rfl,hj,hjF,rfl,rfl⟩
 conv=>whnf
 by_cases hgo:F<j
 ·obtain⟨i,rfl⟩:∃i,j=i+1:=⟨j - 1,by omega⟩
  have ei:(((i+1:Nat):Int) - 1)=(i:Int):=by omega
  rw[ei]
  have hs:=div_pow_step R i
  have hle:R/10000^i≤R/10000^F:=Nat.div_le_div_left (Nat.pow_le_pow_right (by decide) (by omega)) (Nat.pow_pos (by decide))
  have hg:=td_get R i
  have t1:decide ((i:Int)≥(F:Int))=true:=decide_eq_true (by omega)
  generalize hA:R/10000^(i+1)=A at*
  generalize hB:R/10000^i=B at*
  have e1:IntKind.i64.wrap (10000*(A:Int))=10000*(A:Int):=wrap_i64 (by omega) (by omega)
  have e2:IntKind.i64.wrap (10000*(A:Int)+((B % 10000:Nat):Int))=(B:Int):=by rw[wrap_i64 (by omega) (by omega)];omega
  have e3:IntKind.i64.wrap ((i:Int) - 1)=(i:Int) - 1:=wrap_i64 (by omega) (by omega)
  have hiT:i<(td R).length:=by omega
  clear hs hle
  (repeat((first|refine step_w1 rfl rfl ?_|refine g_o (op_loadA rfl (ev_ok rfl) (tgt rfl) rfl (Nat.succ_ne_zero _) rfl) ?_|refine g_o (op_indexN (α:=Int) (d:=0) rfl (ev_ok rfl) (ev_ok rfl) (tgt rfl) rfl (tgt rfl) rfl (by omega)) ?_|rw[t1]|rw[hg]|rw[e1]|rw[e2]|rw[e3]);conv=>whnf))
  exact⟨i - F,fun k=>k,[0,1,5,6],[],by omega,by kernel_rfl,i,rfl,by omega,by omega,by rw[hB];rfl,rfl⟩
 ·have t1:decide ((j:Int) - 1≥(F:Int))=false:=decide_eq_false (by omega)
  have e:R/10000^F=R/10000^j:=by
   rcases hjF with h|h
   ·rw[show j=F by omega]
   ·rw[h,Nat.div_eq_of_lt (tlt_len R),Nat.div_eq_of_lt (td_lt_pow (by omega))]
  rw[e]
  (repeat(first|(refine step_w2 rfl rfl ?_;conv=>whnf)|(rw[t1];conv=>whnf)));(first|exact Recast.refl _|exact Frz.recast (Recast.refl _) rfl|(refine Frz.one rfl rfl ?_;skip)|(refine Frz.tup ?_;skip))
theorem r_leadingM (L:List Int) (R F:Nat) (hL:L.take (td R).length=td R) (hLl:(td R).length≤L.length) (hR:(td R).length<1099511627776) (hF:F<1099511627776) (hb:R/10000^F<100000000000000000) (K:Nat) (wr:Bool):
  CallOK Tryz.prog 101 [.slc K 1 0 (td R).length,.val (.int .i64 (F:Nat))] [(K,⟨3,wr,.ints .i64 L⟩)] (.val (.int .i64 ((R/10000^F:Nat):Int))) [] []:=by
 have e0:IntKind.i64.wrap (((td R).length:Int) - 1)=((td R).length:Int) - 1:=wrap_i64 (by omega) (by omega)
 have hLg:∀i,i<(td R).length→L.getD i 0=((R/10000^i % 10000:Nat):Int):=fun i hi=>by rw[←td_get,←hL,getD_take,if_pos hi]
 refine CallOK.anyWr ?_
 refine callK (Z:=[]) tabOK mixedOK Tryz.func101 rfl (by kernel_rfl) (args:=[.slc 1001 1 0 (td R).length,.val (.int .i64 (F:Nat))]) (fk:=[(1001,⟨3,false,.ints .i64 L⟩)]) (c:=.val (.int .i64 ((R/10000^F:Nat):Int))) (new:=[]) (upd:=[]) (ShapeOK.of rfl rfl rfl rfl rfl rfl rfl rfl rfl rfl rfl) rfl (fun _=>K) (NamesOK.ro rfl) ?_
 intro W0 w0 ρ0 hE
 conv=>whnf
 (repeat(first|(rw[e0];conv=>whnf)))
 refine SW_loopN hE (fun k=>k) [0,1,5,6] [1001] (fun q fr hp=>∃j:Nat,q=j - F∧j≤(td R).length∧(F≤j∨j=(td R).length)∧fr=[(0,.slc 1001 1 0 (td R).length),(1,.val (.int .i64 (F:Nat))),(5,.val (.int .i64 ((R/10000^j:Nat):Int))),(6,.val (.int .i64 ((j:Int) - 1)))]∧hp=[(1001,⟨3,false,.ints .i64 L⟩)]) ((td R).length - F) ?_ ?_ ?_
 ·kernel_rfl
 ·exact⟨(td R).length,rfl,Nat.le_refl _,.inr rfl,by rw[Nat.div_eq_of_lt (tlt_len R)];rfl,rfl⟩
 rintro q _ _ ⟨j,rfl,hj,hjF,rfl,rfl⟩
 conv=>whnf
 by_cases hgo:F<j
 ·obtain⟨i,rfl⟩:∃i,j=i+1:=⟨j - 1,by omega⟩
  have ei:(((i+1:Nat):Int) - 1)=(i:Int):=by omega
  rw[ei]
  have hs:=div_pow_step R i
  have hle:R/10000^i≤R/10000^F:=Nat.div_le_div_left (Nat.pow_le_pow_right (by decide) (by omega)) (Nat.pow_pos (by decide))
  have hg:=hLg i (by omega)
  have t1:decide ((i:Int)≥(F:Int))=true:=decide_eq_true (by omega)
  generalize hA:R/10000^(i+1)=A at*
  generalize hB:R/10000^i=B at*
  have e1:IntKind.i64.wrap (10000*(A:Int))=10000*(A:Int):=wrap_i64 (by omega) (by omega)
  have e2:IntKind.i64.wrap (10000*(A:Int)+((B % 10000:Nat):Int))=(B:Int):=by rw[wrap_i64 (by omega) (by omega)];omega
  have e3:IntKind.i64.wrap ((i:Int) - 1)=(i:Int) - 1:=wrap_i64 (by omega) (by omega)
  have hiT:i<(td R).length:=by omega
  clear hs hle
  (repeat((first|refine step_w1 rfl rfl ?_|refine step_oL (by first|omega|decide|(simp only[tl0,dlen,List.length_replicate,List.length_set,List.length_map,List.length_zipWith,List.length_take,List.length_append,List.length_cons,List.length_nil];omega)) ?_|refine step_oA (by first|omega|decide|(simp only[tl0,dlen,List.length_replicate,List.length_set,List.length_map,List.length_zipWith,List.length_take,List.length_append,List.length_cons,List.length_nil];omega)) ?_|rw[t1]|rw[hg]|rw[e1]|rw[e2]|rw[e3]|rw[Int.toNat_natCast]|rw[Nat.zero_add]);conv=>whnf))
  exact⟨i - F,fun k=>k,[0,1,5,6],[1001],by omega,by kernel_rfl,i,rfl,by omega,by omega,by rw[hB];rfl,rfl⟩
 ·have t1:decide ((j:Int) - 1≥(F:Int))=false:=decide_eq_false (by omega)
  have e:R/10000^F=R/10000^j:=by
   rcases hjF with h|h
   ·rw[show j=F by omega]
   ·rw[h,Nat.div_eq_of_lt (tlt_len R),Nat.div_eq_of_lt (td_lt_pow (by omega))]
  rw[e]
  (repeat(first|(refine step_w2 rfl rfl ?_;conv=>whnf)|(rw[t1];conv=>whnf)))
  exact⟨Recast.refl _,(fun _ _ h=>by cases h),(fun _ _ h=>by cases h)⟩
section
variable {a b R d P F T lb:Nat}
theorem guess_lo {R b P T:Nat} (hb:0<b) (hP:0<P) (hT:b<(T+1)*P):R/P/(T+1)≤R/b:=by
 rw[Nat.le_div_iff_mul_le hb]
 have h1:R/P/(T+1)*(T+1)≤R/P:=Nat.div_mul_le_self _ _
 have h2:R/P*P≤R:=Nat.div_mul_le_self _ _
 have h3:R/P/(T+1)*b≤R/P/(T+1)*((T+1)*P):=Nat.mul_le_mul_left _ (Nat.le_of_lt hT)
 have h4:R/P/(T+1)*(T+1)*P≤R/P*P:=Nat.mul_le_mul_right P h1
 rw[Nat.mul_assoc]at h4
 omega
theorem guess_hi {R b P T:Nat} (hT0:0<T) (hP:0<P) (hT:T*P≤b):R/b≤R/P/T:=by
 rw[Nat.le_div_iff_mul_le hT0,Nat.le_div_iff_mul_le hP]
 have h1:R/b*b≤R:=Nat.div_mul_le_self _ _
 have h2:R/b*(T*P)≤R/b*b:=Nat.mul_le_mul_left _ hT
 rw[Nat.mul_assoc]
 omega
end
theorem step_div {A b d:Nat} (hb:0<b):(10000*A+d)/b=10000*(A/b)+(A % b*10000+d)/b:=by
 have h:10000*A+d=A % b*10000+d+b*(10000*(A/b)):=by
  have:=Nat.div_add_mod A b
  have e:b*(10000*(A/b))=10000*(b*(A/b)):=by rw[←Nat.mul_assoc,Nat.mul_comm b 10000,Nat.mul_assoc]
  omega
 rw[h,Nat.add_mul_div_left _ _ hb];omega
theorem step_mod {A b d:Nat}:(10000*A+d) % b=(A % b*10000+d) % b:=by
 have h:10000*A+d=A % b*10000+d+b*(10000*(A/b)):=by
  have:=Nat.div_add_mod A b
  have e:b*(10000*(A/b))=10000*(b*(A/b)):=by rw[←Nat.mul_assoc,Nat.mul_comm b 10000,Nat.mul_assoc]
  omega
 rw[h,Nat.add_mul_mod_self_left]
theorem digit_lt {r b d:Nat} (hb:0<b) (hr:r<b) (hd:d<10000):(r*10000+d)/b<10000:=by
 rw[Nat.div_lt_iff_lt_mul hb]
 have:(r+1)*10000≤b*10000:=Nat.mul_le_mul_right _ hr
 rw[Nat.add_mul]at this
 rw[Nat.mul_comm 10000 b];omega
theorem top_pos {b:Nat} (hb:0<b):0<b/10000^((td b).length - 3):=by
 refine Nat.div_pos (Nat.le_trans (Nat.pow_le_pow_right (by decide) (by omega)) (td_ge_pow (by omega))) (Nat.pow_pos (by decide))
theorem top_lt {b:Nat}:b/10000^((td b).length - 3)<1000000000000:=by
 rw[Nat.div_lt_iff_lt_mul (Nat.pow_pos (by decide)),show 1000000000000=10000^3 from rfl,←Nat.pow_add]
 exact td_lt_pow (by omega)
theorem td_cons {d R:Nat} (hd:d<10000) (h:R*10000+d≠0):td (R*10000+d)=(d:Int)::td R:=by
 rw[td_succ h,show(R*10000+d) % 10000=d by omega,show(R*10000+d)/10000=R by omega]
theorem td_drop:∀(k n:Nat),(td n).drop k=td (n/10000^k)
 |0,n=>by simp
 |k+1,n=>by
  by_cases h:n=0
  ·subst h;rw[td_zero,Nat.zero_div];rfl
  ·rw[td_succ h,List.drop_succ_cons,td_drop k,Nat.div_div_eq_div_mul,Nat.pow_succ,Nat.mul_comm]
theorem cut_cons {d R:Nat} (hd:d<10000):cutN ((d:Int)::td R) ((td R).length+1)=(td (R*10000+d)).length∧((d:Int)::td R).take (td (R*10000+d)).length=td (R*10000+d):=by
 by_cases h:R*10000+d=0
 ·obtain rfl:R=0:=by omega
  obtain rfl:d=0:=by omega
  exact⟨rfl,rfl⟩
 ·have e:=td_cons hd h
  have hl:(td (R*10000+d)).length=(td R).length+1:=by rw[e];rfl
  have ht:=(td_top h).2
  rw[hl,e,Nat.add_sub_cancel]at ht
  refine⟨?_, ?_⟩
  ·rw[hl,cutN,if_neg ht]
  ·rw[←e,List.take_length]
theorem wrap_nat {n:Nat} (h:n<9223372036854775808):IntKind.i64.wrap (n:Int)=n:=wrap_i64 (by omega) (by omega)
theorem r_Div (a b:Nat) (hb:0<b) (ha:(td a).length<268435456) (hbl:(td b).length<268435456):CallOK Tryz.prog 85 [nN a,nN b] [] (.tup [nN (a/b),nN (a % b)]) [] []:=by
 have k1:=r_Cmp a b (by omega) (by omega)
 by_cases hlt:a<b
 ·have t1:decide (((a:Int) - b).sign<0)=true:=decide_eq_true (by rw[Int.sign_eq_neg_one_of_neg (by omega)];omega)
  have e0:nN (a/b)=vecA 1 []:=by rw[Nat.div_eq_of_lt hlt];rfl
  have e1:nN (a % b)=nN a:=by rw[Nat.mod_eq_of_lt hlt]
  rw[e0,e1]
  refine callF (Z:=[]) tabOK mixedOK Tryz.func85 rfl (by kernel_rfl) (by first|rfl|(simp[keylessL,keyless,keylessL_map, *];done)) (by first|rfl|(simp[keylessL,keyless,keylessL_map, *];done)) (by kernel_rfl) rfl ?_
  intro w0 ρ0 hE
  conv=>whnf
  (repeat(first|(refine step_w1 rfl rfl ?_;conv=>whnf)|(refine g_c (by assumption) ?_;conv=>whnf)|(rw[t1];conv=>whnf)));(first|exact Recast.refl _|exact Frz.recast (Recast.refl _) rfl|(refine Frz.one rfl rfl ?_;skip)|(refine Frz.tup ?_;(repeat(first|exact FrzC.keyless rfl|exact FrzL.nil|refine FrzL.cons ?_ ?_|exact FrzC.nilS))))
 have t1:decide (((a:Int) - b).sign<0)=false:=decide_eq_false (by have:=Int.sign_nonneg_iff.2 (show 0≤(a:Int) - b by omega);omega)
 have hle:=td_len_mono (show b≤a by omega)
 have hlb0:0<(td b).length:=by have:=(td_len_zero (n:=b));omega
 have hT0:=top_pos hb
 have hT1:=top_lt (b:=b)
 have hPos:0<10000^((td b).length - 3):=Nat.pow_pos (by decide)
 have hTb:b/10000^((td b).length - 3)*10000^((td b).length - 3)≤b:=Nat.div_mul_le_self _ _
 have hbT:b<(b/10000^((td b).length - 3)+1)*10000^((td b).length - 3):=by rw[Nat.mul_comm];exact Nat.lt_mul_div_succ b hPos
 have k2:=r_leading b ((td b).length - 3) (by omega) (by omega) (by omega)
 generalize hF:(td b).length - 3=F at*
 generalize hT:b/10000^F=T at*
 have e1:IntKind.i64.wrap (((td b).length:Int) - 3)=((td b).length:Int) - 3:=wrap_i64 (by omega) (by omega)
 have e2:(if ((td b).length:Int) - 3>0 then((td b).length:Int) - 3 else 0)=(F:Int):=by split<;>omega
 generalize hD:(td a).length - (td b).length=D
 have e3:IntKind.i64.wrap (((td a).length:Int) - ((td b).length:Int))=(D:Int):=by rw[wrap_i64 (by omega) (by omega)];omega
 have e4:IntKind.i64.wrap ((D:Int)+1)=((D+1:Nat):Int):=by rw[wrap_i64 (by omega) (by omega)];omega
 have hA0:a/10000^(D+1)<b:=by
  have h1:=tlt_len a
  have h2:=td_ge_pow (n:=b) (by omega)
  rw[Nat.div_lt_iff_lt_mul (Nat.pow_pos (by decide))]
  refine Nat.lt_of_lt_of_le h1 (Nat.le_trans (m:=10000^((td b).length - 1)*10000^(D+1)) ?_ (Nat.mul_le_mul_right _ h2))
  rw[←Nat.pow_add]
  exact Nat.pow_le_pow_right (by decide) (by omega)
 have hdrop:((td a).drop (D+1)).take ((td a).length - (D+1))=td (a/10000^(D+1)):=by
  rw[td_drop,List.take_of_length_le]
  rw[←td_drop,List.length_drop];omega
 have wb:=td_w32 b
 refine callF (Z:=[]) tabOK mixedOK Tryz.func85 rfl (by kernel_rfl) (by first|rfl|(simp[keylessL,keyless,keylessL_map, *];done)) (by first|rfl|(simp[keylessL,keyless,keylessL_map, *];done)) (by kernel_rfl) rfl ?_
 intro w0 ρ0 hE
 conv=>whnf
 have hR0l:(td (a/10000^(D+1))).length<1099511627776:=by have:=td_len_mono (Nat.div_le_self a (10000^(D+1)));omega
 generalize hR0:a/10000^(D+1)=R0 at*
 (repeat(first|(refine step_w2 rfl rfl ?_;conv=>whnf)|(refine step_oA (by first|omega|decide|(simp only[tl0,dlen,List.length_replicate,List.length_set,List.length_map,List.length_zipWith,List.length_take,List.length_append,List.length_cons,List.length_nil];omega)) ?_;conv=>whnf)|(refine g_c (by assumption) ?_;conv=>whnf)|(refine g_o (op_lenM rfl rfl rfl (ev_ok rfl) (tgt rfl) rfl) ?_;conv=>whnf)|(refine g_o (op_sliceM rfl (ev_ok rfl) (bound_spec rfl) (bound_spec rfl) (.inl rfl) (tgt rfl) rfl (tgt rfl) rfl (by omega)) ?_;conv=>whnf)|(refine⟨.slc 40 1 0 (0+(td R0).length),[(35,⟨3,true,.ints .i64 []⟩)],[(40,⟨3,true,.ints .i64 (td R0)⟩)],[(35,⟨3,true,.dead⟩)],op_appendV rfl rfl rfl (ev_ok rfl) (ev_ok rfl) (rows_ints (td R0)) (tabOK.get (t:=61) rfl) rfl (tabOK.get (t:=61) rfl) rfl (tabOK.get (t:=3) rfl) (List.mem_cons_self ..) rfl rfl (by simp[dlen]) (by simp) (by simp[dlen]) (by simp[dapp]) (by show(0+_)*ti3.bytes≤_;simp only[tiB3];omega) (by omega),one_fk rfl,one_new rfl,one_upd (List.mem_cons_self ..) rfl rfl rfl, ?_⟩;conv=>whnf)|(rw[t1];conv=>whnf)|(rw[e1];conv=>whnf)|(rw[e2];conv=>whnf)|(rw[e3];conv=>whnf)|(rw[e4];conv=>whnf)|(rw[hdrop];conv=>whnf)|(rw[Int.toNat_natCast];conv=>whnf)|(rw[Nat.zero_add];conv=>whnf)))
 refine SWx_frzP 10 40 (fun _ h=>h) rfl rfl (Nat.le_refl _) (List.take_length) ?_
 have e5:((D+1:Nat):Int) - 1=(D:Int):=by omega
 refine SW_loopS hE (fun k=>k) [0,1,6,7,8,9,10] [34] (fun m fr hp=>∃Q:List Int,m≤D+1∧Q.length=D+1∧W4 Q∧(∀k,k<m→Q.getD k 0=0)∧valT Q (D+1)=((a/10000^m/b:Nat):Int)*10000^m∧
  fr=[(0,nN a),(1,nN b),(6,.val (.int .i64 (F:Nat))),(7,.val (.int .i64 (T:Nat))),(8,.val (.int .i64 ((m:Int) - 1))),(9,.slc 34 1 0 (D+1)),(10,nN (a/10000^m % b))]∧hp=[(34,zblk Q)]) (D+1) ?_ ?_ ?_
 ·kernel_rfl
 ·refine⟨List.replicate (D+1) 0,Nat.le_refl _,List.length_replicate,W4_of (fun x hx=>by rw[(List.mem_replicate.1 hx).2];omega),(fun k _=>getD_replicate), ?_, ?_,rfl⟩
  ·rw[valT_zeros (k:=0) (fun i _ _=>getD_replicate) (Nat.zero_le _),hR0,Nat.div_eq_of_lt hA0];simp[valT]
  ·rw[e5,hR0,Nat.mod_eq_of_lt hA0];rfl
 rintro m _ _ ⟨Q,hm,hQl,hQw,hQ0,hQv,rfl,rfl⟩
 by_cases h0:m=0
 ·subst h0
  rw[Nat.pow_zero,Nat.div_one,Int.pow_zero,Int.mul_one]at hQv
  have hz:nN (a/10000^0 % b)=nN (a % b):=by rw[Nat.pow_zero,Nat.div_one]
  rw[hz]
  have t2:decide (((0:Nat):Int) - 1≥0)=false:=rfl
  have kt:=r_trim Q (by omega) hQw
  rw[show(valT Q Q.length).toNat=a/b by rw[hQl,hQv];exact Int.toNat_natCast _]at kt
  refine SWx_frzI 9 34 (fun _ h=>h) rfl rfl hQl.symm ?_
  refine SWx.of hE ?_
  conv=>whnf
  (repeat(first|(refine step_w2 rfl rfl ?_;conv=>whnf)|(refine g_c (by assumption) ?_;conv=>whnf)));(first|exact Recast.refl _|exact Frz.recast (Recast.refl _) rfl|(refine Frz.one rfl rfl ?_;skip)|(refine Frz.tup ?_;skip))
 ·obtain⟨i,rfl⟩:∃i,m=i+1:=⟨m - 1,by omega⟩
  have ei:(((i+1:Nat):Int) - 1)=(i:Int):=by omega
  rw[ei]
  have hst:=div_pow_step a i
  have hdig:(td a).getD i 0=((a/10000^i % 10000:Nat):Int):=td_get a i
  have hdlt:a/10000^i % 10000<10000:=Nat.mod_lt _ (by decide)
  have hia:i<(td a).length:=by omega
  have hAle:=td_len_mono (Nat.le_trans (Nat.mod_le (a/10000^(i+1)) b) (Nat.div_le_self a _))
  have hq1:=hQv
  have hfin:((a/10000^i/b:Nat):Int)=10000*((a/10000^(i+1)/b:Nat):Int)+(((a/10000^(i+1) % b*10000+a/10000^i % 10000)/b:Nat):Int):=by
   rw[hst,step_div hb]
   have:(10000*(a/10000^(i+1))+a/10000^i % 10000) % 10000=a/10000^i % 10000:=by rw[←hst]
   rw[this];omega
  have hfinr:a/10000^i % b=(a/10000^(i+1) % b*10000+a/10000^i % 10000) % b:=by
   have h:=step_mod (A:=a/10000^(i+1)) (b:=b) (d:=a/10000^i % 10000)
   rw[←hst]at h;exact h
  have hRb:a/10000^(i+1) % b<b:=Nat.mod_lt _ hb
  clear hst
  generalize hd:a/10000^i % 10000=d at*
  generalize hR:a/10000^(i+1) % b=R at*
  obtain⟨hc1,hc2⟩:=cut_cons (R:=R) hdlt
  have hR'l:(td (R*10000+d)).length≤(td R).length+1:=tlen_le (by have:=tlt_len R;rw[Nat.pow_succ];omega)
  have hqlt:=digit_lt (d:=d) hb hRb hdlt
  have hR'b:(td (R*10000+d)).length≤(td b).length+1:=tlen_le (by have:=tlt_len b;rw[Nat.pow_succ];omega)
  have kt:=r_trimM ((d:Int)::td R) (1+(td R).length) (by rw[List.length_cons];omega) (by rw[List.length_cons];omega) 51 true
  rw[Nat.add_comm 1,hc1,Nat.add_comm]at kt
  have hfst:(R*10000+d)/10000^F<10000^4:=by
   rw[Nat.div_lt_iff_lt_mul (Nat.pow_pos (by decide)),←Nat.pow_add]
   exact td_lt_pow (by omega)
  have kl:=r_leadingM ((d:Int)::td R) (R*10000+d) F hc2 (by rw[List.length_cons];omega) (by omega) (by omega) (by omega) 51 true
  have glo:=guess_lo (R:=R*10000+d) hb hPos hbT
  have ghi:=guess_hi (R:=R*10000+d) hT0 hPos hTb
  have hsub:R*10000+d - b*((R*10000+d)/b)=a/10000^i % b:=by
   rw[hfinr];have:=Nat.div_add_mod (R*10000+d) b;omega
  have hmulle:b*((R*10000+d)/b)≤R*10000+d:=Nat.mul_div_le _ _
  have hqle:∀x,b*x≤R*10000+d↔x≤(R*10000+d)/b:=fun x=>by rw[Nat.le_div_iff_mul_le hb,Nat.mul_comm]
  generalize hR':R*10000+d=R' at*
  generalize hfe:R'/10000^F=fst at*
  generalize hqd:R'/b=qd at*
  have e6:IntKind.i64.wrap ((T:Int)+1)=((T+1:Nat):Int):=by rw[wrap_i64 (by omega) (by omega)];omega
  have e7:IntKind.i64.wrap ((fst:Int).tdiv ((T+1:Nat):Int))=((fst/(T+1):Nat):Int):=by
   rw[Int.tdiv_eq_ediv_of_nonneg (by omega),←Int.natCast_ediv]
   exact wrap_nat (Nat.lt_of_le_of_lt (Nat.div_le_self fst (T+1)) (by omega))
  have e8:IntKind.i64.wrap ((fst:Int).tdiv (T:Int))=((fst/T:Nat):Int):=by
   rw[Int.tdiv_eq_ediv_of_nonneg (by omega),←Int.natCast_ediv]
   exact wrap_nat (Nat.lt_of_le_of_lt (Nat.div_le_self fst T) (by omega))
  have e9:(if (9999:Int)<((fst/T:Nat):Int)then(9999:Int)else((fst/T:Nat):Int))=((min (fst/T) 9999:Nat):Int):=by split<;>omega
  have t2:decide ((i:Int)≥0)=true:=decide_eq_true (by omega)
  have hRl:(td R).length<1099511627776:=by omega
  refine SWx.of hE ?_
  conv=>whnf
  (repeat(first|(refine step_w1 rfl rfl ?_;conv=>whnf)|(refine step_i (by kernel_rfl) ?_;conv=>whnf)|(refine step_oN (by first|omega|decide|(simp only[tl0,dlen,List.length_replicate,List.length_set,List.length_map,List.length_zipWith,List.length_take,List.length_append,List.length_cons,List.length_nil];omega)) ?_;conv=>whnf)|(refine g_c1 (by assumption) rfl ?_;conv=>whnf)|(refine g_o (op_loadA rfl (ev_ok rfl) (tgt rfl) rfl (Nat.succ_ne_zero _) rfl) ?_;conv=>whnf)|(refine g_o (op_indexN (α:=Int) (d:=0) rfl (ev_ok rfl) (ev_ok rfl) (tgt rfl) rfl (tgt rfl) rfl (by omega)) ?_;conv=>whnf)|(refine⟨.slc 51 1 0 (1+(td R).length),[(49,⟨3,true,.ints .i64 [(d:Int)]⟩)],[(51,⟨3,true,.ints .i64 ((d:Int)::td R)⟩)],[(49,⟨3,true,.dead⟩)],op_appendV rfl rfl rfl (ev_ok rfl) (ev_ok rfl) (rows_ints (td R)) (tabOK.get (t:=61) rfl) rfl (tabOK.get (t:=61) rfl) rfl (tabOK.get (t:=3) rfl) (List.mem_cons_self ..) rfl rfl (by simp[dlen]) (by simp) (by simp[dlen]) (by simp[dapp]) (by show(1+_)*ti3.bytes≤_;simp only[tiB3];omega) (by omega),one_fk rfl,one_new rfl,one_upd (List.mem_cons_self ..) rfl rfl rfl, ?_⟩;conv=>whnf)|(rw[t2];conv=>whnf)|(rw[hdig];conv=>whnf)|(rw[e6];conv=>whnf)|(rw[e7];conv=>whnf)|(rw[e8];conv=>whnf)|(rw[e9];conv=>whnf)))
  refine SWx_frzP 10 51 (fun _ h=>h) rfl rfl (by rw[List.length_cons];omega) hc2 ?_
  have hmin1:fst/(T+1)≤qd:=glo
  have hmin2:qd≤min (fst/T) 9999:=by omega
  have hmin3:min (fst/T) 9999≤9999:=Nat.min_le_right _ _
  clear kl kt hc1 hc2 glo ghi hbT hTb e9 e8 e7 e6 hfst
  generalize fst/(T+1)=lo0 at*
  generalize min (fst/T) 9999=hi0 at*
  refine SW_loopN hE (fun k=>k) [0,1,6,7,8,9,10,12,13] [34] (fun q fr hp=>∃lo hi:Nat,q=hi - lo∧lo≤qd∧qd≤hi∧hi≤9999∧
   fr=[(0,nN a),(1,nN b),(6,.val (.int .i64 (F:Nat))),(7,.val (.int .i64 (T:Nat))),(8,.val (.int .i64 (i:Nat))),(9,.slc 34 1 0 (D+1)),(10,nN R'),(12,.val (.int .i64 (lo:Nat))),(13,.val (.int .i64 (hi:Nat)))]∧hp=[(34,zblk Q)]) (hi0 - lo0) ?_ ?_ ?_
  ·kernel_rfl
  ·exact⟨lo0,hi0,rfl,hmin1,hmin2,hmin3,rfl,rfl⟩
  rintro q _ _ ⟨lo,hi,rfl,hlo,hhi,hhi2,rfl,rfl⟩
  conv=>whnf
  by_cases hl:lo<hi
  ·have t3:decide ((lo:Int)<(hi:Int))=true:=decide_eq_true (by omega)
   have e10:IntKind.i64.wrap ((lo:Int)+(hi:Int))=((lo+hi:Nat):Int):=by rw[wrap_i64 (by omega) (by omega)];omega
   have e11:IntKind.i64.wrap (((lo+hi:Nat):Int)+1)=((lo+hi+1:Nat):Int):=by rw[wrap_i64 (by omega) (by omega)];omega
   have e12:IntKind.i64.wrap (((lo+hi+1:Nat):Int).tdiv 2)=(((lo+hi+1)/2:Nat):Int):=by
    rw[Int.tdiv_eq_ediv_of_nonneg (by omega)]
    exact wrap_i64 (by omega) (by omega)
   have e12':(((lo+hi+1:Nat):Int).tdiv 2)=(((lo+hi+1)/2:Nat):Int):=by rw[Int.tdiv_eq_ediv_of_nonneg (by omega)];rfl
   have hmid:lo<(lo+hi+1)/2∧(lo+hi+1)/2≤hi:=by omega
   generalize (lo+hi+1)/2=mid at*
   have e13:IntKind.u64.wrap (mid:Int)=(mid:Int):=wrap_u64 (by omega) (by omega)
   have hbm:(td (b*mid)).length≤(td b).length+1:=tlen_le (by
    have h1:=tlt_len b
    have h2:b*mid≤b*10000:=Nat.mul_le_mul_left _ (by omega)
    rw[Nat.pow_succ];omega)
   have hml:(td mid).length≤1:=tlen_le (by omega)
   have o1:=r_Of mid (by omega)
   have o2:=r_Mul b mid (by omega) (by omega)
   have o3:=r_Cmp (b*mid) R' (by omega) (by omega)
   by_cases hc:b*mid≤R'
   ·have t4:decide ((((b*mid:Nat):Int) - R').sign≤0)=true:=decide_eq_true (by
     have:=Int.sign_nonpos_iff.2 (show((b*mid:Nat):Int) - R'≤0 by omega);omega)
    have:=(hqle mid).1 hc
    (repeat((first|refine step_w1 rfl rfl ?_|refine step_oN (by first|omega|decide|(simp only[tl0,dlen,List.length_replicate,List.length_set,List.length_map,List.length_zipWith,List.length_take,List.length_append,List.length_cons,List.length_nil];omega)) ?_|refine g_c (by assumption) ?_|rw[t3]|rw[e10]|rw[e11]|rw[e12]|rw[e13]|rw[t4]);conv=>whnf))
    exact⟨hi - mid,fun k=>k,[0,1,6,7,8,9,10,12,13],[34],by omega,by kernel_rfl,mid,hi,rfl,this,hhi,hhi2,rfl,rfl⟩
   ·have t4:decide ((((b*mid:Nat):Int) - R').sign≤0)=false:=decide_eq_false (by
     rw[Int.sign_eq_one_of_pos (show 0<((b*mid:Nat):Int) - R' by omega)];omega)
    have:¬mid≤qd:=fun h=>hc ((hqle mid).2 h)
    have e14:IntKind.i64.wrap ((mid:Int) - 1)=((mid - 1:Nat):Int):=by rw[wrap_i64 (by omega) (by omega)];omega
    (repeat((first|refine step_w1 rfl rfl ?_|refine step_w2 rfl rfl ?_|refine step_oN (by first|omega|decide|(simp only[tl0,dlen,List.length_replicate,List.length_set,List.length_map,List.length_zipWith,List.length_take,List.length_append,List.length_cons,List.length_nil];omega)) ?_|refine g_c (by assumption) ?_|rw[t3]|rw[e10]|rw[e11]|rw[e12]|rw[e13]|rw[t4]|rw[e14]);conv=>whnf))
    exact⟨mid - 1 - lo,fun k=>k,[0,1,6,7,8,9,10,12,13],[34],by omega,by kernel_rfl,lo,mid - 1,rfl,hlo,by omega,by omega,rfl,rfl⟩
  ·have t3:decide ((lo:Int)<(hi:Int))=false:=decide_eq_false (by omega)
   obtain rfl:lo=qd:=by omega
   have e13:IntKind.u64.wrap (lo:Int)=(lo:Int):=wrap_u64 (by omega) (by omega)
   have e14:IntKind.i64.wrap ((i:Int) - 1)=(i:Int) - 1:=wrap_i64 (by omega) (by omega)
   have hbm:(td (b*lo)).length≤(td b).length+1:=tlen_le (by
    have h1:=tlt_len b
    have h2:b*lo≤b*10000:=Nat.mul_le_mul_left _ (by omega)
    rw[Nat.pow_succ];omega)
   have hml:(td lo).length≤1:=tlen_le (by omega)
   have o1:=r_Of lo (by omega)
   have o2:=r_Mul b lo (by omega) (by omega)
   have o3:=r_Sub R' (b*lo) hmulle (by omega)
   rw[hsub]at o3
   have hiQ:i<Q.length:=by omega
   have hQs:(Q.set i (lo:Int)).length=D+1:=by rw[List.length_set];exact hQl
   have hQw2:=hQw.set (i:=i) (show(0:Int)≤lo by omega) (by omega)
   have hQ02:∀k,k<i→(Q.set i (lo:Int)).getD k 0=0:=fun k hk=>by rw[getD_set,if_neg (by omega)];exact hQ0 k (by omega)
   have hQv2:valT (Q.set i (lo:Int)) (D+1)=((a/10000^i/b:Nat):Int)*10000^i:=by
    rw[valT_set (by omega) hiQ,hQ0 i (by omega),hQv,hfin,Int.pow_succ];grind
   (repeat((first|refine step_w2 rfl rfl ?_|refine step_oL (by first|omega|decide|(simp only[tl0,dlen,List.length_replicate,List.length_set,List.length_map,List.length_zipWith,List.length_take,List.length_append,List.length_cons,List.length_nil];omega)) ?_|refine step_oA (by first|omega|decide|(simp only[tl0,dlen,List.length_replicate,List.length_set,List.length_map,List.length_zipWith,List.length_take,List.length_append,List.length_cons,List.length_nil];omega)) ?_|refine g_c (by assumption) ?_|rw[t3]|rw[show 0+(i:Int).toNat=i from by omega]|rw[e13]|rw[e14]);conv=>whnf))
   exact⟨i,fun k=>k,[0,1,6,7,8,9,10],[34],by omega,by kernel_rfl,Q.set i (lo:Int),by omega,hQs,hQw2,hQ02,hQv2,rfl,rfl⟩
theorem td_lt_len {a b:Nat} (h:a≤b) {M:Nat} (hb:(td b).length<M):(td a).length<M:=Nat.lt_of_le_of_lt (td_len_mono h) hb
theorem r_Gcd (a b:Nat) (ha:(td a).length<268435456) (hb:(td b).length<268435456):CallOK Tryz.prog 84 [nN a,nN b] [] (nN (Nat.gcd a b)) [] []:=by
 refine callV (Z:=[]) tabOK mixedOK Tryz.func84 rfl (by kernel_rfl) rfl rfl (by kernel_rfl) rfl ?_
 intro W0 w0 ρ0 hE
 conv=>whnf
 skip
 refine SW_loopN hE (fun k=>k) [0,1] [] (fun q fr hp=>∃x y:Nat,q=y∧Nat.gcd x y=Nat.gcd a b∧(td x).length<268435456∧(td y).length<268435456∧fr=[(0,nN x),(1,nN y)]∧hp=[]) b ?_ ?_ ?_
 ·kernel_rfl
 ·exact⟨a,b,rfl,rfl,ha,hb,rfl,rfl⟩
 rintro q _ _ ⟨x,y,rfl,hg,hx,hy,rfl,rfl⟩
 conv=>whnf
 by_cases h0:0<q
 ·have t1:decide (((td q).length:Int)>0)=true:=decide_eq_true (by have:=td_len_zero (n:=q);omega)
  have k1:=r_Div x q h0 hx hy
  have hlt:=Nat.mod_lt x h0
  (repeat((first|refine step_w1 rfl rfl ?_|refine g_c (by assumption) ?_|refine g_o (op_lenM rfl rfl rfl (ev_ok rfl) (tgt rfl) rfl) ?_|rw[t1]);conv=>whnf))
  exact⟨x % q,fun k=>k,[0,1],[],hlt,by kernel_rfl,q,x % q,rfl,by rw[←hg,Nat.gcd_comm x q,Nat.gcd_rec q x];exact Nat.gcd_comm _ _,hy,td_lt_len (Nat.le_of_lt hlt) hy,rfl,rfl⟩
 ·obtain rfl:q=0:=by omega
  rw[Nat.gcd_zero_right]at hg
  subst hg
  have t1:decide (((td 0).length:Int)>0)=false:=rfl
  (repeat(first|(refine step_w2 rfl rfl ?_;conv=>whnf)|(refine g_o (op_lenM rfl rfl rfl (ev_ok rfl) (tgt rfl) rfl) ?_;conv=>whnf)));(first|exact Recast.refl _|exact Frz.recast (Recast.refl _) rfl|(refine Frz.one rfl rfl ?_;skip)|(refine Frz.tup ?_;skip))
end Go.Proofs.YtjofnbpcanhfhaaGreatDoor
namespace Go.Proofs.YtjofnbpcanhfhaaGreatDoor
open Go.Sx
set_option linter.unusedSimpArgs false
set_option linter.unusedVariables false
set_option maxRecDepth 100000
set_option maxHeartbeats 4000000
abbrev zZ (z:Int):SV:=.agg [.val (.bool (decide (z<0))),nN z.natAbs]
abbrev fF (q:Rat):SV:=.agg [zZ q.num,nN (q.den - 1)]
theorem tl_sz {n M:Nat} (h:sz n≤M):(td n).length≤M:=tlen_le (Nat.lt_of_lt_of_le (sz_le.1 h) (Nat.pow_le_pow_left (by decide) M))
theorem r2_From (neg:Bool) (n:Nat) (hn:(td n).length<1099511627776):CallOK Tryz.prog 54 [.val (.bool neg),nN n] [] (zZ (signed neg n)) [] []:=by
 refine callV (Z:=[]) tabOK mixedOK Tryz.func54 rfl (by kernel_rfl) rfl rfl (by kernel_rfl) rfl ?_
 intro W0 w0 ρ0 hE
 conv=>whnf
 cases neg with
 |false=>
  have e:zZ (signed false n)= .agg [.val (.bool false),nN n]:=by
   have h:¬(signed false n<0):=by show ¬((n:Int)<0);omega
   rw[zZ,decide_eq_false h,signed_abs]
  rw[e]
  (repeat(first|(refine step_w2 rfl rfl ?_;conv=>whnf)|(refine g_o (op_pickF rfl (ev_ok rfl) (ev_ok rfl)) ?_;conv=>whnf)))
  exact Recast.refl _
 |true=>
  by_cases h0:0<n
  ·have t1:decide (((td n).length:Int)>0)=true:=decide_eq_true (by have:=td_len_zero (n:=n);omega)
   have e:zZ (signed true n)= .agg [.val (.bool true),nN n]:=by
    have h:signed true n<0:=by show -(n:Int)<0;omega
    rw[zZ,decide_eq_true h,signed_abs]
   rw[e]
   (repeat((first|refine step_w1 rfl rfl ?_|refine g_o (op_pickT rfl (ev_ok rfl) (ev_ok rfl)) ?_|refine g_o (op_lenM rfl rfl rfl (ev_ok rfl) (tgt rfl) rfl) ?_|rw[t1]);conv=>whnf))
   exact Recast.refl _
  ·obtain rfl:n=0:=by omega
   have t1:decide (((td 0).length:Int)>0)=false:=rfl
   have e:zZ (signed true 0)= .agg [.val (.bool false),nN 0]:=rfl
   rw[e]
   (repeat((first|refine step_w1 rfl rfl ?_|refine g_o (op_pickT rfl (ev_ok rfl) (ev_ok rfl)) ?_|refine g_o (op_lenM rfl rfl rfl (ev_ok rfl) (tgt rfl) rfl) ?_|rw[t1]);conv=>whnf))
   exact Recast.refl _
theorem r2_From' {neg:Bool} {n:Nat} {z:Int} (hz:signed neg n=z) (hn:(td n).length<1099511627776):CallOK Tryz.prog 54 [.val (.bool neg),nN n] [] (zZ z) [] []:=by
 rw[←hz];exact r2_From neg n hn
theorem r2_Sign (z:Int) (hz:(td z.natAbs).length<1099511627776):CallOK Tryz.prog 73 [zZ z] [] (.val (.int .i64 z.sign)) [] []:=by
 refine callV (Z:=[1]) tabOK mixedOK Tryz.func73 rfl (by kernel_rfl) rfl rfl (by kernel_rfl) rfl ?_
 intro W0 w0 ρ0 hE
 conv=>whnf
 by_cases h0:z=0
 ·subst h0
  have t1:(((td (Int.natAbs 0)).length:Int)==0)=true:=rfl
  (repeat((first|refine step_w1 rfl rfl ?_|refine g_o (op_lenM rfl rfl rfl (ev_ok rfl) (tgt rfl) rfl) ?_|refine g_o (op_loadA rfl (ev_ok rfl) (tgt rfl) rfl (Nat.succ_ne_zero _) rfl) ?_|refine g_o (op_fieldA rfl (ev_ok rfl) (tgt rfl) rfl rfl (Nat.succ_ne_zero _) rfl) ?_);conv=>whnf));(first|exact Recast.refl _|exact Frz.recast (Recast.refl _) rfl|(refine Frz.one rfl rfl ?_;skip)|(refine Frz.tup ?_;skip))
 ·have t1:(((td z.natAbs).length:Int)==0)=false:=beq_false_of_ne (by have:=td_len_zero (n:=z.natAbs);omega)
  by_cases hn:z<0
  ·have t2:decide (z<0)=true:=decide_eq_true hn
   rw[Int.sign_eq_neg_one_of_neg hn]
   (repeat((first|refine step_w1 rfl rfl ?_|refine step_w2 rfl rfl ?_|refine g_o (op_lenM rfl rfl rfl (ev_ok rfl) (tgt rfl) rfl) ?_|refine g_o (op_loadA rfl (ev_ok rfl) (tgt rfl) rfl (Nat.succ_ne_zero _) rfl) ?_|refine g_o (op_fieldA rfl (ev_ok rfl) (tgt rfl) rfl rfl (Nat.succ_ne_zero _) rfl) ?_|rw[t1]|rw[t2]);conv=>whnf));(first|exact Recast.refl _|exact Frz.recast (Recast.refl _) rfl|(refine Frz.one rfl rfl ?_;skip)|(refine Frz.tup ?_;skip))
  ·have t2:decide (z<0)=false:=decide_eq_false hn
   rw[Int.sign_eq_one_of_pos (by omega)]
   (repeat((first|refine step_w2 rfl rfl ?_|refine g_o (op_lenM rfl rfl rfl (ev_ok rfl) (tgt rfl) rfl) ?_|refine g_o (op_loadA rfl (ev_ok rfl) (tgt rfl) rfl (Nat.succ_ne_zero _) rfl) ?_|refine g_o (op_fieldA rfl (ev_ok rfl) (tgt rfl) rfl rfl (Nat.succ_ne_zero _) rfl) ?_|rw[t1]|rw[t2]);conv=>whnf));(first|exact Recast.refl _|exact Frz.recast (Recast.refl _) rfl|(refine Frz.one rfl rfl ?_;skip)|(refine Frz.tup ?_;skip))
theorem r2_Neg (z:Int) (hz:(td z.natAbs).length<1099511627776):CallOK Tryz.prog 97 [zZ z] [] (zZ (-z)) [] []:=by
 have k1:=r2_From' (neg:= !decide (z<0)) (n:=z.natAbs) (z:= -z) (by by_cases h:z<0<;>simp[signed,h]<;>omega) hz
 refine callV (Z:=[1]) tabOK mixedOK Tryz.func97 rfl (by kernel_rfl) rfl rfl (by kernel_rfl) rfl ?_
 intro W0 w0 ρ0 hE
 conv=>whnf
 (repeat(first|(refine g_c (by assumption) ?_;conv=>whnf)|(refine g_o (op_loadA rfl (ev_ok rfl) (tgt rfl) rfl (Nat.succ_ne_zero _) rfl) ?_;conv=>whnf)|(refine g_o (op_fieldA rfl (ev_ok rfl) (tgt rfl) rfl rfl (Nat.succ_ne_zero _) rfl) ?_;conv=>whnf)))
 exact Recast.refl _
theorem r2_Add (a b:Int) (ha:(td a.natAbs).length<536870912) (hb:(td b.natAbs).length<536870912):CallOK Tryz.prog 57 [zZ a,zZ b] [] (zZ (a+b)) [] []:=by
 refine callV (Z:=[2,3]) tabOK mixedOK Tryz.func57 rfl (by kernel_rfl) rfl rfl (by kernel_rfl) rfl ?_
 intro W0 w0 ρ0 hE
 conv=>whnf
 by_cases hs:a<0↔b<0
 ·have t1:(decide (a<0)==decide (b<0))=true:=by rw[decide_eq_decide.2 hs];exact beq_self_eq_true _
  have k1:=r_Add a.natAbs b.natAbs (by omega) (by omega)
  have hl:(td (a.natAbs+b.natAbs)).length<1099511627776:=by
   have h1:(td (a.natAbs+b.natAbs)).length≤max ((td a.natAbs).length) ((td b.natAbs).length)+1:=tlen_le (by
    have h2:=td_lt_pow (n:=a.natAbs) (k:=max ((td a.natAbs).length) ((td b.natAbs).length)) (Nat.le_max_left _ _)
    have h3:=td_lt_pow (n:=b.natAbs) (k:=max ((td a.natAbs).length) ((td b.natAbs).length)) (Nat.le_max_right _ _)
    rw[Nat.pow_succ];omega)
   omega
  have k2:=r2_From' (neg:=decide (a<0)) (n:=a.natAbs+b.natAbs) (z:=a+b) (by unfold signed;by_cases h:a<0<;>simp[h]<;>omega) hl
  (repeat((first|refine step_w1 rfl rfl ?_|refine step_i (by kernel_rfl) ?_|refine g_c (by assumption) ?_|refine g_o (op_loadA rfl (ev_ok rfl) (tgt rfl) rfl (Nat.succ_ne_zero _) rfl) ?_|refine g_o (op_fieldA rfl (ev_ok rfl) (tgt rfl) rfl rfl (Nat.succ_ne_zero _) rfl) ?_|rw[t1]);conv=>whnf))
  exact Recast.refl _
 ·have t1:(decide (a<0)==decide (b<0))=false:=beq_false_of_ne (fun h=>hs (decide_eq_decide.1 h))
  have k1:=r_Cmp a.natAbs b.natAbs (by omega) (by omega)
  by_cases hab:b.natAbs≤a.natAbs
  ·have t2:decide (((a.natAbs:Int) - b.natAbs).sign≥0)=true:=decide_eq_true (by have:=Int.sign_nonneg_iff.2 (show 0≤(a.natAbs:Int) - b.natAbs by omega);omega)
   have k2:=r_Sub a.natAbs b.natAbs hab (by omega)
   have k3:=r2_From' (neg:=decide (a<0)) (n:=a.natAbs - b.natAbs) (z:=a+b) (by unfold signed;by_cases h:a<0<;>simp[h]<;>omega) (td_lt_len (Nat.sub_le _ b.natAbs) (by omega))
   (repeat((first|refine step_w1 rfl rfl ?_|refine step_w2 rfl rfl ?_|refine step_i (by kernel_rfl) ?_|refine g_c (by assumption) ?_|refine g_o (op_loadA rfl (ev_ok rfl) (tgt rfl) rfl (Nat.succ_ne_zero _) rfl) ?_|refine g_o (op_fieldA rfl (ev_ok rfl) (tgt rfl) rfl rfl (Nat.succ_ne_zero _) rfl) ?_|rw[t1]|rw[t2]);conv=>whnf))
   exact Recast.refl _
  ·have t2:decide (((a.natAbs:Int) - b.natAbs).sign≥0)=false:=decide_eq_false (by rw[Int.sign_eq_neg_one_of_neg (show(a.natAbs:Int) - b.natAbs<0 by omega)];omega)
   have k2:=r_Sub b.natAbs a.natAbs (by omega) (by omega)
   have k3:=r2_From' (neg:=decide (b<0)) (n:=b.natAbs - a.natAbs) (z:=a+b) (by unfold signed;by_cases h:b<0<;>simp[h]<;>omega) (td_lt_len (Nat.sub_le _ a.natAbs) (by omega))
   (repeat((first|refine step_w2 rfl rfl ?_|refine step_i (by kernel_rfl) ?_|refine g_c (by assumption) ?_|refine g_o (op_loadA rfl (ev_ok rfl) (tgt rfl) rfl (Nat.succ_ne_zero _) rfl) ?_|refine g_o (op_fieldA rfl (ev_ok rfl) (tgt rfl) rfl rfl (Nat.succ_ne_zero _) rfl) ?_|rw[t1]|rw[t2]);conv=>whnf))
   exact Recast.refl _
theorem tl_mul {a b:Nat}:(td (a*b)).length≤(td a).length+(td b).length:=tlen_le (by
 rcases Nat.eq_zero_or_pos b with h|h
 ·subst h;rw[Nat.mul_zero];exact Nat.pow_pos (by decide)
 ·rw[Nat.pow_add]
  exact Nat.lt_of_lt_of_le (Nat.mul_lt_mul_of_pos_right (tlt_len a) h) (Nat.mul_le_mul_left _ (Nat.le_of_lt (tlt_len b))))
theorem r2_Mul (a b:Int) (ha:(td a.natAbs).length<134217728) (hb:(td b.natAbs).length<134217728):CallOK Tryz.prog 75 [zZ a,zZ b] [] (zZ (a*b)) [] []:=by
 have k1:=r_Mul a.natAbs b.natAbs (by omega) (by omega)
 have k2:=r2_From' (signed_mul a b) (Nat.lt_of_le_of_lt tl_mul (by omega))
 refine callV (Z:=[2,3]) tabOK mixedOK Tryz.func75 rfl (by kernel_rfl) rfl rfl (by kernel_rfl) rfl ?_
 intro W0 w0 ρ0 hE
 conv=>whnf
 (repeat((first|refine step_i (by kernel_rfl) ?_|refine g_c (by assumption) ?_|refine g_o (op_loadA rfl (ev_ok rfl) (tgt rfl) rfl (Nat.succ_ne_zero _) rfl) ?_|refine g_o (op_fieldA rfl (ev_ok rfl) (tgt rfl) rfl rfl (Nat.succ_ne_zero _) rfl) ?_);conv=>whnf))
 exact Recast.refl _
theorem r2_Of (n:Int) (h0: -9223372036854775808≤n) (h1:n<9223372036854775808):CallOK Tryz.prog 44 [.val (.int .i64 n)] [] (zZ n) [] []:=by
 have k1:=r_Of n.natAbs (by omega)
 have hl:(td n.natAbs).length<1099511627776:=Nat.lt_of_le_of_lt (tlen_le (k:=5) (by omega)) (by decide)
 refine callV (Z:=[]) tabOK mixedOK Tryz.func44 rfl (by kernel_rfl) rfl rfl (by kernel_rfl) rfl ?_
 intro W0 w0 ρ0 hE
 conv=>whnf
 by_cases hn:n<0
 ·have t1:decide (n<0)=true:=decide_eq_true hn
  have e1:IntKind.i64.wrap (n+1)=n+1:=wrap_i64 (by omega) (by omega)
  have e2:IntKind.i64.wrap (0 - (n+1))= -(n+1):=by rw[Int.zero_sub];exact wrap_i64 (by omega) (by omega)
  have e3:IntKind.u64.wrap (-(n+1))= -(n+1):=wrap_u64 (by omega) (by omega)
  have e4:IntKind.u64.wrap (-(n+1)+1)=(n.natAbs:Int):=by rw[wrap_u64 (by omega) (by omega)];omega
  have k2:=r2_From' (neg:=true) (n:=n.natAbs) (z:=n) (by show -(n.natAbs:Int)=n;omega) hl
  have e:zZ n= .agg [.val (.bool true),nN n.natAbs]:=by rw[zZ,t1]
  rw[e]at*
  (repeat((first|refine step_w1 rfl rfl ?_|refine g_c (by assumption) ?_|rw[t1]|rw[e1]|rw[e2]|rw[e3]|rw[e4]);conv=>whnf))
  exact Recast.refl _
 ·have t1:decide (n<0)=false:=decide_eq_false hn
  have e1:IntKind.u64.wrap n=(n.natAbs:Int):=by rw[wrap_u64 (by omega) (by omega)];omega
  have k2:=r2_From' (neg:=false) (n:=n.natAbs) (z:=n) (by show(n.natAbs:Int)=n;omega) hl
  have e:zZ n= .agg [.val (.bool false),nN n.natAbs]:=by rw[zZ,t1]
  rw[e]at*
  (repeat((first|refine step_w2 rfl rfl ?_|refine g_c (by assumption) ?_|rw[t1]|rw[e1]);conv=>whnf))
  exact Recast.refl _
theorem r3_one:CallOK Tryz.prog 83 [] [] (nN 1) [] []:=by
 have k1:=r_Of 1 (by decide)
 refine callV (Z:=[]) tabOK mixedOK Tryz.func83 rfl (by kernel_rfl) rfl rfl (by kernel_rfl) rfl ?_
 intro W0 w0 ρ0 hE
 conv=>whnf
 (repeat(first|(refine g_c (by assumption) ?_;conv=>whnf)));(first|exact Recast.refl _|exact Frz.recast (Recast.refl _) rfl|(refine Frz.one rfl rfl ?_;skip)|(refine Frz.tup ?_;skip))
theorem r3_Den (q:Rat) (h:(td q.den).length<134217728):CallOK Tryz.prog 55 [fF q] [] (nN q.den) [] []:=by
 have k0:=r3_one
 have k1:=r_Add (q.den - 1) 1 (Nat.lt_of_le_of_lt (td_len_mono (Nat.sub_le q.den 1)) (by omega)) (by decide)
 rw[den_pred]at k1
 refine callV (Z:=[1]) tabOK mixedOK Tryz.func55 rfl (by kernel_rfl) rfl rfl (by kernel_rfl) rfl ?_
 intro W0 w0 ρ0 hE
 conv=>whnf
 (repeat((first|refine step_i (by kernel_rfl) ?_|refine g_c (by assumption) ?_|refine g_o (op_loadA rfl (ev_ok rfl) (tgt rfl) rfl (Nat.succ_ne_zero _) rfl) ?_|refine g_o (op_fieldA rfl (ev_ok rfl) (tgt rfl) rfl rfl (Nat.succ_ne_zero _) rfl) ?_);conv=>whnf));(first|exact Recast.refl _|exact Frz.recast (Recast.refl _) rfl|(refine Frz.one rfl rfl ?_;skip)|(refine Frz.tup ?_;skip))
theorem signed_num {n:Int} {d:Nat} (hd:d≠0):signed (decide (n<0)) (n.natAbs/Nat.gcd n.natAbs d)=(mkRat n d).num:=by
 rw[num_mkRat hd]
 have hdv:Nat.gcd n.natAbs d ∣ n.natAbs:=Nat.gcd_dvd_left _ _
 unfold signed
 by_cases hn:n<0
 ·rw[decide_eq_true hn,if_pos rfl]
  have:n= -(n.natAbs:Int):=by omega
  rw[Int.natCast_ediv,←Int.neg_ediv_of_dvd (Int.natCast_dvd_natCast.2 hdv),←this]
 ·rw[decide_eq_false hn]
  simp only[Bool.false_eq_true,if_false]
  have:n=(n.natAbs:Int):=by omega
  rw[Int.natCast_ediv,←this]
theorem r3_From (n:Int) (d:Nat) (hd:d≠0) (h1:(td n.natAbs).length<268435456) (h2:(td d).length<268435456):CallOK Tryz.prog 56 [zZ n,nN d] [] (fF (mkRat n d)) [] []:=by
 have hg:Nat.gcd n.natAbs d≠0:=fun h=>hd (Nat.gcd_eq_zero_iff.1 h).2
 have hgl:(td (Nat.gcd n.natAbs d)).length<268435456:=td_lt_len (Nat.le_of_dvd (by omega) (Nat.gcd_dvd_right _ _)) h2
 have hq:d/Nat.gcd n.natAbs d≠0:=Nat.div_ne_zero_iff.2 ⟨hg,Nat.le_of_dvd (by omega) (Nat.gcd_dvd_right _ _)⟩
 have k1:=r_Gcd n.natAbs d h1 h2
 have k2:=r_Div n.natAbs (Nat.gcd n.natAbs d) (by omega) h1 hgl
 have k3:=r_Div d (Nat.gcd n.natAbs d) (by omega) h2 hgl
 have k4:=r2_From' (signed_num (n:=n) hd) (td_lt_len (Nat.div_le_self _ _) (by omega))
 have k5:=r3_one
 have k6:CallOK Tryz.prog 86 [nN (d/Nat.gcd n.natAbs d),nN 1] [] (nN ((mkRat n d).den - 1)) [] []:=by
  rw[den_mkRat hd];exact r_Sub (d/Nat.gcd n.natAbs d) 1 (Nat.pos_of_ne_zero hq) (td_lt_len (Nat.div_le_self _ _) (by omega))
 refine callV (Z:=[2]) tabOK mixedOK Tryz.func56 rfl (by kernel_rfl) rfl rfl (by kernel_rfl) rfl ?_
 intro W0 w0 ρ0 hE
 conv=>whnf
 (repeat(first|(refine g_c (by assumption) ?_;conv=>whnf)|(refine g_o (op_loadA rfl (ev_ok rfl) (tgt rfl) rfl (Nat.succ_ne_zero _) rfl) ?_;conv=>whnf)|(refine g_o (op_fieldA rfl (ev_ok rfl) (tgt rfl) rfl rfl (Nat.succ_ne_zero _) rfl) ?_;conv=>whnf)))
 exact Recast.refl _
theorem tl_fs {q:Rat} {M:Nat} (h:fs q≤M):(td q.num.natAbs).length≤M∧(td q.den).length≤M:=by
 have h1:=fsz_num q;have h2:=fsz_den q
 unfold fs at h
 exact⟨tl_sz (by omega),tl_sz (by omega)⟩
end Go.Proofs.YtjofnbpcanhfhaaGreatDoor
namespace Go.Proofs.YtjofnbpcanhfhaaGreatDoor
open Go.Sx
set_option linter.unusedSimpArgs false
set_option linter.unusedVariables false
set_option maxRecDepth 100000
set_option maxHeartbeats 4000000
theorem r2_Sub (a b:Int) (ha:(td a.natAbs).length<536870912) (hb:(td b.natAbs).length<536870912):CallOK Tryz.prog 74 [zZ a,zZ b] [] (zZ (a - b)) [] []:=by
 have k1:=r2_Neg b (by omega)
 have k2:=r2_Add a (-b) ha (by rw[Int.natAbs_neg];exact hb)
 rw[←Int.sub_eq_add_neg]at k2
 refine callV (Z:=[2,3]) tabOK mixedOK Tryz.func74 rfl (by kernel_rfl) rfl rfl (by kernel_rfl) rfl ?_
 intro W0 w0 ρ0 hE
 conv=>whnf
 (repeat(first|(refine step_i (by kernel_rfl) ?_;conv=>whnf)|(refine g_c (by assumption) ?_;conv=>whnf)|(refine g_o (op_loadA rfl (ev_ok rfl) (tgt rfl) rfl (Nat.succ_ne_zero _) rfl) ?_;conv=>whnf)))
 exact Recast.refl _
theorem tl_sub {a b:Int} {k:Nat} (ha:(td a.natAbs).length≤k) (hb:(td b.natAbs).length≤k):(td (a - b).natAbs).length≤k+1:=tlen_le (by
 have h1:=td_lt_pow ha
 have h2:=td_lt_pow hb
 rw[Nat.pow_succ];omega)
theorem r2_Cmp (a b:Int) (ha:(td a.natAbs).length<536870912) (hb:(td b.natAbs).length<536870912):CallOK Tryz.prog 45 [zZ a,zZ b] [] (.val (.int .i64 (a - b).sign)) [] []:=by
 have k1:=r2_Sub a b ha hb
 have hl:=tl_sub (a:=a) (b:=b) (k:=536870911) (by omega) (by omega)
 have k2:=r2_Sign (a - b) (by omega)
 refine callV (Z:=[2,3]) tabOK mixedOK Tryz.func45 rfl (by kernel_rfl) rfl rfl (by kernel_rfl) rfl ?_
 intro W0 w0 ρ0 hE
 conv=>whnf
 (repeat(first|(refine g_c (by assumption) ?_;conv=>whnf)|(refine g_o (op_loadA rfl (ev_ok rfl) (tgt rfl) rfl (Nat.succ_ne_zero _) rfl) ?_;conv=>whnf)))
 exact Recast.refl _
theorem tdiv_signed (a b:Int):signed (decide (a<0) != decide (b<0)) (a.natAbs/b.natAbs)=a.tdiv b:=by
 cases a with
 |ofNat m=>cases b with
  |ofNat n=>
   have h1:¬(Int.ofNat m<0):=by show ¬((m:Int)<0);omega
   have h2:¬(Int.ofNat n<0):=by show ¬((n:Int)<0);omega
   simp only[decide_eq_false h1,decide_eq_false h2];rfl
  |negSucc n=>
   have h1:¬(Int.ofNat m<0):=by show ¬((m:Int)<0);omega
   have h2:Int.negSucc n<0:=Int.negSucc_lt_zero n
   simp only[decide_eq_false h1,decide_eq_true h2];rfl
 |negSucc m=>cases b with
  |ofNat n=>
   have h1:Int.negSucc m<0:=Int.negSucc_lt_zero m
   have h2:¬(Int.ofNat n<0):=by show ¬((n:Int)<0);omega
   simp only[decide_eq_true h1,decide_eq_false h2];rfl
  |negSucc n=>
   simp only[decide_eq_true (Int.negSucc_lt_zero m),decide_eq_true (Int.negSucc_lt_zero n)];rfl
theorem tmod_signed (a b:Int):signed (decide (a<0)) (a.natAbs % b.natAbs)=a.tmod b:=by
 cases a with
 |ofNat m=>
  have h1:¬(Int.ofNat m<0):=by show ¬((m:Int)<0);omega
  simp only[decide_eq_false h1];cases b<;>rfl
 |negSucc m=>
  simp only[decide_eq_true (Int.negSucc_lt_zero m)];cases b<;>rfl
theorem r2_Div (a b:Int) (hb0:b≠0) (ha:(td a.natAbs).length<134217728) (hb:(td b.natAbs).length<134217728):CallOK Tryz.prog 61 [zZ a,zZ b] [] (.tup [zZ (a/b),zZ (a % b)]) [] []:=by
 have k1:=r_Div a.natAbs b.natAbs (by omega) (by omega) (by omega)
 have ql:(td (a.natAbs/b.natAbs)).length≤(td a.natAbs).length:=td_len_mono (Nat.div_le_self _ _)
 have rl:(td (a.natAbs % b.natAbs)).length≤(td a.natAbs).length:=td_len_mono (Nat.mod_le _ _)
 have k2:=r2_From' (tdiv_signed a b) (by omega)
 have k3:=r2_From' (tmod_signed a b) (by omega)
 have eq:(a.tdiv b).natAbs=a.natAbs/b.natAbs:=Int.natAbs_tdiv a b
 have er:(a.tmod b).natAbs=a.natAbs % b.natAbs:=Int.natAbs_tmod a b
 have k4:=r2_Sign (a.tmod b) (by rw[er];omega)
 have k5:=r2_Sign b (by omega)
 have k6:=r2_Of 1 (by decide) (by decide)
 have hd:=Int.mul_tdiv_add_tmod a b
 have hlt:a.natAbs % b.natAbs<b.natAbs:=Nat.mod_lt _ (by omega)
 have u:=fun(q r:Int) (h:b*q+r=a) (h0:0≤r) (h1:r<b.natAbs)=>(show a/b=q∧a % b=r from by
  have h3:a % b=r:=by
   rw[←h,Int.mul_add_emod_self_left]
   rcases Int.lt_or_lt_of_ne hb0 with h4|h4
   ·rw[←Int.emod_neg,Int.emod_eq_of_lt h0 (by omega)]
   ·exact Int.emod_eq_of_lt h0 (by omega)
  refine⟨?_,h3⟩
  have h5:=Int.mul_ediv_add_emod a b
  rw[h3]at h5
  exact Int.eq_of_mul_eq_mul_left hb0 (by omega))
 have hq:(td (a.tdiv b).natAbs).length<134217728:=by rw[eq];omega
 have hr:(td (a.tmod b).natAbs).length<134217728:=by rw[er];omega
 have k7:=r2_Sub (a.tdiv b) 1 (by omega) (by decide)
 have k8:=r2_Add (a.tmod b) b (by omega) (by omega)
 have k9:=r2_Add (a.tdiv b) 1 (by omega) (by decide)
 have k10:=r2_Sub (a.tmod b) b (by omega) (by omega)
 by_cases hn:a.tmod b<0
 ·have t1:decide ((a.tmod b).sign<0)=true:=decide_eq_true (by rw[Int.sign_eq_neg_one_of_neg hn];omega)
  by_cases hp:0<b
  ·have t2:decide (b.sign>0)=true:=decide_eq_true (by rw[Int.sign_eq_one_of_pos hp];omega)
   obtain⟨u1,u2⟩:=u (a.tdiv b - 1) (a.tmod b+b) (by rw[Int.mul_sub];omega) (by omega) (by omega)
   rw[u1,u2]
   generalize a.tdiv b=q at*
   generalize a.tmod b=r at*
   clear u
   refine callV (Z:=[2,3]) tabOK mixedOK Tryz.func61 rfl (by kernel_rfl) rfl rfl (by kernel_rfl) rfl ?_
   intro W0 w0 ρ0 hE
   conv=>whnf
   (repeat((first|refine step_w1 rfl rfl ?_|refine step_i (by kernel_rfl) ?_|refine g_c (by assumption) ?_|refine g_o (op_pickT rfl (ev_ok rfl) (ev_ok rfl)) ?_|refine g_o (op_loadA rfl (ev_ok rfl) (tgt rfl) rfl (Nat.succ_ne_zero _) rfl) ?_|refine g_o (op_fieldA rfl (ev_ok rfl) (tgt rfl) rfl rfl (Nat.succ_ne_zero _) rfl) ?_|rw[t1]|rw[t2]);conv=>whnf));(first|exact Recast.refl _|exact Frz.recast (Recast.refl _) rfl|(refine Frz.one rfl rfl ?_;skip)|(refine Frz.tup ?_;skip))
  ·have t2:decide (b.sign>0)=false:=decide_eq_false (by rw[Int.sign_eq_neg_one_of_neg (by omega)];omega)
   obtain⟨u1,u2⟩:=u (a.tdiv b+1) (a.tmod b - b) (by rw[Int.mul_add];omega) (by omega) (by omega)
   rw[u1,u2]
   generalize a.tdiv b=q at*
   generalize a.tmod b=r at*
   clear u
   refine callV (Z:=[2,3]) tabOK mixedOK Tryz.func61 rfl (by kernel_rfl) rfl rfl (by kernel_rfl) rfl ?_
   intro W0 w0 ρ0 hE
   conv=>whnf
   (repeat((first|refine step_w1 rfl rfl ?_|refine step_w2 rfl rfl ?_|refine step_i (by kernel_rfl) ?_|refine g_c (by assumption) ?_|refine g_o (op_pickT rfl (ev_ok rfl) (ev_ok rfl)) ?_|refine g_o (op_loadA rfl (ev_ok rfl) (tgt rfl) rfl (Nat.succ_ne_zero _) rfl) ?_|refine g_o (op_fieldA rfl (ev_ok rfl) (tgt rfl) rfl rfl (Nat.succ_ne_zero _) rfl) ?_|rw[t1]|rw[t2]);conv=>whnf));(first|exact Recast.refl _|exact Frz.recast (Recast.refl _) rfl|(refine Frz.one rfl rfl ?_;skip)|(refine Frz.tup ?_;skip))
 ·have t1:decide ((a.tmod b).sign<0)=false:=decide_eq_false (by have:=Int.sign_nonneg_iff.2 (show 0≤a.tmod b by omega);omega)
  obtain⟨u1,u2⟩:=u (a.tdiv b) (a.tmod b) hd (by omega) (by omega)
  rw[u1,u2]
  generalize a.tdiv b=q at*
  generalize a.tmod b=r at*
  clear u
  refine callV (Z:=[2,3]) tabOK mixedOK Tryz.func61 rfl (by kernel_rfl) rfl rfl (by kernel_rfl) rfl ?_
  intro W0 w0 ρ0 hE
  conv=>whnf
  (repeat((first|refine step_w2 rfl rfl ?_|refine step_i (by kernel_rfl) ?_|refine g_c (by assumption) ?_|refine g_o (op_pickF rfl (ev_ok rfl) (ev_ok rfl)) ?_|refine g_o (op_loadA rfl (ev_ok rfl) (tgt rfl) rfl (Nat.succ_ne_zero _) rfl) ?_|refine g_o (op_fieldA rfl (ev_ok rfl) (tgt rfl) rfl rfl (Nat.succ_ne_zero _) rfl) ?_|rw[t1]);conv=>whnf));(first|exact Recast.refl _|exact Frz.recast (Recast.refl _) rfl|(refine Frz.one rfl rfl ?_;skip)|(refine Frz.tup ?_;skip))
def gqF:Nat→Int→Int→Int×Int×Int
 |0,a,_=>(a.natAbs,a.sign,0)
 |f+1,a,b=>if b=0 then(a.natAbs,a.sign,0)else((gqF f b (a % b)).1,(gqF f b (a % b)).2.2,(gqF f b (a % b)).2.1 - a/b*(gqF f b (a % b)).2.2)
theorem gqF_spec:∀(f:Nat) (a b:Int),0≤a→0≤b→b<f→(gqF f a b).1=Int.gcd a b∧a*(gqF f a b).2.1+b*(gqF f a b).2.2=(gqF f a b).1∧(gqF f a b).2.1.natAbs≤max 1 b.natAbs∧(gqF f a b).2.2.natAbs≤max 1 a.natAbs
 |0,a,b,_,h1,h2=>by omega
 |f+1,a,b,h0,h1,h2=>by
  by_cases hb:b=0
  ·subst hb
   simp only[gqF,if_true]
   refine⟨by simp, ?_, ?_,by simp⟩
   ·rw[Int.zero_mul,Int.add_zero]
    rcases Int.lt_or_eq_of_le h0 with h|h
    ·rw[Int.sign_eq_one_of_pos h];omega
    ·rw[←h];rfl
   ·have:=Int.natAbs_sign a
    split at this<;>omega
  ·have hr0:=Int.emod_nonneg a hb
   have hr1:=Int.emod_lt_of_pos a (show 0<b by omega)
   have hd:=Int.mul_ediv_add_emod a b
   obtain⟨i1,i2,i3,i4⟩:=gqF_spec f b (a % b) h1 hr0 (by omega)
   have hz:a % b=0→gqF f b (a % b)=((b.natAbs:Int),b.sign,0):=fun h=>by
    rw[h];cases f with
    |zero=>rfl
    |succ f=>simp[gqF]
   simp only[gqF,if_neg hb]
   refine⟨?_, ?_,by omega, ?_⟩
   ·rw[i1]
    obtain⟨m,rfl⟩:=Int.eq_ofNat_of_zero_le h0
    obtain⟨n,rfl⟩:=Int.eq_ofNat_of_zero_le h1
    show((Nat.gcd n (m % n):Nat):Int)=((Nat.gcd m n:Nat):Int)
    rw[Nat.gcd_comm n,←Nat.gcd_rec,Nat.gcd_comm]
   ·rw[←i2]
    generalize (gqF f b (a % b)).2.1=x at*
    generalize (gqF f b (a % b)).2.2=y at*
    generalize a % b=r at*
    rw[←hd];grind
   ·by_cases hz0:a % b=0
    ·rw[hz hz0]
     simp only[Int.mul_zero,Int.sub_zero]
     rw[Int.sign_eq_one_of_pos (by omega)]
     exact Nat.le_max_left _ _
    ·generalize (gqF f b (a % b)).2.1=x at*
     generalize (gqF f b (a % b)).2.2=y at*
     have hq0:0≤a/b:=Int.ediv_nonneg h0 h1
     have e1:(a/b*y).natAbs=(a/b).natAbs*y.natAbs:=Int.natAbs_mul _ _
     have e2:(a/b).natAbs*y.natAbs≤(a/b).natAbs*b.natAbs:=Nat.mul_le_mul_left _ (by omega)
     have e3:(a/b).natAbs*b.natAbs=(b*(a/b)).natAbs:=by rw[Int.natAbs_mul,Nat.mul_comm]
     have e4:0≤b*(a/b):=Int.mul_nonneg h1 hq0
     omega
theorem r2_Gcd:∀(f:Nat) (a b:Int),0≤a→0≤b→b<f→a<4294967296→b<4294967296→
  CallOK Tryz.prog 43 [zZ a,zZ b] [] (.tup [zZ (gqF f a b).1,zZ (gqF f a b).2.1,zZ (gqF f a b).2.2]) [] []
 |0,a,b,_,h1,h2,_,_=>by omega
 |f+1,a,b,h0,h1,h2,h3,h4=>by
  have tl:∀z:Int,z.natAbs<10000000000000000→(td z.natAbs).length<134217728:=fun z h=>Nat.lt_of_le_of_lt (tlen_le (k:=4) h) (by decide)
  have k0:=r2_Sign b (by have:=tl b (by omega);omega)
  by_cases hb:b=0
  ·subst hb
   have e:gqF (f+1) a 0=((a.natAbs:Int),a.sign,0):=by simp[gqF]
   rw[e]
   have k1:=r2_From' (neg:=false) (n:=a.natAbs) (z:=(a.natAbs:Int)) rfl (by have:=tl a (by omega);omega)
   have k2:=r2_Sign a (by have:=tl a (by omega);omega)
   have hs: -1≤a.sign∧a.sign≤1:=by rcases Int.lt_trichotomy a 0 with h|h|h<;>simp[h,Int.sign_eq_neg_one_of_neg,Int.sign_eq_one_of_pos]
   have k3:=r2_Of a.sign (by omega) (by omega)
   have k4:=r2_Of 0 (by decide) (by decide)
   have t1:((Int.sign 0:Int)==0)=true:=rfl
   generalize a.sign=sg at*
   refine callV (Z:=[2,3]) tabOK mixedOK Tryz.func43 rfl (by kernel_rfl) rfl rfl (by kernel_rfl) rfl ?_
   intro W0 w0 ρ0 hE
   conv=>whnf
   (repeat((first|refine step_w1 rfl rfl ?_|refine step_i (by kernel_rfl) ?_|refine g_c (by assumption) ?_|refine g_o (op_loadA rfl (ev_ok rfl) (tgt rfl) rfl (Nat.succ_ne_zero _) rfl) ?_|refine g_o (op_fieldA rfl (ev_ok rfl) (tgt rfl) rfl rfl (Nat.succ_ne_zero _) rfl) ?_);conv=>whnf));(first|exact Recast.refl _|exact Frz.recast (Recast.refl _) rfl|(refine Frz.one rfl rfl ?_;skip)|(refine Frz.tup ?_;skip))
  ·have hr0:=Int.emod_nonneg a hb
   have hr1:=Int.emod_lt_of_pos a (show 0<b by omega)
   have hq0:0≤a/b:=Int.ediv_nonneg h0 h1
   have hq1:a/b≤a:=Int.ediv_le_self _ h0
   have k1:=r2_Div a b hb (tl a (by omega)) (tl b (by omega))
   have k2:=r2_Gcd f b (a % b) h1 hr0 (by omega) h4 (by omega)
   obtain⟨_,_,i3,i4⟩:=gqF_spec f b (a % b) h1 hr0 (by omega)
   have e:gqF (f+1) a b=((gqF f b (a % b)).1,(gqF f b (a % b)).2.2,(gqF f b (a % b)).2.1 - a/b*(gqF f b (a % b)).2.2):=by simp[gqF,hb]
   rw[e]
   generalize gqF f b (a % b)=g at*
   obtain⟨g,x,y⟩:=g
   have i3':x.natAbs≤4294967296:=by simp only[]at i3;omega
   have i4':y.natAbs≤4294967296:=by simp only[]at i4;omega
   have k3:=r2_Mul (a/b) y (tl _ (by omega)) (tl _ (by omega))
   have hm:(td (a/b*y).natAbs).length<536870912:=by rw[Int.natAbs_mul];have h5:=@tl_mul (a/b).natAbs y.natAbs;have h6:=tl (a/b) (by omega);have h7:=tl y (by omega);omega
   have k4:=r2_Sub x (a/b*y) (by have:=tl x (by omega);omega) hm
   have t1:((b.sign:Int)==0)=false:=beq_false_of_ne (by rw[Int.sign_eq_one_of_pos (by omega)];omega)
   generalize a/b=q at*
   generalize a % b=r at*
   refine callV (Z:=[2,3]) tabOK mixedOK Tryz.func43 rfl (by kernel_rfl) rfl rfl (by kernel_rfl) rfl ?_
   intro W0 w0 ρ0 hE
   conv=>whnf
   (repeat((first|refine step_w2 rfl rfl ?_|refine step_i (by kernel_rfl) ?_|refine g_c (by assumption) ?_|refine g_o (op_loadA rfl (ev_ok rfl) (tgt rfl) rfl (Nat.succ_ne_zero _) rfl) ?_|rw[t1]);conv=>whnf));(first|exact Recast.refl _|exact Frz.recast (Recast.refl _) rfl|(refine Frz.one rfl rfl ?_;skip)|(refine Frz.tup ?_;skip))
end Go.Proofs.YtjofnbpcanhfhaaGreatDoor
