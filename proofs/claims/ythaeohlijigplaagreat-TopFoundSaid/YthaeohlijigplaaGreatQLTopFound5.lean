/- The texts Ek, Em, Ga, Gc, Ya, Fc, Fd, Fe, Ff, W2, Kf, Aa, Fi, Fj, Fg, Fh, Fk, Fl, Fm, Fn, Fo, Fp. -/
import Derived.ChangeKeysEq
import Derived.Carry
import Derived.Maps.RangeRun
import Derived.Test.YthaeohlijigplaaGreatQLTopFound4
import Derived.Test.YthaeohlijigplaaGreatQLTopFound2
import Derived.Test.YthaeohlijigplaaGreatQLTopFound3
namespace Go.Proofs.YthaeohlijigplaaGreat
open Go.Sx
set_option linter.unusedSimpArgs false
set_option linter.unusedVariables false
set_option maxRecDepth 100000
set_option maxHeartbeats 8000000
theorem c_Div (a b:Nat) (ha:(wInts a).length<274877906944) (hb:(wInts b).length<274877906944) (h0:b≠0):
  CallOK Tryz.prog 47 [.nat a,.nat b] [] (.tup [.nat (a/b),.nat (a % b),.val (.bool true)]) [] []:=by
 by_cases hs:a<18446744073709551616∧b<18446744073709551616
 ·exact s_Div a b hs.1 hs.2 h0
 have kz:=c_nZero b
 rw[decide_eq_false h0]at kz
 have kc:=c_Cmp a b (by omega) (by omega)
 have kb:=c_words b 1002 (by omega)
 have ka:=c_words a 1001 (by omega)
 by_cases hlt:a<b
 ·have t1:Hid (decide (((a:Int) - b).sign<0)=true):=show decide (((a:Int) - b).sign<0)=true from decide_eq_true (Int.sign_neg_iff.2 (by omega))
  rw[Nat.div_eq_of_lt hlt,Nat.mod_eq_of_lt hlt]
  refine callV (Z:=[]) tabOK mixedOK Tryz.func47 rfl (by kernel_rfl) rfl rfl (by kernel_rfl) rfl ?_
  intro W0 w0 ρ0 hE
  conv=>whnf
  (repeat((first|refine step_w1 rfl rfl ?_|refine step_w2 rfl rfl ?_|refine step_i (by kernel_rfl) ?_|refine g_c (by assumption) ?_|rw[t1.out]);conv=>whnf));exact Recast.refl _
 have t1:Hid (decide (((a:Int) - b).sign<0)=false):=show decide (((a:Int) - b).sign<0)=false from decide_eq_false (by have:=Int.sign_nonneg_iff.2 (show 0≤(a:Int) - b by omega);omega)
 have hbig:¬a<18446744073709551616:=by omega
 have hlen:(wInts b).length≤(wInts a).length:=len_le_of (Nat.lt_of_le_of_lt (Nat.le_of_not_lt hlt) (lt_of_len a))
 have hA:wArr a=wInts a:=if_neg hbig
 rw[hA]at ka
 have htop:=wt_top b
 have hb0:(wInts b).length≠0:=(wInts_top h0).1
 have hval:=wInts_val a
 have hvb:=wArr_val b
 have hbl:=wArr_len b
 have hbl2:(wArr b).length<549755813888:=by
  have:=wArr_len2 b (M:=274877906944) (by omega) (by omega)
  omega
 by_cases hone:(wInts b).length=1
 ·rw[hone]at kb hvb htop
  obtain⟨y,hy⟩:=Int.eq_ofNat_of_zero_le (wArr_w32 b 0).1
  have hy2:=(wArr_w32 b 0).2
  have hyb:y=b:=by
   rw[valI,valI,Int.pow_zero,hy]at hvb
   omega
  subst hyb
  have ks:=c_short (wInts a) (wInts a).length (Nat.le_refl _) (by omega) (wInts_w32 a) y h0 (by omega) 1001 2001 (by decide) true a hval
  have hq:(valI (digs (a/y) (wInts a).length) (wInts a).length).toNat=a/y:=by
   rw[valI_digs,Nat.mod_eq_of_lt (Nat.lt_of_le_of_lt (Nat.div_le_self _ _) (lt_of_len a))];exact Int.toNat_natCast _
  have ko:=c_of (digs (a/y) (wInts a).length) (wInts a).length (by rw[digs_len];exact Nat.le_refl _) (by rw[digs_len];omega) (digs_w32 _ _) 2001 true
  rw[hq]at ko
  have hr:a % y<y:=Nat.mod_lt _ (by omega)
  have i1:Hid (IntKind.u64.wrap ((a % y:Nat):Int)=((a % y:Nat):Int)):=show IntKind.u64.wrap ((a % y:Nat):Int)=((a % y:Nat):Int)from wu64 (by omega)
  have i2:Hid ((wArr y).getD (0+Int.toNat 0) 0=(y:Int)):=show(wArr y).getD (0+Int.toNat 0) 0=(y:Int)from hy
  refine callV (Z:=[]) tabOK mixedOK Tryz.func47 rfl (by kernel_rfl) rfl rfl (by kernel_rfl) rfl ?_
  intro W0 w0 ρ0 hE
  conv=>whnf
  (repeat(first|(refine step_w2 rfl rfl ?_;conv=>whnf)|(refine g_c (by assumption) ?_;conv=>whnf)|(rw[t1.out];conv=>whnf)))
  rw[big_eq,decide_eq_false hbig]
  (repeat((first|refine step_w1 rfl rfl ?_|refine step_w2 rfl rfl ?_|refine step_i (by kernel_rfl) ?_|refine step_oL (by first|omega|decide|(simp only[tl0,dlen,List.length_replicate,List.length_set,List.length_map,List.length_zipWith,List.length_take,List.length_append,List.length_cons,List.length_nil];omega)) ?_|refine step_oA (by first|omega|decide|(simp only[tl0,dlen,List.length_replicate,List.length_set,List.length_map,List.length_zipWith,List.length_take,List.length_append,List.length_cons,List.length_nil];omega)) ?_|refine g_cn (by assumption) rfl ?_|refine g_c1 (by assumption) rfl ?_|refine g_c1n (by assumption) rfl rfl ?_|rw[i2.out]|rw[i1.out]);conv=>whnf))
  refine recast_tup3 (fun _ _ h=>h) rfl (hasC_nat ?_ rfl (by omega)) rfl (fun _ _ h=>h) rfl
  rfl
 ·have hn2:2≤(wInts b).length:=by omega
  have htop':(wArr b).getD ((wInts b).length - 1) 0≠0:=htop.resolve_left hb0
  have hbg:4294967296^((wInts b).length - 1)≤b:=by
   have:=valI_ge (wArr_w32 b) htop'
   rw[show(wInts b).length - 1+1=(wInts b).length from by omega,hvb,←natPowW]at this
   omega
  have hqb:a/b<4294967296^((wInts a).length+1 - (wInts b).length):=by
   refine Nat.div_lt_of_lt_mul (Nat.lt_of_lt_of_le (lt_of_len a) ?_)
   have e:4294967296^(wInts a).length=4294967296^((wInts b).length - 1)*4294967296^((wInts a).length+1 - (wInts b).length):=by rw[←Nat.pow_add];congr 1;omega
   rw[e]
   exact Nat.mul_le_mul_right _ hbg
  have hrb:a % b<4294967296^((wInts a).length+1):=Nat.lt_of_le_of_lt (Nat.mod_le _ _) (Nat.lt_of_lt_of_le (lt_of_len a) (Nat.pow_le_pow_right (by decide) (by omega)))
  have kl:=CallOK.anyWr (c_long (wInts a) (wArr b) (wInts a).length (wInts b).length a b (Nat.le_refl _) hbl (by omega) hbl2 (wInts_w32 a) (wArr_w32 b) hval hvb hn2 htop' hlen 1001 1002 2001 2002 (by decide) (by decide) (by decide)) (fk:=[(1001,⟨104,true,.ints .u32 (wInts a)⟩),(1002,⟨104,true,.ints .u32 (wArr b)⟩)])
  have ko1:=c_of (digs (a/b) ((wInts a).length+1 - (wInts b).length)) ((wInts a).length+1 - (wInts b).length) (by rw[digs_len];exact Nat.le_refl _) (by rw[digs_len];omega) (digs_w32 _ _) 2001 true
  have ko2:=c_of (digs (a % b) ((wInts a).length+1)) ((wInts a).length+1) (by rw[digs_len];exact Nat.le_refl _) (by rw[digs_len];omega) (digs_w32 _ _) 2002 true
  rw[valI_digs,Nat.mod_eq_of_lt hqb,Int.toNat_natCast]at ko1
  rw[valI_digs,Nat.mod_eq_of_lt hrb,Int.toNat_natCast]at ko2
  have t2:Hid ((((wInts b).length:Int)==1)=false):=show(((wInts b).length:Int)==1)=false from by simp;omega
  have t3:Hid (decide (((wInts b).length:Int)=1)=false):=show decide (((wInts b).length:Int)=1)=false from by simp;omega
  refine callV (Z:=[]) tabOK mixedOK Tryz.func47 rfl (by kernel_rfl) rfl rfl (by kernel_rfl) rfl ?_
  intro W0 w0 ρ0 hE
  conv=>whnf
  (repeat(first|(refine step_w2 rfl rfl ?_;conv=>whnf)|(refine g_c (by assumption) ?_;conv=>whnf)|(rw[t1.out];conv=>whnf)))
  rw[big_eq,decide_eq_false hbig]
  (repeat((first|refine step_w2 rfl rfl ?_|refine g_cn (by assumption) rfl ?_|refine g_c1 (by assumption) rfl ?_|refine⟨[_,_],_,[_,_],[],(by assumption),two_fk rfl rfl,two_new rfl rfl,nil_upd, ?_⟩|rw[t2.out]);conv=>whnf))
  exact Recast.refl _
theorem c_Gcd (a b:Nat) (ha:(wInts a).length<274877906944) (hb:(wInts b).length<274877906944):
  CallOK Tryz.prog 46 [.nat a,.nat b] [] (.nat (Nat.gcd a b)) [] []:=by
 refine callV (Z:=[]) tabOK mixedOK Tryz.func46 rfl (by kernel_rfl) rfl rfl (by kernel_rfl) rfl ?_
 intro W0 w0 ρ0 hE
 conv=>whnf
 refine SW_loopN hE (fun k=>k) [2,3,4] [2,3,4] (fun m fr hp=>∃x,(wInts x).length<274877906944∧(wInts m).length<274877906944∧Nat.gcd x m=Nat.gcd a b∧fr=[(2,.ptr 2 0 0 0),(3,.ptr 3 0 0 0),(4,.ptr 4 0 0 0)]∧hp=[(2,⟨41,true,.one [.nat x]⟩),(3,⟨41,true,.one [.nat m]⟩),(4,⟨41,true,.one [.nat 0]⟩)]) b ?_ ?_ ?_
 ·kernel_rfl
 ·exact⟨a,ha,hb,rfl,rfl,rfl⟩
 rintro m _ _ ⟨x,hx,hm,hg,rfl,rfl⟩
 have kz:=c_nZero m
 by_cases h0:m=0
 ·rw[decide_eq_true h0]at kz
  subst h0
  rw[←hg,Nat.gcd_zero_right]
  conv=>whnf
  (repeat(first|(refine step_w2 rfl rfl ?_;conv=>whnf)|(refine g_c (by assumption) ?_;conv=>whnf)));exact Recast.refl _
 ·rw[decide_eq_false h0]at kz
  have kd:=c_Div x m hx hm h0
  have hlt:=Nat.mod_lt x (Nat.pos_of_ne_zero h0)
  conv=>whnf
  (repeat(first|(refine step_w1 rfl rfl ?_;conv=>whnf)|(refine step_i (by kernel_rfl) ?_;conv=>whnf)|(refine g_c (by assumption) ?_;conv=>whnf)))
  refine⟨x % m,fun k=>k,[2,3,4],[2,3,4],hlt,by kernel_rfl,m,hm, ?_, ?_,rfl,rfl⟩
  ·exact Nat.lt_of_le_of_lt (len_le_of (Nat.lt_trans hlt (lt_of_len m))) hm
  ·rw[←hg,Nat.gcd_comm m,←Nat.gcd_rec,Nat.gcd_comm]
end Go.Proofs.YthaeohlijigplaaGreat
namespace Go.Proofs.YthaeohlijigplaaGreat
open Go.Sx
set_option linter.unusedSimpArgs false
set_option linter.unusedVariables false
theorem len_sz {n:Nat} (h:sz n≤1073741824):(wInts n).length<274877906944:=by
 have:=wlen_sz (n:=n) (M:=33554432) (by omega)
 omega
theorem natBig:NatOK 1073741824 where
 big:=by decide
 cmp a b ha hb:=c_Cmp a b (by have:=len_sz ha;omega) (by have:=len_sz hb;omega)
 add a b h:=n_Add a b (by have:=len_sz (n:=a) (Nat.le_trans (sz_mono (by omega)) h);omega) (by have:=len_sz (n:=b) (Nat.le_trans (sz_mono (by omega)) h);omega)
 sub a b ha h:=n_Sub a b (by have:=len_sz ha;omega) h
 subF a b hb h:=c_SubF a b (by have:=len_sz hb;have:=len_le_of (Nat.lt_trans h (lt_of_len b));omega) (by have:=len_sz hb;omega) h
 mul a b h:=n_Mul a b (len_sz (by omega)) (len_sz (by omega))
 div a b ha hb h0:=c_Div a b (len_sz ha) (len_sz hb) h0
 divZ a:=c_DivZ a
 gcd a b ha hb:=c_Gcd a b (len_sz ha) (len_sz hb)
end Go.Proofs.YthaeohlijigplaaGreat
namespace Go.Proofs.YthaeohlijigplaaGreat
open Go.Sx
set_option linter.unusedSimpArgs false
set_option linter.unusedVariables false
set_option maxRecDepth 100000
set_option maxHeartbeats 4000000
def fs (q:Rat):Nat:=fsz q+1
theorem fs_add (a b:Rat):fs (a+b)≤fs a+fs b:=by have:=@fsz_add a b;unfold fs;omega
theorem fs_sub (a b:Rat):fs (a - b)≤fs a+fs b:=by have:=@fsz_sub a b;unfold fs;omega
theorem fs_mul (a b:Rat):fs (a*b)≤fs a+fs b:=by have:=@fsz_mul a b;unfold fs;omega
theorem fs_neg (a:Rat):fs (-a)=fs a:=by unfold fs;rw[fsz_neg]
theorem fs_inv (a:Rat):fs a⁻¹≤fs a:=by have:=fsz_inv a;unfold fs;omega
theorem fs_div (a b:Rat):fs (a/b)≤fs a+fs b:=by rw[Rat.div_def];have h1:=fs_mul a b⁻¹;have h2:=fs_inv b;omega
theorem fs_zero:fs 0=2:=by decide+kernel
theorem fs_int {n:Int} (h0: -9223372036854775808≤n) (h1:n<9223372036854775808):fs (n:Rat)≤65:=by
 have:=fsz_int (n:=n) (k:=64) (sz_i64 h0 h1) (by decide);unfold fs;omega
theorem f_Add (a b:Rat) (h:fs a+fs b≤1073741824):CallOK Tryz.prog 51 [.frac a,.frac b] [] (.frac (a+b)) [] []:=c_fAdd natBig a b (by unfold fs at h;omega)
theorem f_Mul (a b:Rat) (h:fs a+fs b≤1073741824):CallOK Tryz.prog 10 [.frac a,.frac b] [] (.frac (a*b)) [] []:=c_fMul natBig a b (by unfold fs at h;omega)
theorem f_Div (a b:Rat) (hb:b≠0) (h:fs a+fs b≤1073741824):CallOK Tryz.prog 6 [.frac a,.frac b] [] (.tup [.frac (a/b),.val (.int .i64 0)]) [] []:=c_fDiv natBig a b hb (by unfold fs at h;omega)
theorem f_Sub (a b:Rat) (h:fs a+fs b≤1073741824):CallOK Tryz.prog 143 [.frac a,.frac b] [] (.frac (a - b)) [] []:=by
 have k1:=c_fNeg b
 have k2:=f_Add a (-b) (by rw[fs_neg];exact h)
 rw[←Rat.sub_eq_add_neg]at k2
 refine callV (Z:=[]) tabOK mixedOK Tryz.func143 rfl (by kernel_rfl) rfl rfl (by kernel_rfl) rfl ?_
 intro W0 w0 ρ0 hE
 conv=>whnf
 (repeat(first|(refine step_i (by kernel_rfl) ?_;conv=>whnf)|(refine g_c (by assumption) ?_;conv=>whnf)));(first|exact Recast.refl _|exact Frz.recast (Recast.refl _) rfl|(refine Frz.one rfl rfl ?_;skip)|(refine Frz.tup ?_;skip))
theorem c_iCmp (a b:Int) (ha:sz a.natAbs<1073741824) (hb:sz b.natAbs<1073741824):CallOK Tryz.prog 153 [.int a,.int b] [] (.val (.int .i64 (a - b).sign)) [] []:=by
 have k1:=c_iSub natBig a b ha hb
 have k2:=c_Sign (a - b)
 refine callV (Z:=[]) tabOK mixedOK Tryz.func153 rfl (by kernel_rfl) rfl rfl (by kernel_rfl) rfl ?_
 intro W0 w0 ρ0 hE
 conv=>whnf
 (repeat(first|(refine g_c (by assumption) ?_;conv=>whnf)));(first|exact Recast.refl _|exact Frz.recast (Recast.refl _) rfl|(refine Frz.one rfl rfl ?_;skip)|(refine Frz.tup ?_;skip))
theorem sub_num_sign (a b:Rat):(a - b).num.sign=(a.num*b.den - b.num*a.den).sign:=by
 rw[Rat.sub_def',num_mkRat (Nat.mul_ne_zero a.den_nz b.den_nz)]
 have hg:Nat.gcd (a.num*b.den - b.num*a.den).natAbs (a.den*b.den)≠0:=fun h=>Nat.mul_ne_zero a.den_nz b.den_nz (Nat.gcd_eq_zero_iff.1 h).2
 have hd:((Nat.gcd (a.num*b.den - b.num*a.den).natAbs (a.den*b.den):Nat):Int) ∣ (a.num*b.den - b.num*a.den):=Int.ofNat_dvd_left.2 (Nat.gcd_dvd_left _ _)
 generalize Nat.gcd (a.num*b.den - b.num*a.den).natAbs (a.den*b.den)=g at*
 obtain⟨c,hc⟩:=hd
 rw[hc,Int.mul_ediv_cancel_left _ (by omega),Int.sign_mul,Int.sign_eq_one_of_pos (show(0:Int)<g by omega),Int.one_mul]
theorem f_Cmp (a b:Rat) (h:fs a+fs b≤1073741824):CallOK Tryz.prog 131 [.frac a,.frac b] [] (.val (.int .i64 (a - b).num.sign)) [] []:=by
 have ok:=natBig
 have h':fsz a+fsz b+2≤1073741824:=by unfold fs at h;omega
 have ha:=fsz_num a;have ha':=fsz_den a;have hb:=fsz_num b;have hb':=fsz_den b
 have s1:sz a.den≤1073741824:=by omega
 have s2:sz b.den≤1073741824:=by omega
 have e:=sub_num_sign a b
 refine callV (Z:=[]) tabOK mixedOK Tryz.func131 rfl (by kernel_rfl) rfl rfl (by kernel_rfl) rfl ?_
 intro W0 w0 ρ0 hE
 conv=>whnf
 (repeat(first|(rw[Nat.zero_add];conv=>whnf)))
 refine⟨_,op_eqAgg tabOK goodOK rfl (ev_ok rfl) (ev_ok rfl) rfl rfl rfl rfl (eqTy_nat (a.den - 1) (b.den - 1)) guard_nat, ?_⟩
 rw[more_eq]
 by_cases hd:a.den=b.den
 ·rw[decide_eq_true hd]
  have k1:=c_iCmp a.num b.num (by omega) (by omega)
  rw[hd,←Int.sub_mul,Int.sign_mul,Int.sign_eq_one_of_pos (show(0:Int)<b.den by have:=b.den_pos;omega),Int.mul_one]at e
  rw[←e]at k1
  conv=>whnf
  (repeat(first|(refine step_w1 rfl rfl ?_;conv=>whnf)|(refine g_c (by assumption) ?_;conv=>whnf)));(first|exact Recast.refl _|exact Frz.recast (Recast.refl _) rfl|(refine Frz.one rfl rfl ?_;skip)|(refine Frz.tup ?_;skip))
 ·rw[decide_eq_false hd]
  have p1:=sz_mul a.num.natAbs b.den
  have p2:=sz_mul b.num.natAbs a.den
  have r1:=c_signed ok a s1
  have r2:=c_signed ok b s2
  have r3:=c_iMul ok a.num b.den (by rw[Int.natAbs_natCast];omega)
  have r4:=c_iMul ok b.num a.den (by rw[Int.natAbs_natCast];omega)
  have k1:=c_iCmp (a.num*b.den) (b.num*a.den) (by rw[Int.natAbs_mul,Int.natAbs_natCast];omega) (by rw[Int.natAbs_mul,Int.natAbs_natCast];omega)
  rw[←e]at k1
  conv=>whnf
  (repeat(first|(refine step_w2 rfl rfl ?_;conv=>whnf)|(refine step_i (by kernel_rfl) ?_;conv=>whnf)|(refine g_c (by assumption) ?_;conv=>whnf)));(first|exact Recast.refl _|exact Frz.recast (Recast.refl _) rfl|(refine Frz.one rfl rfl ?_;skip)|(refine Frz.tup ?_;skip))
end Go.Proofs.YthaeohlijigplaaGreat
namespace Go.Proofs.YthaeohlijigplaaGreat
open Go.Sx
set_option linter.unusedSimpArgs false
set_option linter.unusedVariables false
set_option maxRecDepth 100000
set_option maxHeartbeats 4000000
def fsL (l:List Rat):Nat:=(l.map fs).sum
theorem fs_sum (l:List Rat) (s:Rat):fs (l.foldl (·+·) s)≤fs s+fsL l:=by
 induction l generalizing s with
 |nil=>simp[fsL]
 |cons q l ih=>
  have:=ih (s+q)
  have:=fs_add s q
  simp only[List.foldl_cons,fsL,List.map_cons,List.sum_cons]at*
  omega
theorem f_totalAdd (s q:Rat) (h:fs s+fs q≤1073741824) (K:Nat):
  CallOK Tryz.prog 26 [.ptr K 0 0 0,.frac q] [(K,⟨81,true,.one [.frac s]⟩)] (.tup []) [] [(K,⟨81,true,.one [.frac (s+q)]⟩)]:=by
 have k1:=f_Add s q h
 refine callK (Z:=[]) tabOK mixedOK Tryz.func26 rfl (by kernel_rfl) (args:=[.ptr 0 0 0 0,.frac q]) (fk:=[(0,⟨81,true,.one [.frac s]⟩)]) (c:=.tup []) (new:=[]) (upd:=[(0,⟨81,true,.one [.frac (s+q)]⟩)]) (ShapeOK.of rfl rfl rfl rfl rfl rfl rfl rfl rfl rfl rfl) rfl (fun _=>K) NamesOK.upd ?_
 intro W0 w0 ρ0 hE
 conv=>whnf
 (repeat(first|(refine step_i (by kernel_rfl) ?_;conv=>whnf)|(refine g_c (by assumption) ?_;conv=>whnf)))
 exact⟨Recast.refl _,(fun _ _ h=>by cases h),fun k b hm=>by simp only[List.mem_singleton,Prod.mk.injEq]at hm;obtain⟨rfl,rfl⟩:=hm;rfl⟩
theorem take_snoc (l:List Rat) (i:Nat) (hi:i<l.length):l.take (i+1)=l.take i++[l.getD i 0]:=by rw[List.take_add_one,List.getD_eq_getElem?_getD,List.getElem?_eq_getElem hi];rfl
theorem foldl_take (l:List Rat) (i:Nat) (hi:i<l.length) (s:Rat):(l.take (i+1)).foldl (·+·) s=(l.take i).foldl (·+·) s+l.getD i 0:=by
 rw[take_snoc l i hi,List.foldl_append];rfl
theorem fsL_append (a b:List Rat):fsL (a++b)=fsL a+fsL b:=by unfold fsL;rw[List.map_append,List.sum_append]
theorem fsL_one (q:Rat):fsL [q]=fs q:=by simp[fsL]
theorem fsL_take (l:List Rat) (i:Nat) (hi:i<l.length):fsL (l.take i)+fs (l.getD i 0)≤fsL l:=by
 have h1:fsL (l.take (i+1))=fsL (l.take i)+fs (l.getD i 0):=by rw[take_snoc l i hi,fsL_append,fsL_one]
 have h3:fsL l=fsL (l.take (i+1))+fsL (l.drop (i+1)):=by rw[←fsL_append,List.take_append_drop]
 rw[h3,h1]
 exact Nat.le_add_right _ _
theorem f_each (l:List Rat) (s:Rat) (hn:l.length<1099511627776) (h:fs s+fsL l≤1073741824) (K:Nat):
  CallOK Tryz.prog 25 [.clo 26 [.ptr K 0 0 0] [],fvec l] [(K,⟨81,true,.one [.frac s]⟩)] (.tup []) [] [(K,⟨81,true,.one [.frac (l.foldl (·+·) s)]⟩)]:=by
 refine callK (Z:=[]) tabOK mixedOK Tryz.func25 rfl (by kernel_rfl) (args:=[.clo 26 [.ptr 1001 0 0 0] [],fvec l]) (fk:=[(1001,⟨81,true,.one [.frac s]⟩)]) (c:=.tup []) (new:=[]) (upd:=[(1001,⟨81,true,.one [.frac (l.foldl (·+·) s)]⟩)]) (ShapeOK.of rfl rfl rfl rfl rfl rfl rfl rfl rfl rfl rfl) rfl (fun _=>K) NamesOK.upd ?_
 intro W0 w0 ρ0 hE
 conv=>whnf
 (repeat(first|(refine g_o (op_lenM rfl rfl rfl (ev_ok rfl) (tgt rfl) rfl) ?_;conv=>whnf)))
 refine SW_loopN hE (fun k=>k) [0,1,6,7,8] [1001] (fun m fr hp=>∃i,m=l.length - i∧i≤l.length∧fr=[(0,.clo 26 [.ptr 1001 0 0 0] []),(1,fvec l),(6,fvec l),(7,.val (.int .i64 (l.length:Nat))),(8,.val (.int .i64 (i:Nat)))]∧
  hp=[(1001,⟨81,true,.one [.frac ((l.take i).foldl (·+·) s)]⟩)]) l.length ?_ ?_ ?_
 ·kernel_rfl
 ·exact⟨0,rfl,Nat.zero_le _,rfl,rfl⟩
 rintro m _ _ ⟨i,rfl,hi,rfl,rfl⟩
 conv=>whnf
 by_cases hlt:i<l.length
 ·have t1:=dlt hlt
  have t2:=winc (i:=i) (by omega)
  have hs:=fs_sum (l.take i) s
  have hs2:=fsL_take l i hlt
  have k1:=f_totalAdd ((l.take i).foldl (·+·) s) (l.getD i 0) (by omega) 1001
  rw[←foldl_take l i hlt s]at k1
  (repeat((first|refine step_w1 rfl rfl ?_|refine g_c1u (by assumption) rfl rfl ?_|refine g_o (op_indexN (α:=Rat) (d:=0) rfl (ev_ok rfl) (ev_ok rfl) (tgt rfl) rfl (tgt rfl) rfl (by omega)) ?_|refine g_o (op_loadA rfl (ev_ok rfl) (tgt rfl) rfl (Nat.succ_ne_zero _) rfl) ?_|rw[t1]|rw[t2]);conv=>whnf))
  exact⟨l.length - (i+1),fun k=>k,[0,1,6,7,8],[1001],by omega,by kernel_rfl,i+1,rfl,hlt,rfl,rfl⟩
 ·have t1:=dge hlt
  have hI:i=l.length:=by omega
  subst hI
  rw[List.take_length]
  (repeat(first|(refine step_w2 rfl rfl ?_;conv=>whnf)|(rw[t1];conv=>whnf)))
  exact⟨Recast.refl _,(fun _ _ h=>by cases h),fun k b hm=>by simp only[List.mem_singleton,Prod.mk.injEq]at hm;obtain⟨rfl,rfl⟩:=hm;rfl⟩
theorem f_Sum (l:List Rat) (hn:l.length<1099511627776) (h:fsL l+2≤1073741824):CallOK Tryz.prog 7 [fvec l] [] (.frac (l.foldl (·+·) 0)) [] []:=by
 have k1:=f_each l 0 hn (by rw[fs_zero];omega) 3
 refine callV (Z:=[]) tabOK mixedOK Tryz.func7 rfl (by kernel_rfl) rfl rfl (by kernel_rfl) rfl ?_
 intro W0 w0 ρ0 hE
 conv=>whnf
 (repeat(first|(refine g_c1u (by assumption) rfl rfl ?_;conv=>whnf)|(refine g_o (op_makeFunc rfl rfl rfl) ?_;conv=>whnf)));(first|exact Recast.refl _|exact Frz.recast (Recast.refl _) rfl|(refine Frz.one rfl rfl ?_;skip)|(refine Frz.tup ?_;skip))
end Go.Proofs.YthaeohlijigplaaGreat
namespace Go.Sx
set_option linter.unusedSimpArgs false
set_option linter.unusedVariables false
set_option maxRecDepth 100000
mutual
theorem renS_id:∀c:SV,renS (fun k=>k) c=c
 |.any=>rfl
 |.val _=>rfl
 |.ptr .. =>rfl
 |.slc .. =>rfl
 |.nat _=>rfl
 |.int _=>rfl
 |.frac _=>rfl
 |.atom _=>rfl
 |.agg cs=>by simp only[renS,renL_id cs]
 |.tup cs=>by simp only[renS,renL_id cs]
 |.clo f a b=>by simp only[renS,renL_id a,renL_id b]
 |.yld k rc ts a=>by simp only[renS,renL_id a]
 |.mp _=>rfl
theorem renL_id:∀l:List SV,renL (fun k=>k) l=l
 |[]=>rfl
 |c::l=>by simp only[renL,renS_id c,renL_id l]
end
theorem renB_id (b:Blk):renB (fun k=>k) b=b:=by
 obtain⟨ty,wr,d⟩:=b
 cases d<;>simp only[renB,renD,renL_id]
def keylessD:Data→Bool
 |.one cs=>keylessL cs
 |.loop _=>false
 |.mp _=>false
 |.mit .. =>false
 |_=>true
theorem keylessD_has {ρ ρ':Rho} (hi:∀b o,ρ.imm b=some o→ρ'.imm b=some o) {d:Data} {vs:List Value} (hk:keylessD d=true) (h:DataC ρ d vs):DataC ρ' d vs:=by
 cases d with
 |one cs=>
  obtain⟨z,h1,h2⟩:=h
  exact⟨z,keylessL_has hi cs z hk h1,h2⟩
 |seq w xs=>
  obtain⟨z,h1,h2⟩:=h
  exact⟨z,HasZ.mono (bareR_le hi _ _) _ _ h1,h2⟩
 |ints kd xs=>exact h
 |fracs xs=>exact h
 |dead=>exact h
 |loop rc=>cases hk
 |mp l=>cases hk
 |mit k l c=>cases hk
theorem keylessD_cells {d:Data} (hk:keylessD d=true):d.isLoop=false:=by cases d<;>first|rfl|cases hk
structure RoundOK (x:SV) (cap:List SV) (fk upd:List (Nat×Blk)):Prop where
 px:passable x=true
 pc:cap.all passable=true
 nd:nodupN (keysOf fk)=true
 rx:subN (refs x) (keysOf fk)=true
 rc:subN (refsL cap) (keysOf fk)=true
 rf:subN (refsB fk) (keysOf fk)=true
 lp:∀q b,(q,b)∈fk→b.data.isLoop=false
 up:∀q b,(q,b)∈upd→∃b0,(q,b0)∈fk∧b0.wr=true∧b0.data.live=true∧b.wr=true∧b.data.live=true∧keylessD b.data=true
 all:∀q b,(q,b)∈fk→b.wr=true→b.data.live=true→∃b',(q,b')∈upd
theorem has_cap {ρ:Rho}:∀(cap:List SV) (zc:List (List Value)) (ts:List Nat) (tm:Array Value),HasZ ρ cap zc→cap.all passable=true→(List.zipWith mkV cap zc=ts.map fun t=>tm.getD t undef)→
  ∀t c,lk (ts.zip cap) t=some c→Has ρ c (tm.getD t undef)
 |[],zc,ts,tm,_,_,_,t,c,h=>by cases ts<;>simp[lk]at h
 |d::cap,zc,[],tm,hz,_,he,t,c,h=>by simp[lk]at h
 |d::cap,zc,u::ts,tm,hz,hp,he,t,c,h=>by
  simp only[HasZ]at hz
  obtain⟨y,r,rfl,h1,h2⟩:=hz
  simp only[List.all_cons,Bool.and_eq_true]at hp
  simp only[List.zipWith_cons_cons,List.map_cons,List.cons.injEq]at he
  simp only[List.zip_cons_cons,lk]at h
  cases hb:Nat.beq u t with
  |true=>
   rw[hb]at h
   simp only[Option.some.injEq]at h
   subst h
   obtain rfl:=Nat.eq_of_beq_eq_true hb
   rw[←he.1]
   exact(Has_iff hp.1).2 ⟨y,h1,rfl⟩
  |false=>
   rw[hb]at h
   exact has_cap cap r ts tm h2 hp.2 he.2 t c h
theorem enter_run {P:Program} {ro:Option Nat} {w:World} (f:FuncId) (tmps:Array Value) (ps:Array Tmp) (asg bdy:Code) (hro:∀l,ro=some l→∃r,w.heap[l]? =some (.loop r)):
  ∃l mark W1 D0,(Instr.enterLoop f tmps ps asg bdy ro).run P w= .ok (l,mark) W1∧W1.heap[l]? =some (.loop {state:=.ready,pending:=none,fn:=f,tmps,params:=ps,assign:=asg,body:=bdy,defers:=D0})∧
   w.heap.size≤l∧Pres (fun _=>False) w W1∧(mark=[]∨∃D,mark=[mk1 D]∧w.heap.size≤D∧W1.heap[D]? =some (.deferred (some []))):=by
 cases ro with
 |none=>
  refine⟨_,_,_,w.heap.size,run_enterLoop_outer f tmps ps asg bdy, ?_,by omega, ?_,.inr ⟨w.heap.size,rfl,Nat.le_refl _, ?_⟩⟩
  ·have:=World.alloc_heap_new (w.alloc (.deferred (some []))) (.loop {state:=.ready,pending:=none,fn:=f,tmps,params:=ps,assign:=asg,body:=bdy,defers:=w.heap.size})
   rwa [World.size_alloc]at this
  ·exact .of_below (((RowKit.Below.refl _ w).alloc (Nat.le_refl _) _).alloc (by simp) _) (Nat.le_refl _)
  ·exact(RowKit.Below.heap_alloc _ _ _ (by simp)).trans (World.alloc_heap_new w _)
 |some l=>
  obtain⟨r,hr⟩:=hro l rfl
  refine⟨_,_,_,r.defers,run_enterLoop_inner hr f tmps ps asg bdy,World.alloc_heap_new w _,Nat.le_refl _, ?_,.inl rfl⟩
  exact .of_below ((RowKit.Below.refl _ w).alloc (Nat.le_refl _) _) (Nat.le_refl _)
end Go.Sx
namespace Go.Sx
set_option linter.unusedSimpArgs false
set_option linter.unusedVariables false
set_option maxRecDepth 100000
def kv (p:Int×Int):Value:=.agg #[.int .i64 p.1,.int .i64 p.2]
structure PairKey (P:Program) (K:TypeId):Prop where
 und:∃d,P.underlying K=some d
 check:∀(em:Bool) (p:Int×Int) (w:World),(Instr.checkKey em 10000 K (kv p)).run P w= .ok () w
 eq:∀(p q:Int×Int) (w:World),(Op.equal K (kv p) (kv q)).run P w= .ok (decide (p=q)) w
structure EV (β:Type) where
 s:β→SV
 v:β→Value
 has:∀(ρ:Rho) b x,Has ρ (s b) x↔x=v b
def mE {β:Type} (E:EV β) (l:List ((Int×Int)×β)):List (Value×Value):=l.map fun e=>(kv e.1,E.v e.2)
section
variable {β:Type}
def lookI:List ((Int×Int)×β)→Int×Int→Nat→Option (Nat×β)
 |[],_,_=>none
 |e::es,p,i=>if p=e.1 then some (i,e.2)else lookI es p (i+1)
def look (l:List ((Int×Int)×β)) (p:Int×Int):Option β:=(lookI l p 0).map (·.2)
def updL:List ((Int×Int)×β)→Int×Int→β→List ((Int×Int)×β)
 |[],p,v=>[(p,v)]
 |e::es,p,v=>if p=e.1 then(p,v)::es else e::updL es p v
def idxL:List ((Int×Int)×β)→Int×Int→Nat
 |[],_=>0
 |e::es,p=>if p=e.1 then 0 else idxL es p+1
theorem lookI_shift:∀(l:List ((Int×Int)×β)) (p:Int×Int) (i:Nat),lookI l p i=(lookI l p 0).map fun x=>(x.1+i,x.2)
 |[],_,_=>rfl
 |e::l,p,i=>by
  simp only[lookI]
  by_cases h:p=e.1
  ·simp[h]
  ·rw[if_neg h,if_neg h,lookI_shift l p (i+1),lookI_shift l p 1,Option.map_map]
   congr 1
   funext x
   simp only[Function.comp_apply]
   congr 1;omega
theorem lookI_idx:∀{l:List ((Int×Int)×β)} {p:Int×Int} {x:Nat×β},lookI l p 0=some x→x.1=idxL l p∧x.1<l.length∧l[x.1]? =some (p,x.2)
 |[],_,_,h=>by simp[lookI]at h
 |e::l,p,x,h=>by
  simp only[lookI,idxL]at h ⊢
  by_cases he:p=e.1
  ·rw[if_pos he]at h ⊢
   cases h
   simp[he]
  ·rw[if_neg he,lookI_shift,Option.map_eq_some_iff]at h
   obtain⟨y,hy,rfl⟩:=h
   obtain⟨h1,h2,h3⟩:=lookI_idx hy
   rw[if_neg he]
   refine⟨by simp[h1],by simp only[List.length_cons];omega,by simpa using h3⟩
theorem lookI_none:∀{l:List ((Int×Int)×β)} {p:Int×Int},lookI l p 0=none→idxL l p=l.length∧∀v,updL l p v=l++[(p,v)]
 |[],_,_=>⟨rfl,fun _=>rfl⟩
 |e::l,p,h=>by
  simp only[lookI]at h
  by_cases he:p=e.1
  ·rw[if_pos he]at h;cases h
  ·rw[if_neg he,lookI_shift,Option.map_eq_none_iff]at h
   obtain⟨h1,h2⟩:=lookI_none h
   simp only[idxL,updL,if_neg he,h1,h2]
   exact⟨rfl,fun _=>rfl⟩
theorem updL_set:∀{l:List ((Int×Int)×β)} {p:Int×Int} {x:Nat×β},lookI l p 0=some x→∀v,updL l p v=l.set x.1 (p,v)
 |[],_,_,h,_=>by simp[lookI]at h
 |e::l,p,x,h,v=>by
  simp only[lookI]at h
  by_cases he:p=e.1
  ·rw[if_pos he]at h;cases h
   simp[updL,he]
  ·rw[if_neg he,lookI_shift,Option.map_eq_some_iff]at h
   obtain⟨y,hy,rfl⟩:=h
   simp[updL,he,updL_set hy v]
theorem updL_len (l:List ((Int×Int)×β)) (p:Int×Int) (v:β):(updL l p v).length=l.length+(if (look l p).isSome then 0 else 1):=by
 cases h:lookI l p 0 with
 |none=>simp[(lookI_none h).2 v,look,h]
 |some x=>simp[updL_set h v,look,h]
theorem updL_twice:∀(l:List ((Int×Int)×β)) (p:Int×Int) (x v:β),updL (updL l p x) p v=updL l p v∧(updL l p x).set (idxL l p) (p,v)=updL l p v
 |[],_,_,_=>by simp[updL,idxL]
 |e::l,p,x,v=>by
  by_cases he:p=e.1
  ·simp[updL,idxL,he]
  ·have:=updL_twice l p x v
   simp[updL,idxL,he,this.1,this.2]
theorem look_updL:∀(l:List ((Int×Int)×β)) (p q:Int×Int) (v:β),look (updL l p v) q=if q=p then some v else look l q
 |[],p,q,v=>by simp[look,updL,lookI]
 |e::l,p,q,v=>by
  have ih:=look_updL l p q v
  have e1:∀(m:List ((Int×Int)×β)) (x:(Int×Int)×β),look (x::m) q=if q=x.1 then some x.2 else look m q:=fun m x=>by
   simp only[look,lookI]
   split
   ·rfl
   ·rw[lookI_shift,Option.map_map];rfl
  by_cases he:p=e.1
  ·simp only[updL,if_pos he]
   rw[e1,e1]
   subst he
   split<;>rfl
  ·simp only[updL,if_neg he]
   rw[e1,e1,ih]
   split
   ·rename_i hq
    rw[if_neg (fun h=>he (h.symm.trans hq))]
   ·rfl
theorem entriesFrom_len:∀(l:List (Value×Value)) (n:Nat),(entriesFrom n l).length=l.length
 |[],_=>rfl
 |(k,v)::l,n=>by simp[entriesFrom,entriesFrom_len l]
theorem entriesFrom_get:∀(l:List (Value×Value)) (n i:Nat),(entriesFrom n l)[i]? =(l[i]?).map fun x=>⟨x.1,x.2,n+i⟩
 |[],_,_=>by simp[entriesFrom]
 |(k,v)::l,n,0=>by simp[entriesFrom]
 |(k,v)::l,n,i+1=>by
  simp only[entriesFrom,List.getElem?_cons_succ,entriesFrom_get l (n+1) i]
  congr 1
  funext x
  congr 1;omega
theorem entriesFrom_append:∀(l:List (Value×Value)) (n:Nat) (x:Value×Value),entriesFrom n (l++[x])=entriesFrom n l++[⟨x.1,x.2,n+l.length⟩]
 |[],n,x=>by simp[entriesFrom]
 |(k,v)::l,n,x=>by
  have:n+1+l.length=n+(l.length+1):=by omega
  simp only[List.cons_append,entriesFrom,entriesFrom_append l (n+1) x,List.length_cons,this]
theorem entriesFrom_set:∀(l:List (Value×Value)) (n i:Nat) (x:Value×Value),entriesFrom n (l.set i x)=(entriesFrom n l).modify i fun e=>{e with key:=x.1,val:=x.2}
 |[],n,i,x=>by cases i<;>simp[entriesFrom]
 |(k,v)::l,n,0,x=>by simp[entriesFrom]
 |(k,v)::l,n,i+1,x=>by simp[entriesFrom,entriesFrom_set l (n+1) i x]
theorem entries_push (l:List (Value×Value)) (x:Value×Value):(entries l).push ⟨x.1,x.2,l.length⟩=entries (l++[x]):=by
 apply Array.ext'
 simp[entries,entriesFrom_append]
theorem entries_modify (l:List (Value×Value)) (i:Nat) (x:Value×Value) (f:MapEntry→MapEntry) (hf:∀e,(entries l)[i]? =some e→f e={e with key:=x.1,val:=x.2}):(entries l).modify i f=entries (l.set i x):=by
 apply Array.ext'
 simp only[entries,entriesFrom_set,Array.toList_modify]
 apply List.ext_getElem?
 intro j
 rw[List.getElem?_modify,List.getElem?_modify]
 by_cases hj:i=j
 ·subst hj
  cases he:(entriesFrom 0 l)[i]? with
  |none=>rfl
  |some e=>
   have:=hf e (by simpa [entries]using he)
   simp[this]
 ·simp[hj]
theorem entries_get (l:List (Value×Value)) (i:Nat):(entries l)[i]? =(l[i]?).map fun x=>⟨x.1,x.2,i⟩:=by
 simp[entries,entriesFrom_get]
theorem entries_find (l:List (Value×Value)) (i:Nat) (h:i<l.length):(entries l).findIdx? (fun e=>(e.born:Int)==(i:Int))=some i:=by
 rw[Array.findIdx?_eq_some_iff_getElem]
 refine⟨by simpa [entries,entriesFrom_len]using h, ?_, ?_⟩
 ·have:=entries_get l i
  rw[Array.getElem?_eq_getElem (by simpa [entries,entriesFrom_len]using h),List.getElem?_eq_getElem h]at this
  simp only[Option.map_some,Option.some.injEq]at this
  rw[this];simp
 ·intro j hj
  have hjl:j<l.length:=by omega
  have:=entries_get l j
  rw[Array.getElem?_eq_getElem (by simpa [entries,entriesFrom_len]using hjl),List.getElem?_eq_getElem hjl]at this
  simp only[Option.map_some,Option.some.injEq]at this
  rw[this]
  simp;omega
theorem run_findAsking {P:Program} {K:TypeId} (hk:PairKey P K) (E:EV β) (p:Int×Int) (w:World):∀(l:List ((Int×Int)×β)) (n i:Nat),(Instr.findAsking K (kv p) (entriesFrom n (mE E l)) i).run P w= .ok ((lookI l p i).map fun x=>(x.1,E.v x.2)) w
 |[],n,i=>by simp[mE,entriesFrom,Instr.findAsking,lookI]
 |e::l,n,i=>by
  have ih:=run_findAsking hk E p w l (n+1) (i+1)
  simp only[mE,List.map_cons,entriesFrom,Instr.findAsking,Sem.run_bind,hk.eq,Result.andThen_ok,lookI]
  by_cases h:p=e.1
  ·simp[h]
  ·simp only[h,decide_false,Bool.false_eq_true,if_false];exact ih
theorem sameNow_kv (d:TypeDesc) (p:Int×Int) (v:Value):Instr.sameNow d (kv p) v=none:=by
 cases d<;>rfl
theorem run_findKey {P:Program} {K:TypeId} (hk:PairKey P K) (E:EV β) (p:Int×Int) (w:World) (l:List ((Int×Int)×β)):(Instr.findKey K (kv p) (entries (mE E l)).toList).run P w= .ok ((lookI l p 0).map fun x=>(x.1,E.v x.2)) w:=by
 obtain⟨d,hd⟩:=hk.und
 unfold Instr.findKey
 rw[Sem.run_bind,run_underlying hd,Result.andThen_ok]
 cases l with
 |nil=>simp[mE,entries,entriesFrom,Instr.findNow,lookI]
 |cons e l=>
  have:Instr.findNow d (kv p) (entries (mE E (e::l))).toList 0=none:=by simp[entries,mE,entriesFrom,Instr.findNow,sameNow_kv]
  rw[this]
  exact run_findAsking hk E p w (e::l) 0 0
theorem stays_kv {P:Program} (p:Int×Int) (w:World):(Instr.keyThatStays (kv p) (kv p)).run P w= .ok (kv p) w:=by
 have:Instr.sameBits 10000 (kv p) (kv p)=true:=by simp[kv,Instr.sameBits]
 simp[Instr.keyThatStays,this]
theorem entries_key (E:EV β) {l:List ((Int×Int)×β)} {p:Int×Int} {x:Nat×β} (h:lookI l p 0=some x):(entries (mE E l))[x.1]? =some ⟨kv p,E.v x.2,x.1⟩:=by
 obtain⟨_,_,h3⟩:=lookI_idx h
 rw[entries_get]
 simp[mE,h3]
end
end Go.Sx
namespace Go.Sx
set_option linter.unusedSimpArgs false
set_option linter.unusedVariables false
set_option maxRecDepth 100000
theorem post_put {ρ:Rho} {w:World} {k b t:Nat} {ty:TypeId} {d d':Data} {o:Obj} (hkey:ρ.key k=some (b,t)) (hb:BlkOK ρ w k ⟨ty,true,d⟩) (hl:d.live=true) (hd':d'.live=true) (ho:∀l,d'.obj ρ l ty=o) (hD:DataC ρ d' []) {c:SV} {v:Value} (hv:Has ρ c v):
  Post ρ w c [] [(k,⟨ty,true,d'⟩)] v ρ (w.putObj b o):=by
 obtain⟨hlt,ex,hex,hex2⟩:b<w.heap.size∧∃ex:List Value,ex.length=t∧∀v∈ex,v.oneCell'=true:=by
  rcases hb with h0|⟨b',t',vs,ex,h1,h2,h3,h4,h5⟩|⟨h1,_⟩
  ·rw[hl]at h0;cases h0
  ·rw[hkey]at h1;cases h1
   refine⟨(Array.getElem?_eq_some_iff.1 h2).1,vs++ex,h4,fun v hv=> ?_⟩
   rcases List.mem_append.1 hv with hv|hv
   ·exact DataC.one' h3 v hv
   ·exact h5 v hv
  ·rw[hkey]at h1;cases h1
 refine⟨.refl ρ,hv,fun _ _=>rfl,⟨rfl,rfl,rfl,by simp,fun i hi hn=> ?_,Nat.le_refl _⟩,fun j bj hj=> ?_,(fun j c c' h1 h2 h3 h4=> ?_),(fun _ _ _ h=>by cases h),(fun _ _ _ _ _ _ h=>by cases h),fun b o h=>.inl h⟩
 ·exact World.putObj_heap_other fun hib=>hn ⟨k,_,t,List.mem_cons_self ..,by rw[hib];exact hkey⟩
 ·rcases hj with hj|hj
  ·simp only[List.mem_singleton,Prod.mk.injEq]at hj
   obtain⟨rfl,rfl⟩:=hj
   exact .inr (.inl ⟨b,t,[],ex,hkey,by rw[World.putObj_heap_same hlt];exact congrArg some (ho _).symm,hD,by simp[hex],hex2⟩)
  ·cases hj
 ·simp only[List.mem_singleton,Prod.mk.injEq]at h1 h2
  obtain⟨_,rfl⟩:=h1
  rw[hd']at h3;cases h3
theorem post_newO {ρ:Rho} {w:World} {k:Nat} {ty:TypeId} {d:Data} {o:Obj} (hk:ρ.key k=none) {c:SV} {v:Value} (hd:∀ρ':Rho,ρ.Le ρ'→DataC ρ' d []) (ho:∀ρ':Rho,ρ.Le ρ'→d.obj ρ' [] ty=o)
  (hv:∀ρ':Rho,ρ'.key k=some (w.heap.size,0)→Has ρ' c v):
  Post ρ w c [(k,⟨ty,true,d⟩)] [] v ⟨fun j=>if j=k then some (w.heap.size,0)else ρ.key j,ρ.imm,ρ.glob⟩ (w.alloc o):=by
 have hle:ρ.Le ⟨fun j=>if j=k then some (w.heap.size,0)else ρ.key j,ρ.imm,ρ.glob⟩:=⟨fun j x hx=>by
  show(if j=k then _ else _)=_
  by_cases hj:j=k
  ·subst hj;rw[hk]at hx;cases hx
  ·rw[if_neg hj];exact hx,fun b ob hb=>hb⟩
 refine⟨hle,hv _ (by simp), ?_, ?_, ?_,(fun _ _ _ h=>by cases h), ?_, ?_,fun b ob hb=>.inl hb⟩
 ·intro j hj
  show(if j=k then _ else _)=_
  rw[if_neg]
  rintro rfl
  exact hj _ (List.mem_cons_self ..)
 ·exact .of_below ((RowKit.Below.refl _ _).alloc (Nat.le_refl _) _) (Nat.le_refl _)
 ·intro j b hj
  rcases hj with hj|hj
  ·cases hj
  ·simp only[List.mem_singleton,Prod.mk.injEq]at hj
   obtain⟨rfl,rfl⟩:=hj
   exact .inr (.inl ⟨w.heap.size,0,[],[],by simp,by rw[heap_alloc_new];exact congrArg some (ho _ hle).symm,hd _ hle,rfl,by simp⟩)
 ·intro j b x hj hx
  simp only[List.mem_singleton,Prod.mk.injEq]at hj
  obtain⟨rfl,rfl⟩:=hj
  simp at hx
  rw[←hx]
  exact .inl (Nat.le_refl _)
 ·intro j b j' b' x x' hj hj' hne
  simp only[List.mem_singleton,Prod.mk.injEq]at hj hj'
  exact absurd (hj.1.trans hj'.1.symm) hne
theorem has_mp {ρ:Rho} {k b t:Nat} (h:ρ.key k=some (b,t)):Has ρ (.mp k) (.map (some b)):=by
 simp only[Has,HasC]
 exact⟨_,⟨b,t,h,rfl⟩,by simp[mkV,SV.isOne]⟩
theorem of_has_mp {ρ:Rho} {k:Nat} {v:Value} (h:Has ρ (.mp k) v):∃b t,ρ.key k=some (b,t)∧v= .map (some b):=by
 simp only[Has,HasC]at h
 obtain⟨_,⟨b,t,h1,rfl⟩,rfl⟩:=h
 exact⟨b,t,h1,by simp[mkV,SV.isOne]⟩
theorem map_at {ρ:Rho} {w:World} {k b t:Nat} {ty:TypeId} {wr:Bool} {l:List (Value×Value)} (hkey:ρ.key k=some (b,t)) (hb:BlkOK ρ w k ⟨ty,wr,.mp l⟩):w.heap[b]? =some (.map (entries l) l.length):=by
 rcases hb with h0|⟨b',t',vs,ex,h1,h2,h3,h4,_⟩|⟨h1,_⟩
 ·simp[Data.live]at h0
 ·rw[hkey]at h1;cases h1
  exact h2
 ·rw[hkey]at h1;cases h1
theorem mit_at {ρ:Rho} {w:World} {k b t q:Nat} {ty:TypeId} {wr:Bool} {l:List Nat} {c:Nat} (hkey:ρ.key k=some (b,t)) (hb:BlkOK ρ w k ⟨ty,wr,.mit q l c⟩):∃x,ρ.key q=some x∧w.heap[b]? =some (.mapIter (some x.1) c l.toArray c):=by
 rcases hb with h0|⟨b',t',vs,ex,h1,h2,h3,h4,_⟩|⟨h1,_⟩
 ·simp[Data.live]at h0
 ·rw[hkey]at h1;cases h1
  simp only[DataC]at h3
  obtain⟨_,x,y,h3⟩:=h3
  refine⟨_,h3, ?_⟩
  have:=h2
  simp only[Data.obj,h3,Option.map_some]at this
  exact this
 ·rw[hkey]at h1;cases h1
section
variable {P:Program} {o:Oper} {ft:List (Nat×SV)} {fk:List (Nat×Blk)} {β:Type}
theorem op_makeMap {t:TypeId} {k:Nat} (ho:o.op= .makeMap t none):OpOK P o ft fk (.mp k) [(k,⟨0,true,.mp []⟩)] []:=
 ok_value fun ρ a w hp=>⟨_,_,_,by simp only[execOp,ho,Option.map_none,RowKit.run_makeMap,Sem.run_bind,Result.andThen_ok,Sem.run_pure];rfl,
  post_newO (hp.fresh k _ (List.mem_cons_self ..)) (fun _ _=>rfl) (fun _ _=>rfl) (fun ρ' h=>has_mp h)⟩
theorem op_lenMap {x:Operand} {t K V:TypeId} {xs':Array Operand} {ts:Array TypeId} {k:Nat} {ty:TypeId} {wr:Bool} {l:List (Value×Value)} (ho:o.op= .call ⟨.builtin .len,xs',ts⟩) (hxs:xs'= #[x]) (hts:ts= #[t]) (hx:EvOK ft x (.mp k)) (hu:P.underlying t=some (.map K V))
  (hk:(k,⟨ty,wr,.mp l⟩)∈fk):OpOK P o ft fk (.val (.int .i64 (l.length:Int))) [] []:=
 ok_pure fun ρ a w hp=>by
  obtain⟨b,tt,hkey,hv⟩:=of_has_mp (hx ρ a hp.hft)
  have hb:=map_at hkey (hp.hfk k _ hk)
  refine⟨_, ?_,has_val rfl⟩
  simp[execOp,ho,hxs,hts,resolve,invoke,builtin,Builtin.len_,run_underlying hu,hv,goInt,getObj,Sem.run,hb,entries,entriesFrom_len]
theorem run_lookup {w:World} {t K V:TypeId} {p:Int×Int} {E:EV β} {z:β} {l:List ((Int×Int)×β)} {b:Nat} {ok:Bool} (hu:P.underlying t=some (.map K V)) (hK:PairKey P K) (hz:∀w,(zeroValue V).run P w= .ok (E.v z) w)
  (hb:w.heap[b]? =some (.map (entries (mE E l)) (mE E l).length)):(Instr.lookup t (.map (some b)) (kv p) ok).run P w= .ok (if ok then .tuple #[E.v ((look l p).getD z),.bool (look l p).isSome]else E.v ((look l p).getD z)) w:=by
 have hf:=run_findKey hK E p w l
 have hg:(getObj b).run P w= .ok (.map (entries (mE E l)) (mE E l).length) w:=MapKept.run_getObj_map hb
 simp only[Instr.lookup,Sem.run_bind,run_underlying hu,Result.andThen_ok,hg,Sem.run_pure,hK.check,hf,look]
 cases lookI l p 0 with
 |none=>simp[hz]
 |some x=>simp
theorem op_lookup {t K V:TypeId} {x y:Operand} {ky:SV} {k:Nat} {ty:TypeId} {wr:Bool} {p:Int×Int} (E:EV β) (z:β) {l:List ((Int×Int)×β)} (ho:o.op= .lookup t x y false) (hx:EvOK ft x (.mp k)) (hy:EvOK ft y ky) (hl:flatC ky=some [.int .i64 p.1,.int .i64 p.2])
  (hu:P.underlying t=some (.map K V)) (hK:PairKey P K) (hz:∀w,(zeroValue V).run P w= .ok (E.v z) w) (hk:(k,⟨ty,wr,.mp (mE E l)⟩)∈fk):OpOK P o ft fk (E.s ((look l p).getD z)) [] []:=
 ok_pure fun ρ a w hp=>by
  obtain⟨b,tt,hkey,hv⟩:=of_has_mp (hx ρ a hp.hft)
  have e2:a.eval y=kv p:=flatC_spec hl (hy ρ a hp.hft)
  refine⟨_,by simp only[execOp,ho,hv,e2,run_lookup hu hK hz (map_at hkey (hp.hfk k _ hk)),Sem.run_bind,Result.andThen_ok,Sem.run_pure];rfl,(E.has ρ _ _).2 rfl⟩
theorem has_tup2 {ρ:Rho} {c d:SV} {x y:Value} (hc:Has ρ c x) (hd:Has ρ d y) (pc:passable c=true) (pd:passable d=true):Has ρ (.tup [c,d]) (.tuple #[x,y]):=by
 obtain⟨u,h1,rfl⟩:=(Has_iff pc).1 hc
 obtain⟨v,h2,rfl⟩:=(Has_iff pd).1 hd
 simp only[Has,HasZ]
 exact⟨[u,v],⟨u,[v],rfl,h1,v,[],rfl,h2,rfl⟩,rfl⟩
theorem op_lookupOk {t K V:TypeId} {x y:Operand} {ky:SV} {k:Nat} {ty:TypeId} {wr:Bool} {p:Int×Int} (E:EV β) (z:β) {l:List ((Int×Int)×β)} (ho:o.op= .lookup t x y true) (hx:EvOK ft x (.mp k)) (hy:EvOK ft y ky) (hl:flatC ky=some [.int .i64 p.1,.int .i64 p.2])
  (hu:P.underlying t=some (.map K V)) (hK:PairKey P K) (hz:∀w,(zeroValue V).run P w= .ok (E.v z) w) (hpass:∀b,passable (E.s b)=true) (hk:(k,⟨ty,wr,.mp (mE E l)⟩)∈fk):OpOK P o ft fk (.tup [E.s ((look l p).getD z),.val (.bool (look l p).isSome)]) [] []:=
 ok_pure fun ρ a w hp=>by
  obtain⟨b,tt,hkey,hv⟩:=of_has_mp (hx ρ a hp.hft)
  have e2:a.eval y=kv p:=flatC_spec hl (hy ρ a hp.hft)
  refine⟨_,by simp only[execOp,ho,hv,e2,run_lookup hu hK hz (map_at hkey (hp.hfk k _ hk)),Sem.run_bind,Result.andThen_ok,Sem.run_pure];rfl, ?_⟩
  exact has_tup2 ((E.has ρ _ _).2 rfl) (has_val rfl) (hpass _) rfl
theorem run_mapUpdate {w:World} {t K V:TypeId} {p:Int×Int} {E:EV β} {v:β} {l:List ((Int×Int)×β)} {b:Nat} (hu:P.underlying t=some (.map K V)) (hK:PairKey P K)
  (hb:w.heap[b]? =some (.map (entries (mE E l)) (mE E l).length)):(Instr.mapUpdate t (.map (some b)) (kv p) (E.v v)).run P w= .ok () (w.putObj b (.map (entries (mE E (updL l p v))) (mE E (updL l p v)).length)):=by
 have hf:=run_findKey hK E p w l
 have hg:(getObj b).run P w= .ok (.map (entries (mE E l)) (mE E l).length) w:=MapKept.run_getObj_map hb
 have hs:∀o,(setObj b o).run P w= .ok () (w.putObj b o):=fun o=>MapKept.run_setObj_map o hb
 simp only[Instr.mapUpdate,Sem.run_bind,run_underlying hu,Result.andThen_ok,hg,hK.check,hf]
 cases hx:lookI l p 0 with
 |none=>
  simp only[Option.map_none,hs]
  have h1:=(lookI_none hx).2 v
  rw[h1]
  congr 2
  have:=entries_push (mE E l) (kv p,E.v v)
  rw[this]
  simp[mE]
 |some x=>
  have hk:=entries_key E hx
  simp only[Option.map_some,hk,Option.getD_some,Sem.run_bind,stays_kv,Result.andThen_ok,hs]
  rw[updL_set hx v]
  congr 2
  rw[entries_modify (mE E l) x.1 (kv p,E.v v) _ (fun e _=>rfl)]
  simp[mE,List.map_set]
theorem op_mapUpdate {t K V:TypeId} {x y u:Operand} {ky:SV} {k:Nat} {ty:TypeId} {p:Int×Int} (E:EV β) {v:β} {l:List ((Int×Int)×β)} (ho:o.op= .mapUpdate t x y u) (hx:EvOK ft x (.mp k)) (hy:EvOK ft y ky) (hv:EvOK ft u (E.s v)) (hl:flatC ky=some [.int .i64 p.1,.int .i64 p.2])
  (hu:P.underlying t=some (.map K V)) (hK:PairKey P K) (hk:(k,⟨ty,true,.mp (mE E l)⟩)∈fk):OpOK P o ft fk .any [] [(k,⟨ty,true,.mp (mE E (updL l p v))⟩)]:=
 ok_skip fun ρ a w hp=>by
  obtain⟨b,tt,hkey,hm⟩:=of_has_mp (hx ρ a hp.hft)
  have e2:a.eval y=kv p:=flatC_spec hl (hy ρ a hp.hft)
  have e3:a.eval u=E.v v:=(E.has ρ _ _).1 (hv ρ a hp.hft)
  exact⟨_,ρ,by simp only[execOp,ho,hm,e2,e3,run_mapUpdate hu hK (map_at hkey (hp.hfk k _ hk)),Sem.run_bind,Result.andThen_ok,Sem.run_pure],
   post_put (d':=.mp (mE E (updL l p v))) hkey (hp.hfk k _ hk) rfl rfl (fun _=>rfl) rfl trivial⟩
theorem run_mapEntry {w:World} {t K V:TypeId} {p:Int×Int} {E:EV β} {z:β} {l:List ((Int×Int)×β)} {b:Nat} (hu:P.underlying t=some (.map K V)) (hK:PairKey P K) (hz:∀w,(zeroValue V).run P w= .ok (E.v z) w)
  (hb:w.heap[b]? =some (.map (entries (mE E l)) (mE E l).length)):(Instr.mapEntry t (.map (some b)) (kv p)).run P w= .ok (.tuple #[E.v ((look l p).getD z),goInt (idxL l p)]) (w.putObj b (.map (entries (mE E (updL l p ((look l p).getD z)))) (mE E (updL l p ((look l p).getD z))).length)):=by
 have hf:=run_findKey hK E p w l
 have hg:(getObj b).run P w= .ok (.map (entries (mE E l)) (mE E l).length) w:=MapKept.run_getObj_map hb
 have hs:∀o,(setObj b o).run P w= .ok () (w.putObj b o):=fun o=>MapKept.run_setObj_map o hb
 simp only[Instr.mapEntry,Sem.run_bind,run_underlying hu,Result.andThen_ok,hg,hK.check,hf]
 cases hx:lookI l p 0 with
 |none=>
  have h1:=(lookI_none hx).2 z
  have h2:=(lookI_none hx).1
  simp only[Option.map_none,Sem.run_bind,hz,Result.andThen_ok,hs,Sem.run_pure,look,hx,Option.getD_none,h1,h2]
  have:=entries_push (mE E l) (kv p,E.v z)
  rw[this]
  simp[mE]
 |some x=>
  have hk:=entries_key E hx
  have h2:=(lookI_idx hx).1
  simp only[Option.map_some,hk,Option.getD_some,Sem.run_bind,stays_kv,Result.andThen_ok,hs,Sem.run_pure,look,hx]
  rw[updL_set hx x.2]
  rw[entries_modify (mE E l) x.1 (kv p,E.v x.2) _ (fun e he=>by rw[hk]at he;cases he;rfl)]
  simp[mE,List.map_set,h2]
theorem op_mapEntry {t K V:TypeId} {x y:Operand} {ky:SV} {k:Nat} {ty:TypeId} {p:Int×Int} (E:EV β) (z:β) {l:List ((Int×Int)×β)} (ho:o.op= .mapEntry t x y) (hx:EvOK ft x (.mp k)) (hy:EvOK ft y ky) (hl:flatC ky=some [.int .i64 p.1,.int .i64 p.2])
  (hu:P.underlying t=some (.map K V)) (hK:PairKey P K) (hz:∀w,(zeroValue V).run P w= .ok (E.v z) w) (hpass:∀b,passable (E.s b)=true) (hk:(k,⟨ty,true,.mp (mE E l)⟩)∈fk):
  OpOK P o ft fk (.tup [E.s ((look l p).getD z),.val (.int .i64 (idxL l p:Int))]) [] [(k,⟨ty,true,.mp (mE E (updL l p ((look l p).getD z)))⟩)]:=
 ok_value fun ρ a w hp=>by
  obtain⟨b,tt,hkey,hm⟩:=of_has_mp (hx ρ a hp.hft)
  have e2:a.eval y=kv p:=flatC_spec hl (hy ρ a hp.hft)
  exact⟨_,_,ρ,by simp only[execOp,ho,hm,e2,run_mapEntry hu hK hz (map_at hkey (hp.hfk k _ hk)),Sem.run_bind,Result.andThen_ok,Sem.run_pure];rfl,
   post_put (d':=.mp (mE E (updL l p ((look l p).getD z)))) hkey (hp.hfk k _ hk) rfl rfl (fun _=>rfl) rfl (has_tup2 ((E.has ρ _ _).2 rfl) (has_val rfl) (hpass _) rfl)⟩
theorem idxL_lt (l:List ((Int×Int)×β)) (p:Int×Int) (v:β):idxL l p<(updL l p v).length:=by
 cases hx:lookI l p 0 with
 |none=>rw[(lookI_none hx).1,(lookI_none hx).2];simp
 |some x=>rw[←(lookI_idx hx).1,updL_set hx];simpa using(lookI_idx hx).2.1
theorem op_entryStore {t:TypeId} {x y u:Operand} {k:Nat} {ty:TypeId} {p:Int×Int} (E:EV β) {v z:β} {l:List ((Int×Int)×β)} (ho:o.op= .entryStore t x y u) (hx:EvOK ft x (.mp k)) (hy:EvOK ft y (.val (.int .i64 (idxL l p:Int)))) (hv:EvOK ft u (E.s v))
  (hk:(k,⟨ty,true,.mp (mE E (updL l p z))⟩)∈fk):OpOK P o ft fk .any [] [(k,⟨ty,true,.mp (mE E (updL l p v))⟩)]:=
 ok_skip fun ρ a w hp=>by
  obtain⟨b,tt,hkey,hm⟩:=of_has_mp (hx ρ a hp.hft)
  have e2:=of_has_val (hy ρ a hp.hft)
  have e3:a.eval u=E.v v:=(E.has ρ _ _).1 (hv ρ a hp.hft)
  have hb:=map_at hkey (hp.hfk k _ hk)
  have hg:(getObj b).run P w= .ok (.map (entries (mE E (updL l p z))) (mE E (updL l p z)).length) w:=MapKept.run_getObj_map hb
  have hs:∀o,(setObj b o).run P w= .ok () (w.putObj b o):=fun o=>MapKept.run_setObj_map o hb
  have hi:idxL l p<(mE E (updL l p z)).length:=by simpa [mE]using idxL_lt l p z
  have hfi:=entries_find _ _ hi
  have hm2:(entries (mE E (updL l p z))).modify (idxL l p) (fun e=>{e with val:=E.v v})=entries (mE E (updL l p v)):=by
   rw[entries_modify _ _ (kv p,E.v v)]
   ·rw[show mE E (updL l p v)=(mE E (updL l p z)).set (idxL l p) (kv p,E.v v) by rw[←(updL_twice l p z v).2];simp[mE,List.map_set]]
   ·intro e he
    rw[entries_get,Option.map_eq_some_iff]at he
    obtain⟨y,hy,rfl⟩:=he
    have hkp:y.1=kv p:=by
     cases hx:lookI l p 0 with
     |none=>
      rw[(lookI_none hx).1,(lookI_none hx).2,mE,List.map_append,List.getElem?_append_right (by simp)]at hy
      simp at hy
      rw[←hy]
     |some x=>
      rw[←(lookI_idx hx).1,updL_set hx,mE,List.map_set,List.getElem?_set_self (by simpa using(lookI_idx hx).2.1)]at hy
      cases hy;rfl
    simp[hkp]
  refine⟨_,ρ, ?_,post_put (d':=.mp (mE E (updL l p v))) hkey (hp.hfk k _ hk) rfl rfl (fun _=>rfl) rfl trivial⟩
  have ha:∀n:Int,(asInt (.int .i64 n)).run P w= .ok n w:=fun _=>rfl
  have hlen:(mE E (updL l p z)).length=(mE E (updL l p v)).length:=by simp[mE,updL_len]
  simp only[execOp,ho,hm,e2,e3,Instr.entryStore,Sem.run_bind,hg,Result.andThen_ok,ha,hfi,hs,hm2,Sem.run_pure,hlen]
theorem op_range {t K V:TypeId} {x:Operand} {j k:Nat} {ty:TypeId} {wr:Bool} {l:List (Value×Value)} (ho:o.op= .range t x) (hx:EvOK ft x (.mp k)) (hu:P.underlying t=some (.map K V)) (hk:(k,⟨ty,wr,.mp l⟩)∈fk):
  OpOK P o ft fk (.ptr j 0 0 0) [(j,⟨0,true,.mit k [] l.length⟩)] []:=
 ok_value fun ρ a w hp=>by
  obtain⟨b,tt,hkey,hm⟩:=of_has_mp (hx ρ a hp.hft)
  have hb:=map_at hkey (hp.hfk k _ hk)
  have hg:(getObj b).run P w= .ok (.map (entries l) l.length) w:=MapKept.run_getObj_map hb
  refine⟨_,_,_, ?_,post_newO (o:=.mapIter (some b) l.length #[] l.length) (hp.fresh j _ (List.mem_cons_self ..)) (fun ρ' h=>⟨rfl,b,tt,h.key _ _ hkey⟩) (fun ρ' h=>by simp only[Data.obj,h.key _ _ hkey,Option.map_some]) (v:=.pointer (some ⟨w.heap.size,0,none⟩)) (fun ρ' h=> ?_)⟩
  ·simp only[execOp,ho,hm,Instr.range,Sem.run_bind,run_underlying hu,Result.andThen_ok,hg,Sem.run_pure]
   rfl
  ·simp only[Has,HasC]
   exact⟨_,⟨w.heap.size,0,h,by simp;rfl⟩,by simp[mkV,SV.isOne]⟩
end
end Go.Sx
namespace Go.Sx
set_option linter.unusedSimpArgs false
set_option linter.unusedVariables false
set_option maxRecDepth 100000
section
variable {P:Program} {o:Oper} {ft:List (Nat×SV)} {fk:List (Nat×Blk)} {β:Type}
def kS (p:Int×Int):SV:=.agg [.val (.int .i64 p.1),.val (.int .i64 p.2)]
theorem has_kS (ρ:Rho) (p:Int×Int):Has ρ (kS p) (kv p):=by
 simp only[kS,Has,HasC,HasZ]
 exact⟨_,⟨_,⟨_,_,rfl,⟨rfl,rfl⟩,_,_,rfl,⟨rfl,rfl⟩,rfl⟩,rfl⟩,rfl⟩
theorem has_tup3 {ρ:Rho} {c d e:SV} {x y z:Value} (hc:Has ρ c x) (hd:Has ρ d y) (he:Has ρ e z) (pc:passable c=true) (pd:passable d=true) (pe:passable e=true):Has ρ (.tup [c,d,e]) (.tuple #[x,y,z]):=by
 obtain⟨u,h1,rfl⟩:=(Has_iff pc).1 hc
 obtain⟨v,h2,rfl⟩:=(Has_iff pd).1 hd
 obtain⟨q,h3,rfl⟩:=(Has_iff pe).1 he
 simp only[Has,HasZ]
 exact⟨[u,v,q],⟨u,[v,q],rfl,h1,v,[q],rfl,h2,q,[],rfl,h3,rfl⟩,rfl⟩
theorem entries_mem (l:List (Value×Value)) (e:MapEntry):e∈(entries l).toList↔∃i x,l[i]? =some x∧e=⟨x.1,x.2,i⟩:=by
 rw[List.mem_iff_getElem?]
 constructor
 ·rintro⟨i,hi⟩
  have:=entries_get l i
  rw[←Array.getElem?_toList,hi]at this
  cases hx:l[i]? with
  |none=>rw[hx]at this;cases this
  |some x=>rw[hx]at this;cases this;exact⟨i,x,hx,rfl⟩
 ·rintro⟨i,x,hx,rfl⟩
  exact⟨i,by rw[Array.getElem?_toList,entries_get,hx];rfl⟩
theorem entries_born (l:List (Value×Value)):((entries l).toList.map (·.born)).Nodup:=by
 have:∀(l:List (Value×Value)) (n:Nat),(entriesFrom n l).map (·.born)=List.range' n l.length:=by
  intro l
  induction l with
  |nil=>intro n;rfl
  |cons x l ih=>obtain⟨k,v⟩:=x;intro n;simp[entriesFrom,ih,List.range'_succ]
 have h:=this l 0
 simp only[entries]
 rw[h]
 exact List.nodup_range'
theorem post_put1 {ρ:Rho} {w w1:World} {k b t:Nat} {ty:TypeId} {d d':Data} {o:Obj} (hw:w1=w∨w1=w.drew) (hkey:ρ.key k=some (b,t)) (hb:BlkOK ρ w k ⟨ty,true,d⟩) (hl:d.live=true) (hd':d'.live=true) (ho:∀l,d'.obj ρ l ty=o) (hD:DataC ρ d' []) {c:SV} {v:Value} (hv:Has ρ c v):
  Post ρ w c [] [(k,⟨ty,true,d'⟩)] v ρ (ChangeMaps.setBlock w1 b o):=by
 have h:=post_put (c:=c) (v:=v) hkey hb hl hd' ho hD hv
 have e:(ChangeMaps.setBlock w1 b o).heap=(w.putObj b o).heap∧(ChangeMaps.setBlock w1 b o).os=w.os∧(ChangeMaps.setBlock w1 b o).tape=w.tape∧(ChangeMaps.setBlock w1 b o).output=w.output∧w.drawn≤(ChangeMaps.setBlock w1 b o).drawn:=by
  rcases hw with rfl|rfl<;>exact⟨rfl,rfl,rfl,rfl,by first|exact Nat.le_refl _|exact Nat.le_succ _⟩
 obtain⟨e1,e2,e3,e4,e5⟩:=e
 refine⟨h.le,h.has,h.key,⟨e2,e3,e4,by rw[e1];exact h.pres.size,fun i hi hn=>by rw[e1];exact h.pres.block i hi hn,e5⟩,fun j bj hj=> ?_,h.once,(fun _ _ _ h=>by cases h),(fun _ _ _ _ _ _ h=>by cases h),fun b o h=>.inl h⟩
 have:=h.blk j bj hj
 unfold BlkOK at this ⊢
 rw[e1];exact this
theorem op_entry {x:Operand} {j k i:Nat} {ty ty2:TypeId} {wr wr2:Bool} {p:Int×Int} {v:β} (E:EV β) {s:List Nat} {l:List ((Int×Int)×β)} (ho:o.op= .entry x) (hx:EvOK ft x (.ptr j 0 0 0)) (hpass:∀b,passable (E.s b)=true)
  (hj:(j,⟨ty,wr,.mit k (s++[i]) l.length⟩)∈fk) (hk:(k,⟨ty2,wr2,.mp (mE E l)⟩)∈fk) (hi:l[i]? =some (p,v)):OpOK P o ft fk (.tup [kS p,E.s v]) [] []:=
 ok_pure fun ρ a w hp=>by
  have hx:=hx ρ a hp.hft
  simp only[Has,HasC]at hx
  obtain⟨_,⟨b,n,hkey,rfl⟩,hv⟩:=hx
  simp only[mkV,SV.isOne,if_true,List.headD_cons,Nat.zero_mul,Nat.add_zero]at hv
  obtain⟨m,hm,hbj⟩:=mit_at hkey (hp.hfk j _ hj)
  have hbk:=map_at (b:=m.1) (t:=m.2) hm (hp.hfk k _ hk)
  have he:(⟨kv p,E.v v,i⟩:MapEntry)∈(entries (mE E l)).toList:=(entries_mem _ _).2 ⟨i,(kv p,E.v v),by simp[mE,hi],rfl⟩
  have h:=run_entry_at (P:=P) w b m.1 l.length s.toArray (entries (mE E l)) l.length ⟨kv p,E.v v,i⟩ (by simpa using hbj) (by simpa [mE]using hbk) he (entries_born _)
  exact⟨_,by simp only[execOp,ho,hv,h,Sem.run_bind,Result.andThen_ok,Sem.run_pure],has_tup2 (has_kS ρ p) ((E.has ρ _ _).2 rfl) rfl (hpass _)⟩
end
theorem SWx_next {β:Type} {E:Env} (hE:E.OK) {id:Nat} {o:Oper} {rest:List Oper} {K:Post'} {fr:List (Nat×SV)} {hp:List (Nat×Blk)} {x:Operand} {j k:Nat} {seen:List Nat} {ty ty2:TypeId} {wr2:Bool} (V:EV β) {l:List ((Int×Int)×β)}
  (ho:o.op= .next x false) (hg:o.guard=none) (hd:dstOK E.n o.dst=true) (hx:ev fr x=some (.ptr j 0 0 0)) (hlo:∀t,t∈looks o→(∃c,lk fr t=some c)) (hxl:EvOK (pick fr (looks o)) x (.ptr j 0 0 0)) (hpass:∀b,passable (V.s b)=true)
  (hj:find hp j=some ⟨ty,true,.mit k seen l.length⟩) (hk:find hp k=some ⟨ty2,wr2,.mp (mE V l)⟩) (hjk:j≠k)
  (h0:(∀i,i<l.length→i∈seen)→lex E (o::rest) rest (layF o.dst (.tup [.val (.bool false)]) fr) hp [] (fun fr' hp' _=>K .normal fr' hp'))
  (h1:∀i p v,i∉seen→l[i]? =some (p,v)→lex E (o::rest) rest (layF o.dst (.tup [.val (.bool true),kS p,V.s v]) fr) (layH [(j,⟨ty,true,.mit k (seen++[i]) l.length⟩)] hp) [] (fun fr' hp' _=>K .normal fr' hp')):
  SWx E (.region id (o::rest).toArray false) K fr hp:=by
 refine⟨fun a w hR=>wpIn_region_list ?_⟩
 have hrun:∀(c:SV) (upd:List (Nat×Blk)),(∀q b,(q,b)∈upd→q=j∧b.wr=true)→lex E (o::rest) rest (layF o.dst c fr) (layH upd hp) [] (fun fr' hp' _=>K .normal fr' hp')→
   ∀a' w',RR E (fn (layF o.dst c fr) (layH upd hp)) a' w'→wpListIn (fen E.ro) 0 E.P (o::rest).toArray (liftQ E K) rest a' w':=fun c upd _ h a' w' hR'=>by
  obtain⟨recs,fr',hp',h2,h3⟩:=lex_runs hE.tab rest _ _ _ h
  exact runs_list rest _ _ _ _ _ h2 (fun a w hR=>⟨fr',hp',h3,hR⟩) a' w' hR'
 show wpListIn (fen E.ro) 0 E.P (o::rest).toArray (liftQ E K) (o::rest) a w
 unfold wpListIn
 rw[if_pos (by simp[Region.wanted,hg])]
 refine goes_wpIn ?_
 obtain⟨ρ,hle,hfx,hR⟩:=hR
 have hlt:∀d,o.dst=some d→d<E.n:=fun d h=>by rw[h]at hd;simpa [dstOK,Nat.blt_eq]using hd
 have hxv:=hxl ρ a (fun t sv h=>hR.fr t sv (pick_mem h).1)
 simp only[Has,HasC]at hxv
 obtain⟨_,⟨b,n,hkey,rfl⟩,hv⟩:=hxv
 simp only[mkV,SV.isOne,if_true,List.headD_cons,Nat.zero_mul,Nat.add_zero]at hv
 have hbj0:=hR.hp.blk j _ hj
 obtain⟨m,hm,hbj⟩:=mit_at hkey hbj0
 have hbk:=map_at (b:=m.1) (t:=m.2) hm (hR.hp.blk k _ hk)
 have hes:∀x∈(entries (mE V l)).toList,x.born<l.length:=fun x hx=>by
  obtain⟨i,y,hy,rfl⟩:=(entries_mem _ _).1 hx
  have:=(List.getElem?_eq_some_iff.1 hy).1
  simpa [mE]using this
 have fin:∀(c:SV) (upd:List (Nat×Blk)) (v:Value) (w':World),(∀q b,(q,b)∈upd→q=j∧b.wr=true)→Post ρ w c [] upd v ρ w'→(execOp a.eval o).run E.P w= .ok (.value v) w'→
   lex E (o::rest) rest (layF o.dst c fr) (layH upd hp) [] (fun fr' hp' _=>K .normal fr' hp')→goes E.P o a w (fun a' w'=>wpListIn (fen E.ro) 0 E.P (o::rest).toArray (liftQ E K) rest a' w'):=by
  intro c upd v w' hu hpo hrn hlex
  unfold goes
  rw[hrn]
  have h4:=lay_post (new:=[]) (upd:=upd) (dst:=o.dst) hR (fun _ _ h=>by cases h) (fun q bq hq=>by
   obtain⟨rfl,hw⟩:=hu q bq hq
   exact⟨_,hj,rfl,rfl,hw⟩) hlt hpo
  obtain⟨g1,g2,g3,g4⟩:=h4
  rw[List.append_nil,fn_lay]at g4
  refine hrun c upd hu hlex _ _ ⟨ρ,hle,fun q hq=> ?_,g4⟩
  show(LV.k (find (layH upd hp) q)).blk≠none
  rw[find_layH]
  cases hf:find upd q with
  |some b'=>simp[LV.blk]
  |none=>exact hfx q hq
 rcases run_next_at (P:=E.P) w o.type b m.1 l.length l.length seen.toArray (entries (mE V l)) l.length hbj (by simpa [mE]using hbk) hes (Nat.le_refl _)with⟨hz,hn⟩|⟨e,he,w1,hw1,hn⟩
 ·refine fin (.tup [.val (.bool false)]) [] _ _ (fun _ _ h=>by cases h) (.pure ?_) (by simp only[execOp,ho,hv,hn,Sem.run_bind,Result.andThen_ok,Sem.run_pure];rfl) (h0 fun i hi=> ?_)
  ·simp only[Has,HasZ,HasC]
   exact⟨_,⟨_,_,rfl,⟨rfl,rfl⟩,rfl⟩,rfl⟩
  ·refine Classical.byContradiction fun hni=> ?_
   obtain⟨⟨p,v⟩,hy⟩:∃y,l[i]? =some y:=⟨l[i],by simp[hi]⟩
   have hmem:(⟨kv p,V.v v,i⟩:MapEntry)∈(leftOf (entries (mE V l)) seen.toArray).toList:=by
    simp only[leftOf,Array.toList_filter,List.mem_filter]
    exact⟨(entries_mem _ _).2 ⟨i,(kv p,V.v v),by simp[mE,hy],rfl⟩,by simp[hni]⟩
   have:(leftOf (entries (mE V l)) seen.toArray).toList=[]:=by rw[←List.length_eq_zero_iff];simpa using hz
   rw[this]at hmem
   cases hmem
 ·simp only[leftOf,Array.toList_filter,List.mem_filter]at he
  obtain⟨he1,he2⟩:=he
  obtain⟨i,y,hy,rfl⟩:=(entries_mem _ _).1 he1
  simp only[mE,List.getElem?_map,Option.map_eq_some_iff]at hy
  obtain⟨⟨p,v⟩,hy,rfl⟩:=hy
  have hni:i∉seen:=by simpa using he2
  have hn:(Instr.next (.pointer (some ⟨b,0,none⟩)) false o.type).run E.P w= .ok (.tuple #[.bool true,kv p,V.v v]) (ChangeMaps.setBlock w1 b (.mapIter (some m.1) l.length (seen++[i]).toArray l.length)):=by
   have e:seen.toArray.push i=(seen++[i]).toArray:=by simp
   rw[←e];exact hn
  refine fin (.tup [.val (.bool true),kS p,V.s v]) [(j,⟨ty,true,.mit k (seen++[i]) l.length⟩)] (.tuple #[.bool true,kv p,V.v v]) _ (fun q bq hq=> ?_)
   (post_put1 (d':=.mit k (seen++[i]) l.length) (o:=.mapIter (some m.1) l.length (seen++[i]).toArray l.length) hw1 hkey hbj0 rfl rfl (fun _=>by simp only[Data.obj,hm,Option.map_some]) ⟨rfl,_,_,hm⟩
    (has_tup3 (has_val rfl) (has_kS ρ p) ((V.has ρ _ _).2 rfl) rfl rfl (hpass _)))
   (by simp only[execOp,ho,hv,hn,Sem.run_bind,Result.andThen_ok,Sem.run_pure]) (h1 i p v hni hy)
  simp only[List.mem_singleton,Prod.mk.injEq]at hq
  obtain⟨rfl,rfl⟩:=hq
  exact⟨rfl,rfl⟩
end Go.Sx
namespace Go.Proofs.YthaeohlijigplaaGreat
open Go.Sx
set_option linter.unusedSimpArgs false
set_option linter.unusedVariables false
set_option maxRecDepth 100000
set_option maxHeartbeats 8000000
abbrev iv (n:Int):SV:=.val (.int .i64 n)
abbrev Pt:=Rat×Rat
abbrev ptA:Pt→SV:=ag2 .frac .frac
def PB (B:Nat) (p:Pt):Prop:=fs p.1≤B∧fs p.2≤B
def padd (a b:Pt):Pt:=(a.1+b.1,a.2+b.2)
def psub (a b:Pt):Pt:=(a.1 - b.1,a.2 - b.2)
def pscale (a:Pt) (k:Rat):Pt:=(a.1*k,a.2*k)
def pmid (a b:Pt):Pt:=pscale (padd a b) (1/2)
def pcross (a b:Pt):Rat:=a.1*b.2 - a.2*b.1
def tw (a b c:Pt):Rat:=pcross (psub b a) (psub c a)
theorem PB.add {B C:Nat} {a b:Pt} (ha:PB B a) (hb:PB C b):PB (B+C) (padd a b):=⟨by have:=fs_add a.1 b.1;have:=ha.1;have:=hb.1;show fs (a.1+b.1)≤_;omega,by have:=fs_add a.2 b.2;have:=ha.2;have:=hb.2;show fs (a.2+b.2)≤_;omega⟩
theorem PB.sub {B C:Nat} {a b:Pt} (ha:PB B a) (hb:PB C b):PB (B+C) (psub a b):=⟨by have:=fs_sub a.1 b.1;have:=ha.1;have:=hb.1;show fs (a.1 - b.1)≤_;omega,by have:=fs_sub a.2 b.2;have:=ha.2;have:=hb.2;show fs (a.2 - b.2)≤_;omega⟩
theorem PB.scale {B C:Nat} {a:Pt} {k:Rat} (ha:PB B a) (hk:fs k≤C):PB (B+C) (pscale a k):=⟨by have:=fs_mul a.1 k;have:=ha.1;show fs (a.1*k)≤_;omega,by have:=fs_mul a.2 k;have:=ha.2;show fs (a.2*k)≤_;omega⟩
theorem PB.cross {B C:Nat} {a b:Pt} (ha:PB B a) (hb:PB C b):fs (pcross a b)≤2*B+2*C:=by
 have:=fs_mul a.1 b.2;have:=fs_mul a.2 b.1;have:=fs_sub (a.1*b.2) (a.2*b.1)
 have:=ha.1;have:=ha.2;have:=hb.1;have:=hb.2
 unfold pcross;omega
theorem fs_half:fs (1/2)=3:=by decide+kernel
theorem PB.mid {B C:Nat} {a b:Pt} (ha:PB B a) (hb:PB C b):PB (B+C+3) (pmid a b):=(ha.add hb).scale (by rw[fs_half];omega)
theorem PB.mono {B C:Nat} {a:Pt} (h:PB B a) (hBC:B≤C):PB C a:=⟨Nat.le_trans h.1 hBC,Nat.le_trans h.2 hBC⟩
theorem PB.tw {B:Nat} {a b c:Pt} (ha:PB B a) (hb:PB B b) (hc:PB B c):fs (tw a b c)≤8*B:=by
 have:=(hb.sub ha).cross (hc.sub ha)
 unfold Go.Proofs.YthaeohlijigplaaGreat.tw;omega
theorem p_both {f:FuncId} {a b u:Pt} (h1:CallOK Tryz.prog f [.frac a.1,.frac b.1] [] (.frac u.1) [] []) (h2:CallOK Tryz.prog f [.frac a.2,.frac b.2] [] (.frac u.2) [] []):
  CallOK Tryz.prog 52 [ptA a,ptA b,.clo f [] []] [] (ptA u) [] []:=by
 obtain⟨a1,a2⟩:=a
 obtain⟨b1,b2⟩:=b
 obtain⟨u1,u2⟩:=u
 refine callV (Z:=[]) tabOK mixedOK Tryz.func52 rfl (by kernel_rfl) rfl rfl (by kernel_rfl) rfl ?_
 intro W0 w0 ρ0 hE
 conv=>whnf
 (repeat(first|(refine step_i (by kernel_rfl) ?_;conv=>whnf)|(refine g_c (by assumption) ?_;conv=>whnf)));(first|exact Recast.refl _|exact Frz.recast (Recast.refl _) rfl|(refine Frz.one rfl rfl ?_;skip)|(refine Frz.tup ?_;skip))
theorem p_Scale1 (k x y:Rat) (h:fs x+fs k≤1073741824):CallOK Tryz.prog 53 ([]++([.frac x,.frac y]++[ptrA [.frac k]])) [] (.frac (x*k)) [] []:=by
 have k1:=f_Mul x k h
 refine callV (Z:=[]) tabOK mixedOK Tryz.func53 rfl (by kernel_rfl) rfl rfl (by kernel_rfl) rfl ?_
 intro W0 w0 ρ0 hE
 conv=>whnf
 (repeat(first|(refine g_c (by assumption) ?_;conv=>whnf)|(refine g_o (op_loadA rfl (ev_ok rfl) (tgt rfl) rfl (Nat.succ_ne_zero _) rfl) ?_;conv=>whnf)));(first|exact Recast.refl _|exact Frz.recast (Recast.refl _) rfl|(refine Frz.one rfl rfl ?_;skip)|(refine Frz.tup ?_;skip))
theorem p_bothS {a b:Pt} {k:Rat} (h1:fs a.1+fs k≤1073741824) (h2:fs a.2+fs k≤1073741824):
  CallOK Tryz.prog 52 [ptA a,ptA b,.clo 53 [] [ptrA [.frac k]]] [] (ptA (pscale a k)) [] []:=by
 obtain⟨a1,a2⟩:=a
 obtain⟨b1,b2⟩:=b
 have k1:=p_Scale1 k a1 b1 h1
 have k2:=p_Scale1 k a2 b2 h2
 refine callV (Z:=[]) tabOK mixedOK Tryz.func52 rfl (by kernel_rfl) rfl rfl (by kernel_rfl) rfl ?_
 intro W0 w0 ρ0 hE
 conv=>whnf
 (repeat(first|(refine step_i (by kernel_rfl) ?_;conv=>whnf)|(refine g_c (by assumption) ?_;conv=>whnf)));(first|exact Recast.refl _|exact Frz.recast (Recast.refl _) rfl|(refine Frz.one rfl rfl ?_;skip)|(refine Frz.tup ?_;skip))
theorem p_Add {a b:Pt} {B C:Nat} (ha:PB B a) (hb:PB C b) (h:B+C≤1073741824):CallOK Tryz.prog 28 [ptA a,ptA b] [] (ptA (padd a b)) [] []:=by
 have k1:=p_both (a:=a) (b:=b) (u:=padd a b) (f_Add a.1 b.1 (by have:=ha.1;have:=hb.1;omega)) (f_Add a.2 b.2 (by have:=ha.2;have:=hb.2;omega))
 obtain⟨a1,a2⟩:=a
 obtain⟨b1,b2⟩:=b
 refine callV (Z:=[]) tabOK mixedOK Tryz.func28 rfl (by kernel_rfl) rfl rfl (by kernel_rfl) rfl ?_
 intro W0 w0 ρ0 hE
 conv=>whnf
 (repeat(first|(refine g_c (by assumption) ?_;conv=>whnf)));(first|exact Recast.refl _|exact Frz.recast (Recast.refl _) rfl|(refine Frz.one rfl rfl ?_;skip)|(refine Frz.tup ?_;skip))
theorem p_Sub {a b:Pt} {B C:Nat} (ha:PB B a) (hb:PB C b) (h:B+C≤1073741824):CallOK Tryz.prog 127 [ptA a,ptA b] [] (ptA (psub a b)) [] []:=by
 have k1:=p_both (a:=a) (b:=b) (u:=psub a b) (f_Sub a.1 b.1 (by have:=ha.1;have:=hb.1;omega)) (f_Sub a.2 b.2 (by have:=ha.2;have:=hb.2;omega))
 obtain⟨a1,a2⟩:=a
 obtain⟨b1,b2⟩:=b
 refine callV (Z:=[]) tabOK mixedOK Tryz.func127 rfl (by kernel_rfl) rfl rfl (by kernel_rfl) rfl ?_
 intro W0 w0 ρ0 hE
 conv=>whnf
 (repeat(first|(refine g_c (by assumption) ?_;conv=>whnf)));(first|exact Recast.refl _|exact Frz.recast (Recast.refl _) rfl|(refine Frz.one rfl rfl ?_;skip)|(refine Frz.tup ?_;skip))
theorem p_Scale {a:Pt} {k:Rat} {B C:Nat} (ha:PB B a) (hk:fs k≤C) (h:B+C≤1073741824):CallOK Tryz.prog 29 [ptA a,.frac k] [] (ptA (pscale a k)) [] []:=by
 have k1:=p_bothS (a:=a) (b:=a) (k:=k) (by have:=ha.1;omega) (by have:=ha.2;omega)
 obtain⟨a1,a2⟩:=a
 refine callV (Z:=[3]) tabOK mixedOK Tryz.func29 rfl (by kernel_rfl) rfl rfl (by kernel_rfl) rfl ?_
 intro W0 w0 ρ0 hE
 conv=>whnf
 (repeat(first|(refine g_c (by assumption) ?_;conv=>whnf)|(refine g_o (op_makeFunc rfl rfl rfl) ?_;conv=>whnf)));(first|exact Recast.refl _|exact Frz.recast (Recast.refl _) rfl|(refine Frz.one rfl rfl ?_;skip)|(refine Frz.tup ?_;skip))
theorem p_Cross {a b:Pt} {B C:Nat} (ha:PB B a) (hb:PB C b) (h:2*B+2*C≤1073741824):CallOK Tryz.prog 126 [ptA a,ptA b] [] (.frac (pcross a b)) [] []:=by
 have a1:=ha.1;have a2:=ha.2;have b1:=hb.1;have b2:=hb.2
 have k1:=f_Mul a.1 b.2 (by omega)
 have k2:=f_Mul a.2 b.1 (by omega)
 have k3:=f_Sub (a.1*b.2) (a.2*b.1) (by have:=fs_mul a.1 b.2;have:=fs_mul a.2 b.1;omega)
 clear ha hb a1 a2 b1 b2
 obtain⟨a1,a2⟩:=a
 obtain⟨b1,b2⟩:=b
 refine callV (Z:=[]) tabOK mixedOK Tryz.func126 rfl (by kernel_rfl) rfl rfl (by kernel_rfl) rfl ?_
 intro W0 w0 ρ0 hE
 conv=>whnf
 (repeat(first|(refine step_i (by kernel_rfl) ?_;conv=>whnf)|(refine g_c (by assumption) ?_;conv=>whnf)));(first|exact Recast.refl _|exact Frz.recast (Recast.refl _) rfl|(refine Frz.one rfl rfl ?_;skip)|(refine Frz.tup ?_;skip))
end Go.Proofs.YthaeohlijigplaaGreat
namespace Go.Proofs.YthaeohlijigplaaGreat
open Go.Sx
set_option linter.unusedSimpArgs false
set_option linter.unusedVariables false
set_option maxRecDepth 100000
set_option maxHeartbeats 16000000
structure M6 where
 nx:Int
 ny:Int
 ce:List Int
 k0:Int
 k1:Int
 k2:Int
 k3:Int
 den:Int
 fi:Int
abbrev u8v (n:Int):SV:=.val (.int .u8 n)
abbrev i8v (n:Int):SV:=.val (.int .i8 n)
abbrev m6A (x:M6):SV:=.agg [u8v x.nx,u8v x.ny,mvec 1 (iel .u8) x.ce,.agg [i8v x.k0,i8v x.k1,i8v x.k2,i8v x.k3],u8v x.den,u8v x.fi]
abbrev I2:=Int×Int
abbrev p2A (p:I2):SV:=.agg [iv p.1,iv p.2]
def kk (x:M6):Int×Int×Int×Int:=
 let a:=x.k0.tmod 4;let b:=x.k1.tmod 4;let c:=x.k2.tmod 4;let d:=x.k3.tmod 4
 if a*d - b*c=0 then(1,0,0,1)else if a*d - b*c<0 then(a,b, -c, -d)else(a,b,c,d)
def movP (x:M6) (p:I2):I2:=((kk x).1*p.1+(kk x).2.1*p.2,(kk x).2.2.1*p.1+(kk x).2.2.2*p.2)
theorem tmod4 (n:Int): -3≤n.tmod 4∧n.tmod 4≤3:=by
 have h1:=Int.tmod_lt_of_pos n (b:=4) (by decide)
 have h2:=Int.lt_tmod_of_pos n (b:=4) (by decide)
 omega
theorem w_mul {a b:Int} (ha: -3≤a∧a≤3) (hb: -1000≤b∧b≤1000):(-3000≤a*b∧a*b≤3000)∧IntKind.i64.wrap (a*b)=a*b:=by
 have h: -3000≤a*b∧a*b≤3000:=by
  obtain⟨h1,h2⟩:=ha
  obtain rfl|rfl|rfl|rfl|rfl|rfl|rfl:a= -3∨a= -2∨a= -1∨a=0∨a=1∨a=2∨a=3:=by omega
  all_goals omega
 exact⟨h,wrap_i64 (by omega) (by omega)⟩
theorem c_moved (x:M6) (p:I2) (h1:0≤p.1∧p.1≤100) (h2:0≤p.2∧p.2≤100):CallOK Tryz.prog 73 [m6A x,p2A p] [] (p2A (movP x p)) [] []:=by
 obtain⟨nx,ny,ce,k0,k1,k2,k3,den,fi⟩:=x
 obtain⟨px,py⟩:=p
 simp only at h1 h2
 have r0:=tmod4 k0
 have r1:=tmod4 k1
 have r2:=tmod4 k2
 have r3:=tmod4 k3
 simp only[movP,kk]
 generalize e0:k0.tmod 4=a at*
 generalize e1:k1.tmod 4=b at*
 generalize e2:k2.tmod 4=c at*
 generalize e3:k3.tmod 4=d at*
 have wa:IntKind.i64.wrap a=a:=wrap_i64 (by omega) (by omega)
 have wb:IntKind.i64.wrap b=b:=wrap_i64 (by omega) (by omega)
 have wc:IntKind.i64.wrap c=c:=wrap_i64 (by omega) (by omega)
 have wd:IntKind.i64.wrap d=d:=wrap_i64 (by omega) (by omega)
 have m1:=w_mul (a:=a) (b:=d) r0 (by omega)
 have m2:=w_mul (a:=b) (b:=c) r1 (by omega)
 have m3:IntKind.i64.wrap (a*d - b*c)=a*d - b*c:=wrap_i64 (by omega) (by omega)
 have f1:=m1.2
 have f2:=m2.2
 have n1:IntKind.i64.wrap (0 - c)= -c:=by rw[wrap_i64 (by omega) (by omega)];omega
 have n2:IntKind.i64.wrap (0 - d)= -d:=by rw[wrap_i64 (by omega) (by omega)];omega
 by_cases t1:a*d - b*c=0
 ·rw[if_pos t1]
  have t1':((a*d - b*c)==0)=true:=by rw[t1];rfl
  have t2:decide (a*d - b*c<0)=false:=decide_eq_false (by omega)
  have g1:=w_mul (a:=1) (b:=px) (by omega) (by omega)
  have g2:=w_mul (a:=0) (b:=py) (by omega) (by omega)
  have g3:=w_mul (a:=0) (b:=px) (by omega) (by omega)
  have g4:=w_mul (a:=1) (b:=py) (by omega) (by omega)
  have g5:IntKind.i64.wrap (1*px+0*py)=1*px+0*py:=wrap_i64 (by omega) (by omega)
  have g6:IntKind.i64.wrap (0*px+1*py)=0*px+1*py:=wrap_i64 (by omega) (by omega)
  have h1:=g1.2
  have h2:=g2.2
  have h3:=g3.2
  have h4:=g4.2
  refine callV (Z:=[2,3]) tabOK mixedOK Tryz.func73 rfl (by kernel_rfl) rfl rfl (by kernel_rfl) rfl ?_
  intro W0 w0 ρ0 hE
  conv=>whnf
  (repeat((first|refine step_w1 rfl rfl ?_|refine step_w2 rfl rfl ?_|refine step_oA (by first|omega|decide|(simp only[tl0,dlen,List.length_replicate,List.length_set,List.length_map,List.length_zipWith,List.length_take,List.length_append,List.length_cons,List.length_nil];omega)) ?_|refine step_oN (by first|omega|decide|(simp only[tl0,dlen,List.length_replicate,List.length_set,List.length_map,List.length_zipWith,List.length_take,List.length_append,List.length_cons,List.length_nil];omega)) ?_|refine g_o (op_loadA rfl (ev_ok rfl) (tgt rfl) rfl (Nat.succ_ne_zero _) rfl) ?_|refine g_o (op_fieldA rfl (ev_ok rfl) (tgt rfl) rfl rfl (Nat.succ_ne_zero _) rfl) ?_|refine g_o (op_indexArrA rfl (ev_ok rfl) (ev_ok rfl) (tgt rfl) rfl (tgt rfl) (by omega) (by omega) (Nat.succ_ne_zero _) rfl) ?_|rw[e0]|rw[e1]|rw[e2]|rw[e3]|rw[wa]|rw[wb]|rw[wc]|rw[wd]|rw[f1]|rw[f2]|rw[m3]|rw[t1']|rw[t2]|rw[h1]|rw[h2]|rw[h3]|rw[h4]|rw[g5]|rw[g6]);conv=>whnf))
  (first|exact Recast.refl _|exact Frz.recast (Recast.refl _) rfl|(refine Frz.one rfl rfl ?_;skip)|(refine Frz.tup ?_;skip))
 ·rw[if_neg t1]
  have t1':((a*d - b*c)==0)=false:=beq_eq_false_iff_ne.2 t1
  by_cases t2:a*d - b*c<0
  ·rw[if_pos t2]
   have t2:decide (a*d - b*c<0)=true:=decide_eq_true t2
   have g1:=w_mul (a:=a) (b:=px) (by omega) (by omega)
   have g2:=w_mul (a:=b) (b:=py) (by omega) (by omega)
   have g3:=w_mul (a:= -c) (b:=px) (by omega) (by omega)
   have g4:=w_mul (a:= -d) (b:=py) (by omega) (by omega)
   have g5:IntKind.i64.wrap (a*px+b*py)=a*px+b*py:=wrap_i64 (by omega) (by omega)
   have g6:IntKind.i64.wrap (-c*px+ -d*py)= -c*px+ -d*py:=wrap_i64 (by omega) (by omega)
   have h1:=g1.2
   have h2:=g2.2
   have h3:=g3.2
   have h4:=g4.2
   refine callV (Z:=[2,3]) tabOK mixedOK Tryz.func73 rfl (by kernel_rfl) rfl rfl (by kernel_rfl) rfl ?_
   intro W0 w0 ρ0 hE
   conv=>whnf
   (repeat((first|refine step_w1 rfl rfl ?_|refine step_w2 rfl rfl ?_|refine step_oA (by first|omega|decide|(simp only[tl0,dlen,List.length_replicate,List.length_set,List.length_map,List.length_zipWith,List.length_take,List.length_append,List.length_cons,List.length_nil];omega)) ?_|refine step_oN (by first|omega|decide|(simp only[tl0,dlen,List.length_replicate,List.length_set,List.length_map,List.length_zipWith,List.length_take,List.length_append,List.length_cons,List.length_nil];omega)) ?_|refine g_o (op_loadA rfl (ev_ok rfl) (tgt rfl) rfl (Nat.succ_ne_zero _) rfl) ?_|refine g_o (op_fieldA rfl (ev_ok rfl) (tgt rfl) rfl rfl (Nat.succ_ne_zero _) rfl) ?_|refine g_o (op_indexArrA rfl (ev_ok rfl) (ev_ok rfl) (tgt rfl) rfl (tgt rfl) (by omega) (by omega) (Nat.succ_ne_zero _) rfl) ?_|rw[e0]|rw[e1]|rw[e2]|rw[e3]|rw[wa]|rw[wb]|rw[wc]|rw[wd]|rw[f1]|rw[f2]|rw[m3]|rw[t1']|rw[t2]|rw[n1]|rw[n2]|rw[h1]|rw[h2]|rw[h3]|rw[h4]|rw[g5]|rw[g6]);conv=>whnf))
   (first|exact Recast.refl _|exact Frz.recast (Recast.refl _) rfl|(refine Frz.one rfl rfl ?_;skip)|(refine Frz.tup ?_;skip))
  ·rw[if_neg t2]
   have t2:decide (a*d - b*c<0)=false:=decide_eq_false t2
   have g1:=w_mul (a:=a) (b:=px) (by omega) (by omega)
   have g2:=w_mul (a:=b) (b:=py) (by omega) (by omega)
   have g3:=w_mul (a:=c) (b:=px) (by omega) (by omega)
   have g4:=w_mul (a:=d) (b:=py) (by omega) (by omega)
   have g5:IntKind.i64.wrap (a*px+b*py)=a*px+b*py:=wrap_i64 (by omega) (by omega)
   have g6:IntKind.i64.wrap (c*px+d*py)=c*px+d*py:=wrap_i64 (by omega) (by omega)
   have h1:=g1.2
   have h2:=g2.2
   have h3:=g3.2
   have h4:=g4.2
   refine callV (Z:=[2,3]) tabOK mixedOK Tryz.func73 rfl (by kernel_rfl) rfl rfl (by kernel_rfl) rfl ?_
   intro W0 w0 ρ0 hE
   conv=>whnf
   (repeat((first|refine step_w2 rfl rfl ?_|refine step_oA (by first|omega|decide|(simp only[tl0,dlen,List.length_replicate,List.length_set,List.length_map,List.length_zipWith,List.length_take,List.length_append,List.length_cons,List.length_nil];omega)) ?_|refine step_oN (by first|omega|decide|(simp only[tl0,dlen,List.length_replicate,List.length_set,List.length_map,List.length_zipWith,List.length_take,List.length_append,List.length_cons,List.length_nil];omega)) ?_|refine g_o (op_loadA rfl (ev_ok rfl) (tgt rfl) rfl (Nat.succ_ne_zero _) rfl) ?_|refine g_o (op_fieldA rfl (ev_ok rfl) (tgt rfl) rfl rfl (Nat.succ_ne_zero _) rfl) ?_|refine g_o (op_indexArrA rfl (ev_ok rfl) (ev_ok rfl) (tgt rfl) rfl (tgt rfl) (by omega) (by omega) (Nat.succ_ne_zero _) rfl) ?_|rw[e0]|rw[e1]|rw[e2]|rw[e3]|rw[wa]|rw[wb]|rw[wc]|rw[wd]|rw[f1]|rw[f2]|rw[m3]|rw[t1']|rw[t2]|rw[h1]|rw[h2]|rw[h3]|rw[h4]|rw[g5]|rw[g6]);conv=>whnf))
   (first|exact Recast.refl _|exact Frz.recast (Recast.refl _) rfl|(refine Frz.one rfl rfl ?_;skip)|(refine Frz.tup ?_;skip))
end Go.Proofs.YthaeohlijigplaaGreat
namespace Go.Sx
set_option linter.unusedSimpArgs false
set_option linter.unusedVariables false
theorem addKey_RR {E:Env} {k:Nat} {blk:Blk} {fr:List (Nat×SV)} {hp:List (Nat×Blk)} (hk:find hp k=none) (he:blk.data.empty) {a:Act} {w:World} (hR:RR E (fn fr hp) a w):
  RR E (fn fr ((k,blk)::hp)) a w:=by
 obtain⟨ρ,hext,hfx,hR⟩:=hR
 have hkn:ρ.key k=none:=by
  cases hx:ρ.key k with
  |none=>rfl
  |some x=>
   obtain⟨b,hb⟩:=hR.hp.dom k x hx
   simp only[fn,LV.blk,hk]at hb
   cases hb
 have hblk:∀j b,(fn fr ((k,blk)::hp) (.k j)).blk=some b→(j=k∧b=blk)∨(j≠k∧(fn fr hp (.k j)).blk=some b):=by
  intro j b hb
  simp only[fn,LV.blk,find]at hb ⊢
  cases hj:Nat.beq k j with
  |true=>rw[hj]at hb;simp only[Option.some.injEq]at hb;exact .inl ⟨(Nat.eq_of_beq_eq_true hj).symm,hb.symm⟩
  |false=>rw[hj]at hb;exact .inr ⟨by rintro rfl;simp[Nat.beq_refl]at hj,hb⟩
 have hne:∀j x,ρ.key j=some x→j≠k:=fun j x hx h=>by rw[h,hkn]at hx;cases hx
 refine⟨ρ,hext,fun j hj=> ?_,{defers:=hR.defers,size:=hR.size,fr:=fun u sv hu=>hR.fr u sv hu,pres:=hR.pres,hp:= ?_}⟩
 ·have:=hfx j hj
  simp only[fn,LV.blk,find]at this ⊢
  cases hb:Nat.beq k j with
  |true=>simp
  |false=>exact this
 ·constructor
  ·intro j b hb
   rcases hblk j b hb with⟨rfl,rfl⟩|⟨_,h1⟩
   ·exact .inr (.inr ⟨hkn,he⟩)
   ·exact hR.hp.blk j b h1
  ·intro j j' x x' b b' hx hx' hn hxe hb hb'
   rcases hblk j b hb with⟨h1,_⟩|⟨_,h1⟩
   ·exact absurd h1 (hne j x hx)
   ·rcases hblk j' b' hb' with⟨h2,_⟩|⟨_,h2⟩
    ·exact absurd h2 (hne j' x' hx')
    ·exact hR.hp.sep j j' x x' b b' hx hx' hn hxe h1 h2
  ·intro j b x hb hw hl hx
   rcases hblk j b hb with⟨h1,_⟩|⟨_,h1⟩
   ·exact absurd h1 (hne j x hx)
   ·exact hR.hp.own j b x h1 hw hl hx
  ·intro j x hx
   obtain⟨b,hb⟩:=hR.hp.dom j x hx
   have:=hne j x hx
   refine⟨b, ?_⟩
   simp only[fn,LV.blk,find]at hb ⊢
   cases hj:Nat.beq k j with
   |true=>exact absurd (Nat.eq_of_beq_eq_true hj).symm this
   |false=>exact hb
  ·exact hR.hp.imm
  ·intro j b x hb hw hl hx
   rcases hblk j b hb with⟨h1,_⟩|⟨_,h1⟩
   ·exact absurd h1 (hne j x hx)
   ·exact hR.hp.immw j b x h1 hw hl hx
theorem retell_RR {E:Env} {j:Nat} {ty:TypeId} {wr:Bool} {cs cs':List SV} {fr:List (Nat×SV)} {hp:List (Nat×Blk)} (hj:find hp j=some ⟨ty,wr,.one cs⟩) (hd:∀ρ z,HasZ ρ cs z→HasZ ρ cs' z) {a:Act} {w:World} (hR:RR E (fn fr hp) a w):
  RR E (fn fr ((j,⟨ty,wr,.one cs'⟩)::hp)) a w:=by
 obtain⟨ρ,hext,hfx,hR⟩:=hR
 have hblk:∀i b,(fn fr ((j,⟨ty,wr,.one cs'⟩)::hp) (.k i)).blk=some b→∃b0,(fn fr hp (.k i)).blk=some b0∧b0.wr=b.wr∧b0.data.live=b.data.live∧(b0=b∨(i=j∧b0=⟨ty,wr,.one cs⟩∧b=⟨ty,wr,.one cs'⟩)):=by
  intro i b hb
  simp only[fn,LV.blk,find]at hb ⊢
  cases hi:Nat.beq j i with
  |true=>
   rw[hi]at hb
   simp only[Option.some.injEq]at hb
   obtain rfl:=Nat.eq_of_beq_eq_true hi
   subst hb
   exact⟨_,hj,rfl,rfl,.inr ⟨rfl,rfl,rfl⟩⟩
  |false=>rw[hi]at hb;exact⟨b,hb,rfl,rfl,.inl rfl⟩
 refine⟨ρ,hext,fun i hi=> ?_,{defers:=hR.defers,size:=hR.size,fr:=fun u sv hu=>hR.fr u sv hu,pres:=hR.pres,hp:= ?_}⟩
 ·have:=hfx i hi
  simp only[fn,LV.blk,find]at this ⊢
  cases hb:Nat.beq j i with
  |true=>simp
  |false=>exact this
 ·constructor
  ·intro i b hb
   obtain⟨b0,h1,h2,h3,rfl|⟨rfl,rfl,rfl⟩⟩:=hblk i b hb
   ·exact hR.hp.blk i b0 h1
   ·rcases hR.hp.blk i _ h1 with h4|⟨b',t,vs,ex,g1,g2,g3,g4,g5⟩|⟨_,h4⟩
    ·cases h4
    ·refine .inr (.inl ⟨b',t,vs,ex,g1,g2, ?_,g4,g5⟩)
     simp only[DataC]at g3 ⊢
     obtain⟨z,g6,g7⟩:=g3
     exact⟨z,hd ρ z g6,g7⟩
    ·exact h4.elim
  ·intro i i' x x' b b' hx hx' hn hxe hb hb' hl hl'
   obtain⟨b0,h1,h2,h3,_⟩:=hblk i b hb
   obtain⟨b0',h1',h2',h3',_⟩:=hblk i' b' hb'
   rw[←h2]
   exact hR.hp.sep i i' x x' b0 b0' hx hx' hn hxe h1 h1' (h3.trans hl) (h3'.trans hl')
  ·intro i b x hb hw hl hx
   obtain⟨b0,h1,h2,h3,_⟩:=hblk i b hb
   exact hR.hp.own i b0 x h1 (h2.trans hw) (h3.trans hl) hx
  ·intro i x hx
   obtain⟨b,hb⟩:=hR.hp.dom i x hx
   simp only[fn,LV.blk,find]at hb ⊢
   cases hi:Nat.beq j i with
   |true=>exact⟨_,rfl⟩
   |false=>exact⟨b,hb⟩
  ·exact hR.hp.imm
  ·intro i b x hb hw hl hx
   obtain⟨b0,h1,h2,h3,_⟩:=hblk i b hb
   exact hR.hp.immw i b0 x h1 (h2.trans hw) (h3.trans hl) hx
theorem HasZ_adopt {ρ:Rho} {k s:Nat}:∀{cs:List SV} {p:Nat} {z:List (List Value)},cs[p]? =some (.val (.slice none 0 0))→HasZ ρ cs z→HasZ ρ (cs.set p (.slc k s 0 0)) z
 |[],p,z,h,_=>by simp at h
 |c::cs,0,z,h,hz=>by
  simp only[List.getElem?_cons_zero,Option.some.injEq]at h
  subst h
  simp only[HasZ,List.set_cons_zero]at hz ⊢
  obtain⟨x,r,rfl,h1,h2⟩:=hz
  refine⟨x,r,rfl, ?_,h2⟩
  simp only[HasC]at h1 ⊢
  exact .inr ⟨trivial,none,h1.1⟩
 |c::cs,p+1,z,h,hz=>by
  simp only[List.getElem?_cons_succ]at h
  simp only[HasZ,List.set_cons_succ]at hz ⊢
  obtain⟨x,r,rfl,h1,h2⟩:=hz
  exact⟨x,r,rfl,h1,HasZ_adopt h h2⟩
theorem SWx_adoptB {E:Env} {j k s p:Nat} {ty:TypeId} {wr:Bool} {cs cs':List SV} {c:Code} {K:Post'} {blk:Blk} {fr:List (Nat×SV)} {hp:List (Nat×Blk)} (hj:find hp j=some ⟨ty,wr,.one cs⟩) (hp':cs[p]? =some (.val (.slice none 0 0))) (hk:find hp k=none) (he:blk.data.empty)
  (hcs:cs.set p (.slc k s 0 0)=cs') (hs:SWx E c K fr ((k,blk)::(j,⟨ty,wr,.one cs'⟩)::hp)):SWx E c K fr hp:=⟨fun a w hR=>hs.run a w (by
  subst hcs
  refine addKey_RR ?_ he (retell_RR hj (fun ρ z hz=>HasZ_adopt hp' hz) hR)
  simp only[find]
  cases hb:Nat.beq j k with
  |false=>exact hk
  |true=>rw[Nat.eq_of_beq_eq_true hb,hk]at hj;cases hj)⟩
theorem tst_tt {t:Bool} {A B:Prop} (h:t=true) (k:A):(t=true→A)∧(t=false→B):=⟨fun _=>k,fun h'=>(by rw[h]at h';cases h')⟩
theorem tst_ff {t:Bool} {A B:Prop} (h:t=false) (k:B):(t=true→A)∧(t=false→B):=⟨fun h'=>(by rw[h]at h';cases h'),fun _=>k⟩
def Wk (c d:SV):Prop:=c.isOne=d.isOne∧∀ρ x,HasC ρ c x→HasC ρ d x
def WkL (l m:List SV):Prop:=(∀z,List.zipWith mkV l z=List.zipWith mkV m z)∧∀ρ z,HasZ ρ l z→HasZ ρ m z
theorem Wk.refl {c:SV}:Wk c c:=⟨rfl,fun _ _ h=>h⟩
theorem Wk.nil {w:Nat} {a:Option Addr}:Wk (.val (.slice a 0 0)) (vecA w []):=⟨rfl,fun _ _ h=>nil_vec h⟩
theorem WkL.nil:WkL [] []:=⟨fun _=>rfl,fun _ _ h=>h⟩
theorem WkL.cons {c d:SV} {l m:List SV} (h:Wk c d) (k:WkL l m):WkL (c::l) (d::m):=
 ⟨fun z=>by cases z with
  |nil=>rfl
  |cons x r=>rw[List.zipWith_cons_cons,List.zipWith_cons_cons,k.1 r,mkV_eq h.1],fun ρ z hz=>by
  simp only[HasZ]at hz ⊢
  obtain⟨x,r,rfl,h1,h2⟩:=hz
  exact⟨x,r,rfl,h.2 ρ x h1,k.2 ρ r h2⟩⟩
theorem Wk.agg {l m:List SV} (h:WkL l m):Wk (.agg l) (.agg m):=⟨rfl,fun ρ x hx=>by
 simp only[HasC]at hx ⊢
 obtain⟨z,h1,h2⟩:=hx
 exact⟨z,h.2 ρ z h1,h2⟩⟩
theorem CallOK.wk {P:Program} {f:FuncId} {args args':List SV} {fk:List (Nat×Blk)} {c:SV} {new upd:List (Nat×Blk)} (h:CallOK P f args' fk c new upd) (hw:WkL args args'):CallOK P f args fk c new upd:=CallOK.args h hw.2 hw.1
end Go.Sx
namespace Go.Proofs.YthaeohlijigplaaGreat
open Go.Sx
set_option linter.unusedSimpArgs false
set_option linter.unusedVariables false
set_option maxRecDepth 100000
set_option maxHeartbeats 4000000
theorem run_firstV {P:Program} {ρ:Rho} {w:World} {s n:Nat} {vs:List SV} {d:Sx.Data} {v:Value} (hv:Has ρ (vecA s vs) v) (himm:∀b o,ρ.imm b=some o→w.heap[b]? =some o)
  (hr:∀z,HasZ (bareR ρ.imm ρ.glob) vs z→(∀x∈vs,x.width=s)→Go.Sx.Rows ρ s d z) (hn:n=vs.length):
  ∃z,Go.Sx.Rows ρ s d z∧(∀w',(∀b,b<w.heap.size→w'.heap[b]? =w.heap[b]?)→(Builtin.firstCells s n v).run P w'= .ok (((z.drop 0).take n).flatten).toArray w')∧Builtin.lenOf v=Pure.pure n:=by
 subst hn
 rcases has_vec hv with⟨rfl,a,rfl⟩|⟨b,cap,z,pre,ex,ty,fz,h1,h2,h3,h4,h5,h6⟩
 ·refine⟨[],hr [] (by simp only[HasZ]) (fun x hx=>by cases hx),fun w' _=> ?_,rfl⟩
  cases a with
  |none=>simp[Builtin.firstCells]
  |some a=>simp[Builtin.firstCells,loadCells,loadCellsFrom]
 ·have hzr:=hr z h2 h3
  obtain⟨zl,zw⟩:=hzr.len
  have hzl:z.length=vs.length:=HasZ_length h2
  subst h6
  refine⟨z,hzr,fun w' hw'=> ?_,rfl⟩
  have hh0:=himm _ _ h1
  have hblt:b<w.heap.size:=by
   rcases Nat.lt_or_ge b w.heap.size with h'|h'
   ·exact h'
   ·simp[Array.getElem?_eq_none h']at hh0
  have hh:w'.heap[b]? =some (.cells (pre++(z.flatten++ex)).toArray ty fz):=by rw[hw' b hblt];exact hh0
  have e0:(z.drop 0).take vs.length=z:=by rw[List.drop_zero,List.take_of_length_le (by omega)]
  rw[e0]
  have hlen:z.flatten.length=vs.length*s:=by rw[flatten_len (s:=s) _ zw,hzl]
  refine run_firstCells_some (P:=P) w' s vs.length _ vs.length cap _ hlen ?_
  intro j u hj
  have hadd:(⟨b,pre.length,none⟩:Addr).add j=⟨b,pre.length+j,none⟩:=by unfold Addr.add;split<;>simp_all
  rw[hadd,cell_of_row w' b (pre.length+j) _ ty fz hh]
  have hlt:j<z.flatten.length:=(List.getElem?_eq_some_iff.1 hj).1
  simp only[List.getElem?_toArray]
  rw[List.getElem?_append_right (by omega),Nat.add_sub_cancel_left,List.getElem?_append_left hlt]
  exact hj
theorem HasZ_intsU {ρ:Rho} {kd:IntKind}:∀(xs:List Int) (z:List (List Value)),HasZ ρ (xs.map (iel kd)) z→z=xs.map fun x=>[.int kd x]
 |[],z,h=>by simpa only[List.map_nil,HasZ]using h
 |x::xs,z,h=>by
  simp only[List.map_cons,HasZ]at h
  obtain⟨y,r,rfl,h1,h2⟩:=h
  rw[HasZ_intsU xs r h2]
  simp only[iel,HasC]at h1
  rw[h1.1,List.map_cons]
theorem rows_ints {kd:IntKind} (xs:List Int):∀(ρ:Rho) z,HasZ (bareR ρ.imm ρ.glob) (xs.map (iel kd)) z→(∀x∈xs.map (iel kd),x.width=1)→Go.Sx.Rows ρ 1 (.ints kd xs) z:=
 fun ρ z h _=>⟨rfl,HasZ_intsU xs z h⟩
theorem op_appendV {P:Program} {o:Oper} {fr:List (Nat×SV)} {fk:List (Nat×Blk)} {t t2 e:TypeId} {x y:Operand} {xs:Array Operand} {ts:Array TypeId} {ti t0 te:TI} {k kn n m:Nat} {d d' d2:Sx.Data} {vs:List SV} (ho:o.op= .call ⟨.builtin .append,xs,ts⟩) (hxs:xs= #[x,y]) (hts:ts= #[t,t2])
  (hx:EvOK fr x (.slc k te.size 0 n)) (hy:EvOK fr y (vecA te.size vs)) (hr2:∀(ρ:Rho) z,HasZ (bareR ρ.imm ρ.glob) vs z→(∀x∈vs,x.width=te.size)→Go.Sx.Rows ρ te.size d2 z) (ht:TOK P t ti) (hk:ti.kind= .slc e) (ht2:TOK P t2 t0) (hk2:t0.kind= .slc e) (he:TOK P e te)
  (hf:(k,⟨e,true,d⟩)∈fk) (hl:d.live=true) (hw:dwidth d=some te.size)
  (hn:n≤dlen d) (hmv:m=vs.length) (hm:0+m≤dlen d2) (hd:dapp d n d2 0 m=some d') (hbytes:(n+m)*te.bytes≤140737488355328) (h63:n+m≤9223372036854775807):
  OpOK P o fr fk (.slc kn te.size 0 (n+m)) [(kn,⟨e,true,d'⟩)] [(k,⟨e,true,.dead⟩)]:=
 ok_value fun ρ a w hp=>by
  have hvx:=hx ρ a hp.hft
  have hvy:=hy ρ a hp.hft
  obtain⟨i,zv,i1,i2',i3,i4,i5,i6,i7,_⟩:=he.info
  have hu:=ht.kind;rw[hk]at hu
  have hu2:=ht2.kind;rw[hk2]at hu2
  obtain⟨z,hz,hzc⟩:=blk_rows (hp.hfk k _ hf) hl hw
  obtain⟨z2,hz2,hrun2,hlen2⟩:=run_firstV (P:=P) (d:=d2) hvy hp.imm (hr2 ρ) hmv
  obtain⟨zl,zw⟩:=hz.len
  obtain⟨zl2,zw2⟩:=hz2.len
  have hrows:=(dapp_rows hd hz hz2).1
  have hfresh:=hp.fresh kn _ (List.mem_cons_self ..)
  simp only at zl
  have hsegw:∀u∈(z2.drop 0).take m,u.length=te.size:=fun u hu=>zw2 u (List.mem_of_mem_drop (List.mem_of_mem_take hu))
  have hsegl:((z2.drop 0).take m).length=m:=by rw[List.length_take,List.length_drop];omega
  have hnews:(((z2.drop 0).take m).flatten).length=m*te.size:=by rw[flatten_len _ hsegw,hsegl]
  have hnone:∀u∈(((z2.drop 0).take m).flatten),u.oneCell'=true:=fun u hu=>by
   obtain⟨q,hq,hu⟩:=List.mem_flatten.1 hu
   exact hz2.one' q (List.mem_of_mem_drop (List.mem_of_mem_take hq)) u hu
  have hcall:∀v w',(Builtin.append_ ts o.type #[a.eval x,a.eval y]).run P w= .ok v w'→(execOp a.eval o).run P w= .ok (.value v) w':=by
   intro v w' h
   simp only[execOp,ho,resolve,invoke,builtin,hxs,Sem.run_bind,Sem.run_pure,Result.andThen_ok,List.map_toArray,List.map_cons,List.map_nil]
   rw[h]
   rfl
  have zone:∀v∈zv.cells.toList,v.oneCell'=true:=by
   have h1:=(HasZ.len (ρ:=ρ) te.zero _ (zero_has i6)).2
   rw[i5,List.flatMap_def];exact h1
  have h63':¬((n+m:Nat):Int)>IntKind.i64.max:=by
   have:IntKind.i64.max=9223372036854775807:=by decide
   omega
  have grow:∀(base:Option Addr) (cap:Nat),a.eval x= .slice base n cap→cap<n+m→(∀w',(∀b,b<w.heap.size→w'.heap[b]? =w.heap[b]?)→(Builtin.firstCells te.size n (.slice base n cap)).run P w'= .ok ((z.take n).flatten).toArray w')→
    ∃v w' ρ',(execOp a.eval o).run P w= .ok (.value v) w'∧Post ρ w (.slc kn te.size 0 (n+m)) [(kn,⟨e,true,d'⟩)] [(k,⟨e,true,.dead⟩)] v ρ' w':=by
   intro base cap hbx hcap hfirst
   have hfit:¬Builtin.nextslicecap (n+m) cap*i.bytes>2^48:=by
    have:=growslice_fits (bytes:=te.bytes) hcap hbytes
    rw[i3];simpa using this
   have hgc:n+m≤grownCap w (n+m) cap e:=by
    simp only[grownCap,Question.cut]
    omega
   have hpost:=post_row (hL:=hrows.notLoop) (ρ:=ρ) (w:=w.drew) (k:=kn) (s:=te.size) (n:=n+m) (cap:=grownCap w (n+m) cap e) (ty:=e) (d:=d') (vs:=(z.take n++(z2.drop 0).take m).flatten) (ex:=(Builtin.zeroCells zv.cells (grownCap w (n+m) cap e - (n+m))).toList) hfresh hrows.data hgc
    (by
     have h1:((z.take n++(z2.drop 0).take m).flatten).length=(n+m)*te.size:=by
      rw[flatten_len (s:=te.size) _ (fun u hu=>(List.mem_append.1 hu).elim (fun h=>zw u (List.mem_of_mem_take h)) (hsegw u)),List.length_append,hsegl,List.length_take]
      congr 1
      omega
     rw[List.length_append,h1,Array.length_toList]
     have h2:(Builtin.zeroCells zv.cells (grownCap w (n+m) cap e - (n+m))).size=(grownCap w (n+m) cap e - (n+m))*te.size:=by simp[Builtin.zeroCells,i7]
     rw[h2,←Nat.add_mul,show n+m+(grownCap w (n+m) cap e - (n+m))=grownCap w (n+m) cap e from by omega]
     exact Nat.le_refl _) (zeroCells_one zone _)
   refine⟨_,_,_,hcall _ _ ?_,{hpost with
    pres:=⟨hpost.pres.os,hpost.pres.tape,hpost.pres.output,hpost.pres.size,fun b hb hn=>hpost.pres.block b hb (fun hh=>by obtain⟨_,_,_,hh,_⟩:=hh;cases hh),Nat.le_trans (Nat.le_succ _) hpost.pres.drawn⟩
    blk:=fun j b hj=>by
     rcases hj with hj|hj
     ·simp only[List.mem_singleton,Prod.mk.injEq]at hj
      obtain⟨rfl,rfl⟩:=hj
      exact .inl rfl
     ·exact hpost.blk j b (.inr hj)
    once:=fun j b b' h1 h2 h3 h4=>by
     simp only[List.mem_singleton,Prod.mk.injEq]at h1 h2
     rw[h2.2]at h4
     cases h4
    newb:=fun j b q hj hq=>.inl ((hpost.newb j b q hj hq).elim id (fun hh=>by obtain⟨_,_,_,hh,_⟩:=hh;cases hh))}⟩
   have hz0:(if false=true then(Pure.pure 0:Sem Nat)else Builtin.lenOf (a.eval y)).run P w= .ok m w:=by rw[hlen2];rfl
   have hcap':¬n+m≤cap:=by omega
   have hnb:(w.drew).heap=w.heap:=rfl
   have hr1:=hfirst w.drew (fun b _=>rfl)
   have hr2:=hrun2 w.drew (fun b _=>rfl)
   simp only[Builtin.append_,hts,hbx,List.getElem?_toArray,List.getElem?_cons_zero,List.getElem?_cons_succ,Sem.run_bind,run_underlying hu,run_underlying hu2,Result.andThen_ok,he.sizeOf,Sem.run_pure,Bool.false_eq_true,if_false,hlen2]
   have hti:∀w',(typeInfo e).run P w'= .ok i w':=fun w'=>by simp[typeInfo,i1]
   have hzv:∀w',(Go.zeroValue e).run P w'= .ok zv w':=fun w'=>by simp[Go.zeroValue,typeInfo,i1,i4]
   have hcond:¬(((n+m:Nat):Int)>IntKind.i64.max∧(False∨i.bytes=0)):=fun h=>h63' h.1
   have hforced:(Question.appendCap (n+m) cap e).forced=false:=rfl
   simp only[hcap',if_false,Sem.run_bind,hti,Result.andThen_ok,hcond,hfit,run_choose,hforced,Bool.false_eq_true,World.drew_eq,run_askRoom,hr1,Bool.not_false,if_true,hr2,hzv,newRow,run_newObj,Sem.run_pure,World.alloc_eq]
   have harr:((z.take n).flatten.toArray++((z2.drop 0).take m).flatten.toArray++Builtin.zeroCells zv.cells (grownCap w (n+m) cap e - (n+m)))=((z.take n++(z2.drop 0).take m).flatten++(Builtin.zeroCells zv.cells (grownCap w (n+m) cap e - (n+m))).toList).toArray:=by
    apply Array.ext'
    simp
   show Result.ok (Value.slice (some ⟨w.drew.heap.size,0,none⟩) (n+m) (grownCap w (n+m) cap e)) (w.drew.alloc (.cells ((z.take n).flatten.toArray++((z2.drop 0).take m).flatten.toArray++Builtin.zeroCells zv.cells (grownCap w (n+m) cap e - (n+m))) e))=_
   rw[harr]
  rcases has_slc hvx with⟨b,tt,cap,e1,e2,e3,e4⟩|⟨rfl,ad,e4⟩
  ·rcases hzc with⟨b',tt',ex,c1,c2,c3,c4⟩|⟨c1,_⟩
   ·rw[e1]at c1
    cases c1
    simp only at c2
    rcases Nat.lt_or_ge cap (n+m)with hlt|hge
    ·refine grow _ cap e4 hlt ?_
     obtain⟨z3,hz3,hrun3,_⟩:=run_first (P:=P) hvx (hp.hfk k _ hf) hl hw (by simpa using hn)
     intro w' hw'
     have h0:=run_firstCells_some (P:=P) w' te.size n ⟨b,0*te.size,none⟩ n cap ((z.take n).flatten) (by
      rw[flatten_len (s:=te.size) _ (fun u hu=>zw u (List.mem_of_mem_take hu)),List.length_take];congr 1;omega) (by
      intro j u hj
      have hblt:b<w.heap.size:=by
       rcases Nat.lt_or_ge b w.heap.size with h'|h'
       ·exact h'
       ·simp[Array.getElem?_eq_none h']at c2
      have hh:w'.heap[b]? =some (.cells (z.flatten++ex).toArray e (0,0)):=by rw[hw' b hblt];exact c2
      have hadd:(⟨b,0*te.size,none⟩:Addr).add j=⟨b,j,none⟩:=addr_add0 b te.size j
      rw[hadd,cell_of_row w' b j _ e (0,0) hh]
      rw[flatten_take (s:=te.size) _ _ zw]at hj
      have h6:z.flatten[j]? =some u:=by
       rw[List.getElem?_take]at hj
       split at hj
       ·exact hj
       ·cases hj
      have hlt2:j<z.flatten.length:=(List.getElem?_eq_some_iff.1 h6).1
      simp only[List.getElem?_toArray]
      rw[List.getElem?_append_left hlt2]
      exact h6)
     exact h0
    ·-- in place
     have hblt:b<w.heap.size:=by
      rcases Nat.lt_or_ge b w.heap.size with h'|h'
      ·exact h'
      ·simp[Array.getElem?_eq_none h']at c2
     have hr2:=hrun2 w (fun b _=>rfl)
     have hfitc:0*te.size+n*te.size+(((z2.drop 0).take m).flatten).length≤(z.flatten++ex).length:=by
      rw[hnews,c3,Nat.zero_mul,Nat.zero_add,←Nat.add_mul]
      exact Nat.le_trans (Nat.mul_le_mul_right _ hge) (by simpa using e3)
     have hsc:=run_storeCells_at (P:=P) b (n*te.size) e (((z2.drop 0).take m).flatten) 0 (z.flatten++ex).toArray w c2 (by simp only[List.size_toArray];simpa using hfitc) hnone
     have hadd:(⟨b,0*te.size,none⟩:Addr).add (n*te.size)=⟨b,n*te.size,none⟩:=addr_add0 b te.size _
     have hcells:((z.flatten++ex).take (n*te.size+0)++(((z2.drop 0).take m).flatten)++(z.flatten++ex).drop (n*te.size+0+(((z2.drop 0).take m).flatten).length))=
       (z.take n++(z2.drop 0).take m).flatten++(z.flatten++ex).drop (n*te.size+m*te.size):=by
      rw[Nat.add_zero,hnews,List.flatten_append,flatten_take (s:=te.size) _ _ zw,List.take_append_of_le_length (by rw[flatten_len (s:=te.size) _ zw];exact Nat.mul_le_mul_right _ (by omega))]
     rw[hcells]at hsc
     let ρ':Rho:=⟨fun j=>if j=kn then some (b,tt)else ρ.key j,ρ.imm,ρ.glob⟩
     have hle:ρ.Le ρ':=⟨fun j q hq=>by
      show(if j=kn then _ else _)=_
      by_cases hj:j=kn
      ·subst hj;rw[hfresh]at hq;cases hq
      ·rw[if_neg hj];exact hq,fun b o hb=>hb⟩
     refine⟨.slice (some ⟨b,0*te.size,none⟩) (n+m) cap,w.setRow b ((z.take n++(z2.drop 0).take m).flatten++(z.flatten++ex).drop (n*te.size+m*te.size)).toArray,ρ',hcall _ _ ?_, ?_⟩
     ·simp only[Builtin.append_,hts,e4,List.getElem?_toArray,List.getElem?_cons_zero,List.getElem?_cons_succ,Sem.run_bind,run_underlying hu,run_underlying hu2,Result.andThen_ok,he.sizeOf,Sem.run_pure,Bool.false_eq_true,if_false,hlen2,hge,if_true,Bool.not_false,hr2,hadd,hsc]
     ·refine⟨hle,slc_has (.inl ⟨b,tt,cap, ?_,hge,e3,rfl⟩), ?_,⟨rfl,rfl,rfl,by simp[World.setRow], ?_,Nat.le_refl _⟩, ?_, ?_, ?_, ?_,fun b o hb=>.inl hb⟩
      ·show(if kn=kn then _ else _)=_
       rw[if_pos rfl]
      ·intro j hj
       show(if j=kn then _ else _)=_
       rw[if_neg]
       rintro rfl
       exact hj _ (List.mem_cons_self ..)
      ·intro q hq hnq
       refine heap_setRow_other fun hqb=>hnq ⟨k,_,tt,List.mem_cons_self .., ?_⟩
       rw[hqb];exact e1
      ·intro j bj hj
       rcases hj with hj|hj
       ·simp only[List.mem_singleton,Prod.mk.injEq]at hj
        obtain⟨rfl,rfl⟩:=hj
        exact .inl rfl
       ·simp only[List.mem_singleton,Prod.mk.injEq]at hj
        obtain⟨rfl,rfl⟩:=hj
        refine .inr (.inl ⟨b,tt,_,(z.flatten++ex).drop (n*te.size+m*te.size), ?_,by rw[Data.obj_cells hrows.notLoop];exact heap_setRow_same c2,hrows.data.mono hle, ?_, ?_⟩)
        ·show(if j=j then _ else _)=_
         rw[if_pos rfl]
        ·have h1:((z.take n++(z2.drop 0).take m).flatten).length=(n+m)*te.size:=by
          rw[flatten_len (s:=te.size) _ (fun u hu=>(List.mem_append.1 hu).elim (fun h=>zw u (List.mem_of_mem_take h)) (hsegw u)),List.length_append,hsegl,List.length_take]
          congr 1
          omega
         rw[List.length_append,h1,List.length_drop,c3,Nat.add_mul]
         rw[hnews,c3]at hfitc
         omega
        ·intro u hu
         have:=List.mem_of_mem_drop hu
         rcases List.mem_append.1 this with h|h
         ·obtain⟨q,hq,hu'⟩:=List.mem_flatten.1 h
          exact hz.one' q hq u hu'
         ·exact c4 u h
      ·intro j c c' h1 h2 h3 h4
       simp only[List.mem_singleton,Prod.mk.injEq]at h1 h2
       rw[h2.2]at h4
       cases h4
      ·intro j bj q hj hq
       simp only[List.mem_singleton,Prod.mk.injEq]at hj
       obtain⟨rfl,rfl⟩:=hj
       have hq':(if j=j then some (b,tt)else ρ.key j)=some q:=hq
       rw[if_pos rfl]at hq'
       cases hq'
       exact .inr ⟨k,_,tt,List.mem_cons_self ..,rfl,e1⟩
      ·intro j bj j' bj' q q' hj hj' hne
       simp only[List.mem_singleton,Prod.mk.injEq]at hj hj'
       exact absurd (hj.1.trans hj'.1.symm) hne
   ·rw[e1]at c1;cases c1
  ·rcases Nat.eq_zero_or_pos m with rfl|hm0
   ·-- nothing onto nothing
    have hr2:=hrun2 w (fun b _=>rfl)
    refine⟨.slice ad 0 0,w,ρ,hcall _ _ ?_, ?_⟩
    ·have hst:∀q:Addr,(storeCells q ([]:List Value)).run P w= .ok () w:=fun q=>rfl
     have hseg0:((z2.drop 0).take 0).flatten=[]:=by simp
     rw[hseg0]at hr2
     cases ad<;>simp only[Builtin.append_,hts,e4,List.getElem?_toArray,List.getElem?_cons_zero,List.getElem?_cons_succ,Sem.run_bind,run_underlying hu,run_underlying hu2,Result.andThen_ok,he.sizeOf,Sem.run_pure,Bool.false_eq_true,if_false,hlen2,Nat.add_zero,Nat.le_refl,if_true,Bool.not_false,hr2,hst]
    ·have hemp:d'.empty∨True:=.inr trivial
     have hd0:d'.empty:=by
      unfold dapp at hd
      split at hd
      ·split at hd
       ·simp only[Option.some.injEq]at hd;subst hd;simp[Data.empty]
       ·simp at hd
      ·simp only[Option.some.injEq]at hd;subst hd;simp[Data.empty]
      ·split at hd
       ·simp only[Option.some.injEq]at hd;subst hd;simp[Data.empty]
       ·simp at hd
      ·simp at hd
     refine⟨.refl ρ,slc_has (.inr ⟨rfl,ad,rfl⟩),fun _ _=>rfl,.refl _ _, ?_, ?_, ?_, ?_,fun b o hb=>.inl hb⟩
     ·intro j bj hj
      rcases hj with hj|hj
      ·simp only[List.mem_singleton,Prod.mk.injEq]at hj
       obtain⟨rfl,rfl⟩:=hj
       exact .inl rfl
      ·simp only[List.mem_singleton,Prod.mk.injEq]at hj
       obtain⟨rfl,rfl⟩:=hj
       exact .inr (.inr ⟨hfresh,hd0⟩)
     ·intro j c c' h1 h2 h3 h4
      simp only[List.mem_singleton,Prod.mk.injEq]at h1 h2
      rw[h2.2]at h4
      cases h4
     ·intro j bj q hj hq
      simp only[List.mem_singleton,Prod.mk.injEq]at hj
      obtain⟨rfl,rfl⟩:=hj
      rw[hfresh]at hq;cases hq
     ·intro j bj j' bj' q q' hj hj' hne
      simp only[List.mem_singleton,Prod.mk.injEq]at hj hj'
      exact absurd (hj.1.trans hj'.1.symm) hne
   ·refine grow ad 0 e4 (by omega) ?_
    intro w' _
    cases ad with
    |none=>simp[Builtin.firstCells]
    |some q=>simp[Builtin.firstCells,loadCells,loadCellsFrom]
end Go.Proofs.YthaeohlijigplaaGreat
namespace Go.Sx
set_option linter.unusedSimpArgs false
set_option linter.unusedVariables false
set_option maxRecDepth 100000
section
variable {P:Program} {o:Oper} {ft:List (Nat×SV)} {fk:List (Nat×Blk)} {w:Nat} {xs:List SV}
theorem op_eqNilV {t t2 e:TypeId} {x y:Operand} {ti:TI} (ho:o.op= .binOp .eql t x y t2) (hx:EvOK ft x (vecA w xs)) (hy:EvOK ft y (.val (.slice none 0 0))) (ht:TOK P t ti) (hk:ti.kind= .slc e) (hne:xs≠[]):OpOK P o ft fk (.val (.bool false)) [] []:=
 ok_pure fun ρ a W hp=>by
  have hu:=ht.kind;rw[hk]at hu
  have e2:=of_has_val (hy ρ a hp.hft)
  rcases has_vec (hx ρ a hp.hft)with⟨h,_⟩|⟨b,cap,z,pre,ex,ty,fz,_,_,_,_,_,h6⟩
  ·exact absurd h hne
  ·have hq0:∀d,(Op.equalIn (d+1) t (.slice (some ⟨b,pre.length,none⟩) xs.length cap) (.slice none 0 0)).run P W= .ok false W:=fun d=>by simp[Op.equalIn,run_underlying hu]
   have hq:(Op.equal t (.slice (some ⟨b,pre.length,none⟩) xs.length cap) (.slice none 0 0)).run P W= .ok false W:=hq0 9999
   exact⟨_,by simp[execOp,ho,h6,e2,eqGuard,binOp,hq],has_val rfl⟩
theorem op_eqNilS {t t2 e:TypeId} {x y:Operand} {ti:TI} {ad:Option Addr} {n c:Nat} (ho:o.op= .binOp .eql t x y t2) (hx:EvOK ft x (.val (.slice ad n c))) (hy:EvOK ft y (.val (.slice none 0 0))) (ht:TOK P t ti) (hk:ti.kind= .slc e):OpOK P o ft fk (.val (.bool ad.isNone)) [] []:=
 ok_pure fun ρ a W hp=>by
  have hu:=ht.kind;rw[hk]at hu
  have e2:=of_has_val (hy ρ a hp.hft)
  have e1:=of_has_val (hx ρ a hp.hft)
  have hq0:∀d,(Op.equalIn (d+1) t (.slice ad n c) (.slice none 0 0)).run P W= .ok ad.isNone W:=fun d=>by
   cases ad<;>simp[Op.equalIn,run_underlying hu]
  have hq:(Op.equal t (.slice ad n c) (.slice none 0 0)).run P W= .ok ad.isNone W:=hq0 9999
  exact⟨_,by simp[execOp,ho,e1,e2,eqGuard,binOp,hq],has_val rfl⟩
theorem op_appendE {t t2 e:TypeId} {x y:Operand} {xs':Array Operand} {ts:Array TypeId} {ti t0 te:TI} {k s:Nat} {ad:Option Addr} {cap:Nat} (ho:o.op= .call ⟨.builtin .append,xs',ts⟩) (hxs:xs'= #[x,y]) (hts:ts= #[t,t2])
  (hx:EvOK ft x (.slc k s 0 0)) (hy:EvOK ft y (.val (.slice ad 0 cap))) (ht:TOK P t ti) (hk:ti.kind= .slc e) (ht2:TOK P t2 t0) (hk2:t0.kind= .slc e) (he:TOK P e te):OpOK P o ft fk (.slc k s 0 0) [] []:=
 ok_pure fun ρ a W hp=>by
  have hu:=ht.kind;rw[hk]at hu
  have hu2:=ht2.kind;rw[hk2]at hu2
  have hv:=hx ρ a hp.hft
  have e2:=of_has_val (hy ρ a hp.hft)
  obtain⟨b,c,e1⟩:∃b c,a.eval x= .slice b 0 c:=by
   rcases has_slc hv with⟨b,t',cap,h1,h2,h3,h4⟩|⟨_,ad,h4⟩
   ·exact⟨_,_,h4⟩
   ·exact⟨_,_,h4⟩
  refine⟨_, ?_,hv⟩
  rw[e1]
  have hl:∀b:Addr,(loadCells b 0).run P W= .ok #[] W:=fun b=>rfl
  have hs:∀b:Addr,(storeCells b []).run P W= .ok () W:=fun b=>rfl
  have hf:(Builtin.firstCells te.size 0 (.slice ad 0 cap)).run P W= .ok #[] W:=by
   cases ad with
   |none=>rfl
   |some b=>simp only[Builtin.firstCells,Nat.zero_mul];exact hl b
  cases b with
  |none=>simp[execOp,ho,hxs,hts,resolve,invoke,builtin,Builtin.append_,run_underlying hu,run_underlying hu2,he.sizeOf,e1,e2,Builtin.lenOf,hf]
  |some b=>simp[execOp,ho,hxs,hts,resolve,invoke,builtin,Builtin.append_,run_underlying hu,run_underlying hu2,he.sizeOf,e1,e2,Builtin.lenOf,hf,hs]
end
theorem CallOK.empty1 {P:Program} {f:FuncId} {w:Nat} {c:SV} (hf:FnOK P f) (h:∀ad cap,CallOK P f [.val (.slice ad 0 cap)] [] c [] []):CallOK P f [vecA w []] [] c [] []:=by
 refine .inl ⟨hf,fun ρ W z hz hp=> ?_⟩
 simp only[HasZ]at hz
 obtain⟨x,_,rfl,hx,rfl⟩:=hz
 have hv:Has ρ (vecA w []) (mkV (vecA w []) x):=by simp only[Has];exact⟨x,hx,rfl⟩
 obtain⟨ad,cap,e⟩:∃ad cap,mkV (vecA w []) x= .slice ad 0 cap:=by
  rcases has_vec hv with⟨_,ad,h4⟩|⟨b,cap,z,pre,ex,ty,fz,_,_,_,_,_,h6⟩
  ·exact⟨ad,0,h4⟩
  ·exact⟨_,cap,h6⟩
 have e2:(List.zipWith mkV [vecA w []] [x]).toArray=(List.zipWith mkV [.val (.slice ad 0 cap)] [[.slice ad 0 cap]]).toArray:=by
  simp only[List.zipWith_cons_cons,List.zipWith_nil_left,e]
  simp[mkV,SV.isOne]
 rw[e2]
 have hz':HasZ ρ [.val (.slice ad 0 cap)] [[.slice ad 0 cap]]:=by simp[HasZ,HasC,Value.oneCell']
 rcases h ad cap with⟨_,h1⟩|h1
 ·exact h1 ρ W _ hz' hp
 ·obtain⟨v,ρ',w',g1,_⟩:=h1 ρ W _ hz' hp
  obtain⟨fn,f1,f2,f3⟩:=hf
  have f2':¬fn.name= "runtime.NumGoroutine" :=by simpa using f2
  have f3':¬fn.body=none:=fun h=>by rw[h]at f3;cases f3
  simp[callFunc,Sem.run_bind,program,Sem.run,f1]at g1
  rw[if_neg f2',if_neg f3']at g1
  cases g1
end Go.Sx
namespace Go.Proofs.YthaeohlijigplaaGreat
open Go.Sx
set_option linter.unusedSimpArgs false
set_option linter.unusedVariables false
set_option maxRecDepth 100000
set_option maxHeartbeats 8000000
abbrev T3:=Int×Int×Int
abbrev triA (t:T3):SV:=.agg [iv t.1,iv t.2.1,iv t.2.2]
theorem rows_seqW {α:Type} (w:Nat) (f:α→SV) (l:List α):∀(ρ:Rho) z,HasZ (bareR ρ.imm ρ.glob) (l.map f) z→(∀x∈l.map f,x.width=w)→Go.Sx.Rows ρ w (.seq w (l.map f)) z:=fun _ _ h k=>⟨rfl,h,k⟩
theorem g_CloneP (l:List Pt) (hl:l.length<1099511627776) (h0:l≠[]):CallOK Tryz.prog 67 [mvec 10 ptA l] [] (.slc 2001 10 0 l.length) [(2001,⟨54,true,.seq 10 (l.map ptA)⟩)] []:=by
 have hne:l.map ptA≠[]:=by simpa using h0
 refine callK (Z:=[]) tabOK mixedOK Tryz.func67 rfl (by kernel_rfl) (args:=[mvec 10 ptA l]) (fk:=[]) (c:=.slc 7 10 0 l.length) (new:=[(7,⟨54,true,.seq 10 (l.map ptA)⟩)]) (upd:=[]) (ShapeOK.of rfl rfl rfl rfl rfl rfl rfl rfl rfl rfl rfl) rfl (renBy [(7,2001)]) NamesOK.one ?_
 intro W0 w0 ρ0 hE
 conv=>whnf
 (repeat(first|(refine step_w2 rfl rfl ?_;conv=>whnf)|(refine⟨_,op_eqNilV rfl (ev_ok rfl) (ev_ok rfl) (tgt rfl) rfl hne, ?_⟩;conv=>whnf)))
 refine⟨.slc 7 10 0 (0+l.length),[(5,⟨54,true,.seq 10 []⟩)],[(7,⟨54,true,.seq 10 (l.map ptA)⟩)],[(5,⟨54,true,.dead⟩)],op_appendV rfl rfl rfl (ev_ok rfl) (ev_ok rfl) (rows_seqW 10 ptA l) (tabOK.get (t:=31) rfl) rfl (tabOK.get (t:=31) rfl) rfl (tabOK.get (t:=54) rfl) (List.mem_cons_self ..) rfl rfl (by simp[dlen]) (by simp) (by simp[dlen]) (by simp[dapp];exact List.take_of_length_le (by simp)) (by show(0+_)*ti54.bytes≤_;simp only[tiB54];omega) (by omega),one_fk rfl,one_new rfl,one_upd (List.mem_cons_self ..) rfl rfl rfl, ?_⟩
 conv=>whnf
 exact⟨by rw[Nat.zero_add];exact Recast.refl _,(fun k b h=>by simp only[List.mem_singleton,Prod.mk.injEq]at h;obtain⟨rfl,rfl⟩:=h;rfl),(fun _ _ h=>by cases h)⟩
theorem g_CloneFP (l:List Pt) (hl:l.length<1099511627776):CallOK Tryz.prog 67 [mvec 10 ptA l] [] (mvec 10 ptA l) [] []:=by
 by_cases h0:l=[]
 ·subst h0
  refine CallOK.empty1 ⟨_,Tryz.func67,by kernel_rfl,rfl⟩ fun ad cap=> ?_
  cases ad with
  |none=>
   refine callF (Z:=[]) tabOK mixedOK Tryz.func67 rfl (by kernel_rfl) (by first|rfl|(simp[keylessL,keyless,keylessL_map, *];done)) (by first|rfl|(simp[keylessL,keyless,keylessL_map, *];done)) (by kernel_rfl) rfl ?_
   intro w0 ρ0 hE
   conv=>whnf
   (repeat(first|(refine step_w1 rfl rfl ?_;conv=>whnf)|(refine⟨_,op_eqNilS rfl (ev_ok rfl) (ev_ok rfl) (tgt rfl) rfl, ?_⟩;conv=>whnf)));(first|exact Recast.refl _|exact Frz.recast (Recast.refl _) rfl|(refine Frz.one rfl rfl ?_;(repeat(first|exact FrzC.nilS)))|(refine Frz.tup ?_;skip))
  |some b=>
   refine callF (Z:=[]) tabOK mixedOK Tryz.func67 rfl (by kernel_rfl) (by first|rfl|(simp[keylessL,keyless,keylessL_map, *];done)) (by first|rfl|(simp[keylessL,keyless,keylessL_map, *];done)) (by kernel_rfl) rfl ?_
   intro w0 ρ0 hE
   conv=>whnf
   (repeat(first|(refine step_w2 rfl rfl ?_;conv=>whnf)|(refine⟨_,op_eqNilS rfl (ev_ok rfl) (ev_ok rfl) (tgt rfl) rfl, ?_⟩;conv=>whnf)|(refine g_o (op_appendE rfl rfl rfl (ev_ok rfl) (ev_ok rfl) (tgt rfl) rfl (tgt rfl) rfl (tgt rfl)) ?_;conv=>whnf)));(first|exact Recast.refl _|exact Frz.recast (Recast.refl _) rfl|(refine Frz.one rfl rfl ?_;(repeat(first|(refine FrzC.seq rfl (by first|rfl|(apply keylessL_map;intro _;rfl)) ?_;(first|rfl|omega|(simp<;>fail)|(simp<;>omega))))))|(refine Frz.tup ?_;skip))
 have hne:l.map ptA≠[]:=by simpa using h0
 refine callF (Z:=[]) tabOK mixedOK Tryz.func67 rfl (by kernel_rfl) (by first|rfl|(simp[keylessL,keyless,keylessL_map, *];done)) (by first|rfl|(simp[keylessL,keyless,keylessL_map, *];done)) (by kernel_rfl) rfl ?_
 intro w0 ρ0 hE
 conv=>whnf
 (repeat(first|(refine step_w2 rfl rfl ?_;conv=>whnf)|(refine⟨_,op_eqNilV rfl (ev_ok rfl) (ev_ok rfl) (tgt rfl) rfl hne, ?_⟩;conv=>whnf)))
 refine⟨.slc 7 10 0 (0+l.length),[(5,⟨54,true,.seq 10 []⟩)],[(7,⟨54,true,.seq 10 (l.map ptA)⟩)],[(5,⟨54,true,.dead⟩)],op_appendV rfl rfl rfl (ev_ok rfl) (ev_ok rfl) (rows_seqW 10 ptA l) (tabOK.get (t:=31) rfl) rfl (tabOK.get (t:=31) rfl) rfl (tabOK.get (t:=54) rfl) (List.mem_cons_self ..) rfl rfl (by simp[dlen]) (by simp) (by simp[dlen]) (by simp[dapp];exact List.take_of_length_le (by simp)) (by show(0+_)*ti54.bytes≤_;simp only[tiB54];omega) (by omega),one_fk rfl,one_new rfl,one_upd (List.mem_cons_self ..) rfl rfl rfl, ?_⟩
 conv=>whnf
 rw[Nat.zero_add]
 (first|exact Recast.refl _|exact Frz.recast (Recast.refl _) rfl|(refine Frz.one rfl rfl ?_;(repeat(first|(refine FrzC.seq rfl (by first|rfl|(apply keylessL_map;intro _;rfl)) ?_;(first|rfl|omega|(simp<;>fail)|(simp<;>omega))))))|(refine Frz.tup ?_;skip))
theorem g_CloneFT (l:List T3) (hl:l.length<1099511627776):CallOK Tryz.prog 69 [mvec 3 triA l] [] (mvec 3 triA l) [] []:=by
 by_cases h0:l=[]
 ·subst h0
  refine CallOK.empty1 ⟨_,Tryz.func69,by kernel_rfl,rfl⟩ fun ad cap=> ?_
  cases ad with
  |none=>
   refine callF (Z:=[]) tabOK mixedOK Tryz.func69 rfl (by kernel_rfl) (by first|rfl|(simp[keylessL,keyless,keylessL_map, *];done)) (by first|rfl|(simp[keylessL,keyless,keylessL_map, *];done)) (by kernel_rfl) rfl ?_
   intro w0 ρ0 hE
   conv=>whnf
   (repeat(first|(refine step_w1 rfl rfl ?_;conv=>whnf)|(refine⟨_,op_eqNilS rfl (ev_ok rfl) (ev_ok rfl) (tgt rfl) rfl, ?_⟩;conv=>whnf)));(first|exact Recast.refl _|exact Frz.recast (Recast.refl _) rfl|(refine Frz.one rfl rfl ?_;(repeat(first|exact FrzC.nilS)))|(refine Frz.tup ?_;skip))
  |some b=>
   refine callF (Z:=[]) tabOK mixedOK Tryz.func69 rfl (by kernel_rfl) (by first|rfl|(simp[keylessL,keyless,keylessL_map, *];done)) (by first|rfl|(simp[keylessL,keyless,keylessL_map, *];done)) (by kernel_rfl) rfl ?_
   intro w0 ρ0 hE
   conv=>whnf
   (repeat(first|(refine step_w2 rfl rfl ?_;conv=>whnf)|(refine⟨_,op_eqNilS rfl (ev_ok rfl) (ev_ok rfl) (tgt rfl) rfl, ?_⟩;conv=>whnf)|(refine g_o (op_appendE rfl rfl rfl (ev_ok rfl) (ev_ok rfl) (tgt rfl) rfl (tgt rfl) rfl (tgt rfl)) ?_;conv=>whnf)));(first|exact Recast.refl _|exact Frz.recast (Recast.refl _) rfl|(refine Frz.one rfl rfl ?_;(repeat(first|(refine FrzC.seq rfl (by first|rfl|(apply keylessL_map;intro _;rfl)) ?_;(first|rfl|omega|(simp<;>fail)|(simp<;>omega))))))|(refine Frz.tup ?_;skip))
 have hne:l.map triA≠[]:=by simpa using h0
 refine callF (Z:=[]) tabOK mixedOK Tryz.func69 rfl (by kernel_rfl) (by first|rfl|(simp[keylessL,keyless,keylessL_map, *];done)) (by first|rfl|(simp[keylessL,keyless,keylessL_map, *];done)) (by kernel_rfl) rfl ?_
 intro w0 ρ0 hE
 conv=>whnf
 (repeat(first|(refine step_w2 rfl rfl ?_;conv=>whnf)|(refine⟨_,op_eqNilV rfl (ev_ok rfl) (ev_ok rfl) (tgt rfl) rfl hne, ?_⟩;conv=>whnf)))
 refine⟨.slc 7 3 0 (0+l.length),[(5,⟨84,true,.seq 3 []⟩)],[(7,⟨84,true,.seq 3 (l.map triA)⟩)],[(5,⟨84,true,.dead⟩)],op_appendV rfl rfl rfl (ev_ok rfl) (ev_ok rfl) (rows_seqW 3 triA l) (tabOK.get (t:=32) rfl) rfl (tabOK.get (t:=32) rfl) rfl (tabOK.get (t:=84) rfl) (List.mem_cons_self ..) rfl rfl (by simp[dlen]) (by simp) (by simp[dlen]) (by simp[dapp];exact List.take_of_length_le (by simp)) (by show(0+_)*ti84.bytes≤_;simp only[tiB84];omega) (by omega),one_fk rfl,one_new rfl,one_upd (List.mem_cons_self ..) rfl rfl rfl, ?_⟩
 conv=>whnf
 rw[Nat.zero_add]
 (first|exact Recast.refl _|exact Frz.recast (Recast.refl _) rfl|(refine Frz.one rfl rfl ?_;(repeat(first|(refine FrzC.seq rfl (by first|rfl|(apply keylessL_map;intro _;rfl)) ?_;(first|rfl|omega|(simp<;>fail)|(simp<;>omega))))))|(refine Frz.tup ?_;skip))
theorem g_CloneFS (l:List T3) (hl:l.length<1099511627776):CallOK Tryz.prog 71 [mvec 3 triA l] [] (mvec 3 triA l) [] []:=by
 by_cases h0:l=[]
 ·subst h0
  refine CallOK.empty1 ⟨_,Tryz.func71,by kernel_rfl,rfl⟩ fun ad cap=> ?_
  cases ad with
  |none=>
   refine callF (Z:=[]) tabOK mixedOK Tryz.func71 rfl (by kernel_rfl) (by first|rfl|(simp[keylessL,keyless,keylessL_map, *];done)) (by first|rfl|(simp[keylessL,keyless,keylessL_map, *];done)) (by kernel_rfl) rfl ?_
   intro w0 ρ0 hE
   conv=>whnf
   (repeat(first|(refine step_w1 rfl rfl ?_;conv=>whnf)|(refine⟨_,op_eqNilS rfl (ev_ok rfl) (ev_ok rfl) (tgt rfl) rfl, ?_⟩;conv=>whnf)));(first|exact Recast.refl _|exact Frz.recast (Recast.refl _) rfl|(refine Frz.one rfl rfl ?_;(repeat(first|exact FrzC.nilS)))|(refine Frz.tup ?_;skip))
  |some b=>
   refine callF (Z:=[]) tabOK mixedOK Tryz.func71 rfl (by kernel_rfl) (by first|rfl|(simp[keylessL,keyless,keylessL_map, *];done)) (by first|rfl|(simp[keylessL,keyless,keylessL_map, *];done)) (by kernel_rfl) rfl ?_
   intro w0 ρ0 hE
   conv=>whnf
   (repeat(first|(refine step_w2 rfl rfl ?_;conv=>whnf)|(refine⟨_,op_eqNilS rfl (ev_ok rfl) (ev_ok rfl) (tgt rfl) rfl, ?_⟩;conv=>whnf)|(refine g_o (op_appendE rfl rfl rfl (ev_ok rfl) (ev_ok rfl) (tgt rfl) rfl (tgt rfl) rfl (tgt rfl)) ?_;conv=>whnf)));(first|exact Recast.refl _|exact Frz.recast (Recast.refl _) rfl|(refine Frz.one rfl rfl ?_;(repeat(first|(refine FrzC.seq rfl (by first|rfl|(apply keylessL_map;intro _;rfl)) ?_;(first|rfl|omega|(simp<;>fail)|(simp<;>omega))))))|(refine Frz.tup ?_;skip))
 have hne:l.map triA≠[]:=by simpa using h0
 refine callF (Z:=[]) tabOK mixedOK Tryz.func71 rfl (by kernel_rfl) (by first|rfl|(simp[keylessL,keyless,keylessL_map, *];done)) (by first|rfl|(simp[keylessL,keyless,keylessL_map, *];done)) (by kernel_rfl) rfl ?_
 intro w0 ρ0 hE
 conv=>whnf
 (repeat(first|(refine step_w2 rfl rfl ?_;conv=>whnf)|(refine⟨_,op_eqNilV rfl (ev_ok rfl) (ev_ok rfl) (tgt rfl) rfl hne, ?_⟩;conv=>whnf)))
 refine⟨.slc 7 3 0 (0+l.length),[(5,⟨112,true,.seq 3 []⟩)],[(7,⟨112,true,.seq 3 (l.map triA)⟩)],[(5,⟨112,true,.dead⟩)],op_appendV rfl rfl rfl (ev_ok rfl) (ev_ok rfl) (rows_seqW 3 triA l) (tabOK.get (t:=33) rfl) rfl (tabOK.get (t:=33) rfl) rfl (tabOK.get (t:=112) rfl) (List.mem_cons_self ..) rfl rfl (by simp[dlen]) (by simp) (by simp[dlen]) (by simp[dapp];exact List.take_of_length_le (by simp)) (by show(0+_)*ti112.bytes≤_;simp only[tiB112];omega) (by omega),one_fk rfl,one_new rfl,one_upd (List.mem_cons_self ..) rfl rfl rfl, ?_⟩
 conv=>whnf
 rw[Nat.zero_add]
 (first|exact Recast.refl _|exact Frz.recast (Recast.refl _) rfl|(refine Frz.one rfl rfl ?_;(repeat(first|(refine FrzC.seq rfl (by first|rfl|(apply keylessL_map;intro _;rfl)) ?_;(first|rfl|omega|(simp<;>fail)|(simp<;>omega))))))|(refine Frz.tup ?_;skip))
theorem g_ClipP (l:List Pt):CallOK Tryz.prog 66 [mvec 10 ptA l] [] (mvec 10 ptA l) [] []:=by
 refine callV (Z:=[]) tabOK mixedOK Tryz.func66 rfl (by kernel_rfl) rfl rfl (by kernel_rfl) rfl ?_
 intro W0 w0 ρ0 hE
 conv=>whnf
 (repeat(first|(refine g_o (op_lenM rfl rfl rfl (ev_ok rfl) (tgt rfl) rfl) ?_;conv=>whnf)|(refine g_o (op_sliceM rfl (ev_ok rfl) (bound_spec rfl) (bound_spec rfl) (.inr ⟨Option.some_ne_none _,_,_,rfl,ev_ok rfl⟩) (tgt rfl) rfl (tgt rfl) rfl (by omega)) ?_;conv=>whnf)|(rw[Int.toNat_natCast];conv=>whnf)))
 rw[show(l.drop (Int.toNat 0)).take (l.length - Int.toNat 0)=l by simp]
 (first|exact Recast.refl _|exact Frz.recast (Recast.refl _) rfl|(refine Frz.one rfl rfl ?_;skip)|(refine Frz.tup ?_;skip))
theorem g_ClipT (l:List T3):CallOK Tryz.prog 68 [mvec 3 triA l] [] (mvec 3 triA l) [] []:=by
 refine callV (Z:=[]) tabOK mixedOK Tryz.func68 rfl (by kernel_rfl) rfl rfl (by kernel_rfl) rfl ?_
 intro W0 w0 ρ0 hE
 conv=>whnf
 (repeat(first|(refine g_o (op_lenM rfl rfl rfl (ev_ok rfl) (tgt rfl) rfl) ?_;conv=>whnf)|(refine g_o (op_sliceM rfl (ev_ok rfl) (bound_spec rfl) (bound_spec rfl) (.inr ⟨Option.some_ne_none _,_,_,rfl,ev_ok rfl⟩) (tgt rfl) rfl (tgt rfl) rfl (by omega)) ?_;conv=>whnf)|(rw[Int.toNat_natCast];conv=>whnf)))
 rw[show(l.drop (Int.toNat 0)).take (l.length - Int.toNat 0)=l by simp]
 (first|exact Recast.refl _|exact Frz.recast (Recast.refl _) rfl|(refine Frz.one rfl rfl ?_;skip)|(refine Frz.tup ?_;skip))
theorem g_ClipS (l:List T3):CallOK Tryz.prog 70 [mvec 3 triA l] [] (mvec 3 triA l) [] []:=by
 refine callV (Z:=[]) tabOK mixedOK Tryz.func70 rfl (by kernel_rfl) rfl rfl (by kernel_rfl) rfl ?_
 intro W0 w0 ρ0 hE
 conv=>whnf
 (repeat(first|(refine g_o (op_lenM rfl rfl rfl (ev_ok rfl) (tgt rfl) rfl) ?_;conv=>whnf)|(refine g_o (op_sliceM rfl (ev_ok rfl) (bound_spec rfl) (bound_spec rfl) (.inr ⟨Option.some_ne_none _,_,_,rfl,ev_ok rfl⟩) (tgt rfl) rfl (tgt rfl) rfl (by omega)) ?_;conv=>whnf)|(rw[Int.toNat_natCast];conv=>whnf)))
 rw[show(l.drop (Int.toNat 0)).take (l.length - Int.toNat 0)=l by simp]
 (first|exact Recast.refl _|exact Frz.recast (Recast.refl _) rfl|(refine Frz.one rfl rfl ?_;skip)|(refine Frz.tup ?_;skip))
end Go.Proofs.YthaeohlijigplaaGreat
namespace Go.Proofs.YthaeohlijigplaaGreat
open Go.Sx
set_option linter.unusedSimpArgs false
set_option linter.unusedVariables false
set_option maxRecDepth 100000
set_option maxHeartbeats 8000000
theorem p_half:CallOK Tryz.prog 139 [] [] (.frac (1/2)) [] []:=by
 have k1:=c_fOf natBig 1 2 (by decide+kernel) (by decide) (by decide) (by decide) (by decide) (by decide)
 rw[show((1:Int):Rat)/((2:Int):Rat)=1/2 by decide+kernel]at k1
 refine callV (Z:=[]) tabOK mixedOK Tryz.func139 rfl (by kernel_rfl) rfl rfl (by kernel_rfl) rfl ?_
 intro W0 w0 ρ0 hE
 conv=>whnf
 (repeat(first|(refine g_c (by assumption) ?_;conv=>whnf)));(first|exact Recast.refl _|exact Frz.recast (Recast.refl _) rfl|(refine Frz.one rfl rfl ?_;skip)|(refine Frz.tup ?_;skip))
theorem p_Mid {a b:Pt} {B C:Nat} (ha:PB B a) (hb:PB C b) (h:B+C+3≤1073741824):CallOK Tryz.prog 114 [ptA a,ptA b] [] (ptA (pmid a b)) [] []:=by
 have k1:=p_Add ha hb (by omega)
 have k2:=p_half
 have k3:=p_Scale (ha.add hb) (k:=1/2) (C:=3) (by rw[fs_half];omega) h
 clear ha hb
 rw[show pmid a b=pscale (padd a b) (1/2)from rfl]
 generalize padd a b=s at*
 generalize pscale s (1/2)=u at*
 obtain⟨a1,a2⟩:=a
 obtain⟨b1,b2⟩:=b
 obtain⟨s1,s2⟩:=s
 obtain⟨u1,u2⟩:=u
 refine callV (Z:=[]) tabOK mixedOK Tryz.func114 rfl (by kernel_rfl) rfl rfl (by kernel_rfl) rfl ?_
 intro W0 w0 ρ0 hE
 conv=>whnf
 (repeat(first|(refine g_c (by assumption) ?_;conv=>whnf)));(first|exact Recast.refl _|exact Frz.recast (Recast.refl _) rfl|(refine Frz.one rfl rfl ?_;skip)|(refine Frz.tup ?_;skip))
theorem t_twice {a b c:Pt} {B:Nat} (ha:PB B a) (hb:PB B b) (hc:PB B c) (h:8*B≤1073741824):CallOK Tryz.prog 98 [ptA a,ptA b,ptA c] [] (.frac (tw a b c)) [] []:=by
 have k1:=p_Sub hb ha (by omega)
 have k2:=p_Sub hc ha (by omega)
 have k3:=p_Cross (hb.sub ha) (hc.sub ha) (by omega)
 clear ha hb hc
 rw[show tw a b c=pcross (psub b a) (psub c a)from rfl]
 generalize psub b a=s at*
 generalize psub c a=u at*
 generalize pcross s u=v at*
 obtain⟨a1,a2⟩:=a
 obtain⟨b1,b2⟩:=b
 obtain⟨c1,c2⟩:=c
 obtain⟨s1,s2⟩:=s
 obtain⟨u1,u2⟩:=u
 refine callV (Z:=[]) tabOK mixedOK Tryz.func98 rfl (by kernel_rfl) rfl rfl (by kernel_rfl) rfl ?_
 intro W0 w0 ρ0 hE
 conv=>whnf
 (repeat(first|(refine step_i (by kernel_rfl) ?_;conv=>whnf)|(refine g_c (by assumption) ?_;conv=>whnf)));(first|exact Recast.refl _|exact Frz.recast (Recast.refl _) rfl|(refine Frz.one rfl rfl ?_;skip)|(refine Frz.tup ?_;skip))
theorem p_Turn {a b c:Pt} {B:Nat} (ha:PB B a) (hb:PB B b) (hc:PB B c) (h:8*B≤1073741824):CallOK Tryz.prog 99 [ptA a,ptA b,ptA c] [] (.val (.int .i64 (tw a b c).num.sign)) [] []:=by
 have k1:=p_Sub hb ha (by omega)
 have k2:=p_Sub hc ha (by omega)
 have k3:=p_Cross (hb.sub ha) (hc.sub ha) (by omega)
 have k4:=c_fSign (tw a b c)
 clear ha hb hc
 rw[show tw a b c=pcross (psub b a) (psub c a)from rfl]at*
 generalize psub b a=s at*
 generalize psub c a=u at*
 generalize pcross s u=v at*
 obtain⟨a1,a2⟩:=a
 obtain⟨b1,b2⟩:=b
 obtain⟨c1,c2⟩:=c
 obtain⟨s1,s2⟩:=s
 obtain⟨u1,u2⟩:=u
 refine callV (Z:=[]) tabOK mixedOK Tryz.func99 rfl (by kernel_rfl) rfl rfl (by kernel_rfl) rfl ?_
 intro W0 w0 ρ0 hE
 conv=>whnf
 (repeat(first|(refine step_i (by kernel_rfl) ?_;conv=>whnf)|(refine g_c (by assumption) ?_;conv=>whnf)));(first|exact Recast.refl _|exact Frz.recast (Recast.refl _) rfl|(refine Frz.one rfl rfl ?_;skip)|(refine Frz.tup ?_;skip))
end Go.Proofs.YthaeohlijigplaaGreat
namespace Go.Proofs.YthaeohlijigplaaGreat
open Go.Sx
set_option linter.unusedSimpArgs false
set_option linter.unusedVariables false
set_option maxRecDepth 100000
set_option maxHeartbeats 8000000
def bp (a b c p:Pt) (i:Nat):Rat:=match i with
 |0=>tw p b c
 |1=>tw a p c
 |_=>tw a b p
def bl (a b c p:Pt) (i:Nat):Rat:=bp a b c p i/tw a b c
abbrev ag3f (x y z:Rat):SV:=.agg [.frac x,.frac y,.frac z]
theorem t_Bary {a b c p:Pt} {B:Nat} (ha:PB B a) (hb:PB B b) (hc:PB B c) (hp:PB B p) (h:16*B≤1073741824) (hne:tw a b c≠0):
  CallOK Tryz.prog 61 [ptA a,ptA b,ptA c,ptA p] [] (.tup [ag3f (bl a b c p 0) (bl a b c p 1) (bl a b c p 2),iv 0]) [] []:=by
 have k0:=t_twice ha hb hc (by omega)
 have k1:=t_twice hp hb hc (by omega)
 have k2:=t_twice ha hp hc (by omega)
 have k3:=t_twice ha hb hp (by omega)
 have s0:=ha.tw hb hc
 have d1:=f_Div (tw p b c) (tw a b c) hne (by have:=hp.tw hb hc;omega)
 have d2:=f_Div (tw a p c) (tw a b c) hne (by have:=ha.tw hp hc;omega)
 have d3:=f_Div (tw a b p) (tw a b c) hne (by have:=ha.tw hb hp;omega)
 clear ha hb hc hp hne s0
 simp only[bl,bp]
 generalize tw a b c=u at*
 generalize tw p b c=x at*
 generalize tw a p c=y at*
 generalize tw a b p=z at*
 obtain⟨a1,a2⟩:=a
 obtain⟨b1,b2⟩:=b
 obtain⟨c1,c2⟩:=c
 obtain⟨p1,p2⟩:=p
 refine callV (Z:=[4,5,6,7]) tabOK mixedOK Tryz.func61 rfl (by kernel_rfl) rfl rfl (by kernel_rfl) rfl ?_
 intro W0 w0 ρ0 hE
 conv=>whnf
 (repeat(first|(refine step_i (by kernel_rfl) ?_;conv=>whnf)|(refine g_c (by assumption) ?_;conv=>whnf)|(refine g_o (op_loadA rfl (ev_ok rfl) (tgt rfl) rfl (Nat.succ_ne_zero _) rfl) ?_;conv=>whnf)))
 refine SW_loopN hE (fun k=>k) [8,9,10,11,32] [8,10,11] (fun m fr hp=>∃i,m=3 - i∧i≤3∧fr=[(8,.ptr 8 0 0 0),(9,iv 0),(10,.ptr 10 0 0 0),(11,.ptr 11 0 0 0),(32,iv (i:Nat))]∧
  hp=[(8,⟨59,true,.one [.frac 0,.frac 0,.frac 0]⟩),(10,⟨47,true,.one [.frac u]⟩),(11,⟨59,true,.one [.frac (if 0<i then x/u else x),.frac (if 1<i then y/u else y),.frac (if 2<i then z/u else z)]⟩)]) 3 ?_ ?_ ?_
 ·kernel_rfl
 ·exact⟨0,rfl,by decide,rfl,rfl⟩
 rintro m _ _ ⟨i,rfl,hi,rfl,rfl⟩
 obtain rfl|rfl|rfl|rfl:i=0∨i=1∨i=2∨i=3:=by omega
 all_goals conv=>whnf
 ·(repeat((first|refine step_w1 rfl rfl ?_|refine step_w2 rfl rfl ?_|refine step_i (by kernel_rfl) ?_|refine step_oA (by first|omega|decide|(simp only[tl0,dlen,List.length_replicate,List.length_set,List.length_map,List.length_zipWith,List.length_take,List.length_append,List.length_cons,List.length_nil];omega)) ?_|refine g_c (by assumption) ?_|rw[bne_self_eq_false]|rw[Int.toNat_natCast]|rw[Nat.zero_add]);conv=>whnf))
  exact⟨2,fun k=>k,[8,9,10,11,32],[8,10,11],by omega,by kernel_rfl,1,rfl,by decide,rfl,rfl⟩
 ·(repeat((first|refine step_w1 rfl rfl ?_|refine step_w2 rfl rfl ?_|refine step_i (by kernel_rfl) ?_|refine step_oA (by first|omega|decide|(simp only[tl0,dlen,List.length_replicate,List.length_set,List.length_map,List.length_zipWith,List.length_take,List.length_append,List.length_cons,List.length_nil];omega)) ?_|refine g_c (by assumption) ?_|rw[bne_self_eq_false]|rw[Int.toNat_natCast]|rw[Nat.zero_add]);conv=>whnf))
  exact⟨1,fun k=>k,[8,9,10,11,32],[8,10,11],by omega,by kernel_rfl,2,rfl,by decide,rfl,rfl⟩
 ·(repeat((first|refine step_w1 rfl rfl ?_|refine step_w2 rfl rfl ?_|refine step_i (by kernel_rfl) ?_|refine step_oA (by first|omega|decide|(simp only[tl0,dlen,List.length_replicate,List.length_set,List.length_map,List.length_zipWith,List.length_take,List.length_append,List.length_cons,List.length_nil];omega)) ?_|refine g_c (by assumption) ?_|rw[bne_self_eq_false]|rw[Int.toNat_natCast]|rw[Nat.zero_add]);conv=>whnf))
  exact⟨0,fun k=>k,[8,9,10,11,32],[8,10,11],by omega,by kernel_rfl,3,rfl,by decide,rfl,rfl⟩
 ·(repeat(first|(refine step_w2 rfl rfl ?_;conv=>whnf)));(first|exact Recast.refl _|exact Frz.recast (Recast.refl _) rfl|(refine Frz.one rfl rfl ?_;skip)|(refine Frz.tup ?_;skip))
def wh3 (x y z:Rat):Int:=if x.num.sign= -1∨y.num.sign= -1∨z.num.sign= -1 then 0 else 1+((if x.num.sign=0 then 1 else 0)+(if y.num.sign=0 then 1 else 0)+(if z.num.sign=0 then 1 else 0))
def whF (a b c p:Pt):Int:=wh3 (bl a b c p 0) (bl a b c p 1) (bl a b c p 2)
theorem sign_3 (z:Int):z.sign= -1∨z.sign=0∨z.sign=1:=by
 rcases Int.lt_trichotomy z 0 with h|h|h
 ·exact .inl (Int.sign_eq_neg_one_of_neg h)
 ·subst h;exact .inr (.inl rfl)
 ·exact .inr (.inr (Int.sign_eq_one_of_pos h))
theorem t_Where {a b c p:Pt} {B:Nat} (ha:PB B a) (hb:PB B b) (hc:PB B c) (hp:PB B p) (h:16*B≤1073741824) (hne:tw a b c≠0):
  CallOK Tryz.prog 34 [ptA a,ptA b,ptA c,ptA p] [] (iv (whF a b c p)) [] []:=by
 have k0:=t_Bary ha hb hc hp h hne
 have k1:=c_fSign (bl a b c p 0)
 have k2:=c_fSign (bl a b c p 1)
 have k3:=c_fSign (bl a b c p 2)
 clear ha hb hc hp hne
 unfold whF
 generalize bl a b c p 0=x at*
 generalize bl a b c p 1=y at*
 generalize bl a b c p 2=z at*
 have hx:=sign_3 x.num
 have hy:=sign_3 y.num
 have hz:=sign_3 z.num
 obtain⟨a1,a2⟩:=a
 obtain⟨b1,b2⟩:=b
 obtain⟨c1,c2⟩:=c
 obtain⟨p1,p2⟩:=p
 unfold wh3
 generalize x.num.sign=s at*
 generalize y.num.sign=u at*
 generalize z.num.sign=v at*
 refine callV (Z:=[4,5,6,7]) tabOK mixedOK Tryz.func34 rfl (by kernel_rfl) rfl rfl (by kernel_rfl) rfl ?_
 intro W0 w0 ρ0 hE
 conv=>whnf
 (repeat((first|refine step_w2 rfl rfl ?_|refine g_c (by assumption) ?_|rw[bne_self_eq_false]|refine g_o (op_loadA rfl (ev_ok rfl) (tgt rfl) rfl (Nat.succ_ne_zero _) rfl) ?_);conv=>whnf))
 refine SW_loopN hE (fun k=>k) [8,9,11,23] [9] (fun m fr hp=>∃(i:Nat) (q:Int),m=3 - i∧i≤3∧(0<i→s≠ -1)∧(1<i→u≠ -1)∧(2<i→v≠ -1)∧q=1+((if 0<i∧s=0 then 1 else 0)+(if 1<i∧u=0 then 1 else 0)+(if 2<i∧v=0 then 1 else 0))∧
  fr=[(8,iv 0),(9,.ptr 9 0 0 0),(11,iv q),(23,iv (i:Nat))]∧hp=[(9,⟨59,true,.one [.frac x,.frac y,.frac z]⟩)]) 3 ?_ ?_ ?_
 ·kernel_rfl
 ·exact⟨0,1,rfl,by decide,by omega,by omega,by omega,rfl,rfl,rfl⟩
 rintro m _ _ ⟨i,q,rfl,hi,h1,h2,h3,hq,rfl,rfl⟩
 have hq4:1≤q∧q≤4:=by split at hq<;>split at hq<;>split at hq<;>omega
 have w1:IntKind.i64.wrap (q+1)=q+1:=wrap_i64 (by omega) (by omega)
 obtain rfl|rfl|rfl|rfl:i=0∨i=1∨i=2∨i=3:=by omega
 all_goals conv=>whnf
 ·rcases hx with rfl|rfl|rfl
  ·rw[if_pos (.inl rfl)]
   (repeat(first|(refine step_w1 rfl rfl ?_;conv=>whnf)|(refine step_oA (by first|omega|decide|(simp only[tl0,dlen,List.length_replicate,List.length_set,List.length_map,List.length_zipWith,List.length_take,List.length_append,List.length_cons,List.length_nil];omega)) ?_;conv=>whnf)|(refine g_c (by assumption) ?_;conv=>whnf)));(first|exact Recast.refl _|exact Frz.recast (Recast.refl _) rfl|(refine Frz.one rfl rfl ?_;skip)|(refine Frz.tup ?_;skip))
  ·(repeat((first|refine step_w1 rfl rfl ?_|refine step_w2 rfl rfl ?_|refine step_oA (by first|omega|decide|(simp only[tl0,dlen,List.length_replicate,List.length_set,List.length_map,List.length_zipWith,List.length_take,List.length_append,List.length_cons,List.length_nil];omega)) ?_|refine g_c (by assumption) ?_|rw[beq_self_eq_true]|rw[w1]|rw[Int.toNat_natCast]|rw[Nat.zero_add]);conv=>whnf))
   exact⟨2,fun k=>k,[8,9,11,23],[9],by omega,by kernel_rfl,1,q+1,rfl,by decide,by decide,by omega,by omega,by simp[hq],rfl,rfl⟩
  ·(repeat((first|refine step_w1 rfl rfl ?_|refine step_w2 rfl rfl ?_|refine step_oA (by first|omega|decide|(simp only[tl0,dlen,List.length_replicate,List.length_set,List.length_map,List.length_zipWith,List.length_take,List.length_append,List.length_cons,List.length_nil];omega)) ?_|refine g_c (by assumption) ?_|rw[Int.toNat_natCast]|rw[Nat.zero_add]);conv=>whnf))
   exact⟨2,fun k=>k,[8,9,11,23],[9],by omega,by kernel_rfl,1,q,rfl,by decide,by decide,by omega,by omega,by simp[hq],rfl,rfl⟩
 ·rcases hy with rfl|rfl|rfl
  ·rw[if_pos (.inr (.inl rfl))]
   (repeat(first|(refine step_w1 rfl rfl ?_;conv=>whnf)|(refine step_oA (by first|omega|decide|(simp only[tl0,dlen,List.length_replicate,List.length_set,List.length_map,List.length_zipWith,List.length_take,List.length_append,List.length_cons,List.length_nil];omega)) ?_;conv=>whnf)|(refine g_c (by assumption) ?_;conv=>whnf)));(first|exact Recast.refl _|exact Frz.recast (Recast.refl _) rfl|(refine Frz.one rfl rfl ?_;skip)|(refine Frz.tup ?_;skip))
  ·(repeat((first|refine step_w1 rfl rfl ?_|refine step_w2 rfl rfl ?_|refine step_oA (by first|omega|decide|(simp only[tl0,dlen,List.length_replicate,List.length_set,List.length_map,List.length_zipWith,List.length_take,List.length_append,List.length_cons,List.length_nil];omega)) ?_|refine g_c (by assumption) ?_|rw[beq_self_eq_true]|rw[w1]|rw[Int.toNat_natCast]|rw[Nat.zero_add]);conv=>whnf))
   exact⟨1,fun k=>k,[8,9,11,23],[9],by omega,by kernel_rfl,2,q+1,rfl,by decide,fun _=>h1 (by decide),by decide,by omega,by rw[hq];simp;omega,rfl,rfl⟩
  ·(repeat((first|refine step_w1 rfl rfl ?_|refine step_w2 rfl rfl ?_|refine step_oA (by first|omega|decide|(simp only[tl0,dlen,List.length_replicate,List.length_set,List.length_map,List.length_zipWith,List.length_take,List.length_append,List.length_cons,List.length_nil];omega)) ?_|refine g_c (by assumption) ?_|rw[Int.toNat_natCast]|rw[Nat.zero_add]);conv=>whnf))
   exact⟨1,fun k=>k,[8,9,11,23],[9],by omega,by kernel_rfl,2,q,rfl,by decide,fun _=>h1 (by decide),by decide,by omega,by rw[hq];simp,rfl,rfl⟩
 ·rcases hz with rfl|rfl|rfl
  ·rw[if_pos (.inr (.inr rfl))]
   (repeat(first|(refine step_w1 rfl rfl ?_;conv=>whnf)|(refine step_oA (by first|omega|decide|(simp only[tl0,dlen,List.length_replicate,List.length_set,List.length_map,List.length_zipWith,List.length_take,List.length_append,List.length_cons,List.length_nil];omega)) ?_;conv=>whnf)|(refine g_c (by assumption) ?_;conv=>whnf)));(first|exact Recast.refl _|exact Frz.recast (Recast.refl _) rfl|(refine Frz.one rfl rfl ?_;skip)|(refine Frz.tup ?_;skip))
  ·(repeat((first|refine step_w1 rfl rfl ?_|refine step_w2 rfl rfl ?_|refine step_oA (by first|omega|decide|(simp only[tl0,dlen,List.length_replicate,List.length_set,List.length_map,List.length_zipWith,List.length_take,List.length_append,List.length_cons,List.length_nil];omega)) ?_|refine g_c (by assumption) ?_|rw[beq_self_eq_true]|rw[w1]|rw[Int.toNat_natCast]|rw[Nat.zero_add]);conv=>whnf))
   exact⟨0,fun k=>k,[8,9,11,23],[9],by omega,by kernel_rfl,3,q+1,rfl,by decide,fun _=>h1 (by decide),fun _=>h2 (by decide),by decide,by rw[hq];simp;omega,rfl,rfl⟩
  ·(repeat((first|refine step_w1 rfl rfl ?_|refine step_w2 rfl rfl ?_|refine step_oA (by first|omega|decide|(simp only[tl0,dlen,List.length_replicate,List.length_set,List.length_map,List.length_zipWith,List.length_take,List.length_append,List.length_cons,List.length_nil];omega)) ?_|refine g_c (by assumption) ?_|rw[Int.toNat_natCast]|rw[Nat.zero_add]);conv=>whnf))
   exact⟨0,fun k=>k,[8,9,11,23],[9],by omega,by kernel_rfl,3,q,rfl,by decide,fun _=>h1 (by decide),fun _=>h2 (by decide),by decide,by rw[hq];simp,rfl,rfl⟩
 ·rw[if_neg (by have:=h1 (by decide);have:=h2 (by decide);have:=h3 (by decide);omega)]
  rw[show 1+((if s=0 then 1 else 0)+(if u=0 then 1 else 0)+(if v=0 then 1 else 0))=q by rw[hq];simp]
  (repeat(first|(refine step_w2 rfl rfl ?_;conv=>whnf)));(first|exact Recast.refl _|exact Frz.recast (Recast.refl _) rfl|(refine Frz.one rfl rfl ?_;skip)|(refine Frz.tup ?_;skip))
end Go.Proofs.YthaeohlijigplaaGreat
namespace Go.Proofs.YthaeohlijigplaaGreat
open Go.Sx
set_option linter.unusedSimpArgs false
set_option linter.unusedVariables false
set_option maxRecDepth 100000
set_option maxHeartbeats 8000000
theorem g_CloneFI (l:List Int) (hl:l.length<1099511627776):CallOK Tryz.prog 77 [ivec .i64 l] [] (ivec .i64 l) [] []:=by
 by_cases h0:l=[]
 ·subst h0
  refine CallOK.empty1 ⟨_,Tryz.func77,by kernel_rfl,rfl⟩ fun ad cap=> ?_
  cases ad with
  |none=>
   refine callF (Z:=[]) tabOK mixedOK Tryz.func77 rfl (by kernel_rfl) (by first|rfl|(simp[keylessL,keyless,keylessL_map, *];done)) (by first|rfl|(simp[keylessL,keyless,keylessL_map, *];done)) (by kernel_rfl) rfl ?_
   intro w0 ρ0 hE
   conv=>whnf
   (repeat(first|(refine step_w1 rfl rfl ?_;conv=>whnf)|(refine⟨_,op_eqNilS rfl (ev_ok rfl) (ev_ok rfl) (tgt rfl) rfl, ?_⟩;conv=>whnf)));(first|exact Recast.refl _|exact Frz.recast (Recast.refl _) rfl|(refine Frz.one rfl rfl ?_;(repeat(first|exact FrzC.nilS)))|(refine Frz.tup ?_;skip))
  |some b=>
   refine callF (Z:=[]) tabOK mixedOK Tryz.func77 rfl (by kernel_rfl) (by first|rfl|(simp[keylessL,keyless,keylessL_map, *];done)) (by first|rfl|(simp[keylessL,keyless,keylessL_map, *];done)) (by kernel_rfl) rfl ?_
   intro w0 ρ0 hE
   conv=>whnf
   (repeat(first|(refine step_w2 rfl rfl ?_;conv=>whnf)|(refine⟨_,op_eqNilS rfl (ev_ok rfl) (ev_ok rfl) (tgt rfl) rfl, ?_⟩;conv=>whnf)|(refine g_o (op_appendE rfl rfl rfl (ev_ok rfl) (ev_ok rfl) (tgt rfl) rfl (tgt rfl) rfl (tgt rfl)) ?_;conv=>whnf)));(first|exact Recast.refl _|exact Frz.recast (Recast.refl _) rfl|(refine Frz.one rfl rfl ?_;(repeat(first|(refine FrzC.ints rfl ?_;(first|rfl|omega|(simp<;>fail)|(simp<;>omega))))))|(refine Frz.tup ?_;skip))
 have hne:l.map (iel .i64)≠[]:=by simpa using h0
 refine callF (Z:=[]) tabOK mixedOK Tryz.func77 rfl (by kernel_rfl) (by first|rfl|(simp[keylessL,keyless,keylessL_map, *];done)) (by first|rfl|(simp[keylessL,keyless,keylessL_map, *];done)) (by kernel_rfl) rfl ?_
 intro w0 ρ0 hE
 conv=>whnf
 (repeat(first|(refine step_w2 rfl rfl ?_;conv=>whnf)|(refine⟨_,op_eqNilV rfl (ev_ok rfl) (ev_ok rfl) (tgt rfl) rfl hne, ?_⟩;conv=>whnf)))
 refine⟨.slc 7 1 0 (0+l.length),[(5,⟨3,true,.ints .i64 []⟩)],[(7,⟨3,true,.ints .i64 l⟩)],[(5,⟨3,true,.dead⟩)],op_appendV rfl rfl rfl (ev_ok rfl) (ev_ok rfl) (rows_ints l) (tabOK.get (t:=36) rfl) rfl (tabOK.get (t:=36) rfl) rfl (tabOK.get (t:=3) rfl) (List.mem_cons_self ..) rfl rfl (by simp[dlen]) (by simp) (by simp[dlen]) (by simp[dapp]) (by show(0+_)*ti3.bytes≤_;simp only[tiB3];omega) (by omega),one_fk rfl,one_new rfl,one_upd (List.mem_cons_self ..) rfl rfl rfl, ?_⟩
 conv=>whnf
 rw[Nat.zero_add]
 (first|exact Recast.refl _|exact Frz.recast (Recast.refl _) rfl|(refine Frz.one rfl rfl ?_;(repeat(first|(refine FrzC.ints rfl ?_;(first|rfl|omega|(simp<;>fail)|(simp<;>omega))))))|(refine Frz.tup ?_;skip))
theorem g_ClipI (l:List Int):CallOK Tryz.prog 76 [ivec .i64 l] [] (ivec .i64 l) [] []:=by
 refine callV (Z:=[]) tabOK mixedOK Tryz.func76 rfl (by kernel_rfl) rfl rfl (by kernel_rfl) rfl ?_
 intro W0 w0 ρ0 hE
 conv=>whnf
 (repeat(first|(refine g_o (op_lenM rfl rfl rfl (ev_ok rfl) (tgt rfl) rfl) ?_;conv=>whnf)|(refine g_o (op_sliceM rfl (ev_ok rfl) (bound_spec rfl) (bound_spec rfl) (.inr ⟨Option.some_ne_none _,_,_,rfl,ev_ok rfl⟩) (tgt rfl) rfl (tgt rfl) rfl (by omega)) ?_;conv=>whnf)|(rw[Int.toNat_natCast];conv=>whnf)))
 rw[show(l.drop (Int.toNat 0)).take (l.length - Int.toNat 0)=l by simp]
 (first|exact Recast.refl _|exact Frz.recast (Recast.refl _) rfl|(refine Frz.one rfl rfl ?_;skip)|(refine Frz.tup ?_;skip))
structure Me where
 ps:List Pt
 ts:List T3
 ss:List T3
abbrev meA (m:Me):SV:=.agg [mvec 10 ptA m.ps,mvec 3 triA m.ts,mvec 3 triA m.ss]
structure Me.Fit (m:Me):Prop where
 ps:m.ps.length<1099511627776
 ts:m.ts.length<1099511627776
 ss:m.ss.length<1099511627776
theorem m_Copy (m:Me) (h:m.Fit):CallOK Tryz.prog 37 [meA m] [] (meA m) [] []:=by
 have k1:=g_CloneFP m.ps h.ps
 have k2:=g_CloneFT m.ts h.ts
 have k3:=g_CloneFS m.ss h.ss
 have k4:=g_ClipP m.ps
 have k5:=g_ClipT m.ts
 have k6:=g_ClipS m.ss
 refine callV (Z:=[]) tabOK mixedOK Tryz.func37 rfl (by kernel_rfl) rfl rfl (by kernel_rfl) rfl ?_
 intro W0 w0 ρ0 hE
 conv=>whnf
 (repeat(first|(refine step_i (by kernel_rfl) ?_;conv=>whnf)|(refine g_c (by assumption) ?_;conv=>whnf)));(first|exact Recast.refl _|exact Frz.recast (Recast.refl _) rfl|(refine Frz.one rfl rfl ?_;skip)|(refine Frz.tup ?_;skip))
def idxF {α:Type} (p:α→Bool):List α→Nat→Int
 |[],_=> -1
 |x::l,i=>if p x then(i:Int)else idxF p l (i+1)
theorem idxF_any {α:Type} (p:α→Bool):∀(l:List α) (i:Nat),decide (idxF p l i≥0)=l.any p
 |[],i=>by simp[idxF]
 |x::l,i=>by
  simp only[idxF,List.any_cons]
  have ih:=idxF_any p l (i+1)
  by_cases hp:p x=true
  ·simp[hp]
  ·simp[hp,ih]
theorem idxF_drop {α:Type} (p:α→Bool) (d:α) {l:List α} {i:Nat} (h:i<l.length):idxF p (l.drop i) i=if p (l.getD i d)then(i:Int)else idxF p (l.drop (i+1)) (i+1):=by
 rw[List.drop_eq_getElem_cons h,idxF,List.getD_eq_getElem?_getD,List.getElem?_eq_getElem h];rfl
theorem m_point (p n:Int):CallOK Tryz.prog 27 [iv p,iv n] [] (.val (.bool (decide (0≤p)&&decide (p<n)))) [] []:=by
 by_cases h1:0≤p
 ·have t1:decide (p≥0)=true:=decide_eq_true h1
  rw[decide_eq_true h1,Bool.true_and]
  refine callV (Z:=[]) tabOK mixedOK Tryz.func27 rfl (by kernel_rfl) rfl rfl (by kernel_rfl) rfl ?_
  intro W0 w0 ρ0 hE
  conv=>whnf
  (repeat(first|(refine step_w1 rfl rfl ?_;conv=>whnf)|(refine g_o (op_pickT rfl (ev_ok rfl) (ev_ok rfl)) ?_;conv=>whnf)|(rw[t1];conv=>whnf)));(first|exact Recast.refl _|exact Frz.recast (Recast.refl _) rfl|(refine Frz.one rfl rfl ?_;skip)|(refine Frz.tup ?_;skip))
 ·have t1:decide (p≥0)=false:=decide_eq_false h1
  rw[decide_eq_false h1,Bool.false_and]
  refine callV (Z:=[]) tabOK mixedOK Tryz.func27 rfl (by kernel_rfl) rfl rfl (by kernel_rfl) rfl ?_
  intro W0 w0 ρ0 hE
  conv=>whnf
  (repeat(first|(refine step_w2 rfl rfl ?_;conv=>whnf)|(refine g_o (op_pickF rfl (ev_ok rfl) (ev_ok rfl)) ?_;conv=>whnf)|(rw[t1];conv=>whnf)));(first|exact Recast.refl _|exact Frz.recast (Recast.refl _) rfl|(refine Frz.one rfl rfl ?_;skip)|(refine Frz.tup ?_;skip))
def okT (n:Int) (t:T3):Bool:=(decide (0≤t.1)&&decide (t.1<n))&&(decide (0≤t.2.1)&&decide (t.2.1<n))&&(decide (0≤t.2.2)&&decide (t.2.2<n))&& !(t.1==t.2.1)&& !(t.2.1==t.2.2)&& !(t.2.2==t.1)
theorem m_numbered1 (n:Int) (t:T3) (h:okT n t=true):CallOK Tryz.prog 125 ([]++([triA t]++[ptrA [iv n]])) [] (.val (.bool false)) [] []:=by
 obtain⟨a,b,c⟩:=t
 have k1:=m_point a n
 have k2:=m_point b n
 have k3:=m_point c n
 simp only[okT,Bool.and_eq_true,Bool.not_eq_true']at h
 obtain⟨⟨⟨⟨⟨h1,h2⟩,h3⟩,h4⟩,h5⟩,h6⟩:=h
 rw[show(decide (0≤a)&&decide (a<n))=true by rw[h1.1,h1.2];rfl]at k1
 rw[show(decide (0≤b)&&decide (b<n))=true by rw[h2.1,h2.2];rfl]at k2
 rw[show(decide (0≤c)&&decide (c<n))=true by rw[h3.1,h3.2];rfl]at k3
 clear h1 h2 h3
 refine callV (Z:=[2]) tabOK mixedOK Tryz.func125 rfl (by kernel_rfl) rfl rfl (by kernel_rfl) rfl ?_
 intro W0 w0 ρ0 hE
 conv=>whnf
 (repeat((first|refine step_w1 rfl rfl ?_|refine g_c (by assumption) ?_|refine g_o (op_pickF rfl (ev_ok rfl) (ev_ok rfl)) ?_|refine g_o (op_loadA rfl (ev_ok rfl) (tgt rfl) rfl (Nat.succ_ne_zero _) rfl) ?_|refine g_o (op_indexArrA rfl (ev_ok rfl) (ev_ok rfl) (tgt rfl) rfl (tgt rfl) (by omega) (by omega) (Nat.succ_ne_zero _) rfl) ?_|rw[h4]|rw[h5]|rw[h6]);conv=>whnf));(first|exact Recast.refl _|exact Frz.recast (Recast.refl _) rfl|(refine Frz.one rfl rfl ?_;skip)|(refine Frz.tup ?_;skip))
theorem g_IndexT (p:T3→Bool) (g:FuncId) (cs:List SV) (l:List T3) (hl:l.length<1099511627776) (h:∀i,i<l.length→CallOK Tryz.prog g ([]++([triA (l.getD i (0,0,0))]++[ptrA cs])) [] (.val (.bool (p (l.getD i (0,0,0))))) [] []):
  CallOK Tryz.prog 142 [mvec 3 triA l,.clo g [] [ptrA cs]] [] (iv (idxF p l 0)) [] []:=by
 refine callV (Z:=[]) tabOK mixedOK Tryz.func142 rfl (by kernel_rfl) rfl rfl (by kernel_rfl) rfl ?_
 intro W0 w0 ρ0 hE
 conv=>whnf
 (repeat(first|(refine g_o (op_lenM rfl rfl rfl (ev_ok rfl) (tgt rfl) rfl) ?_;conv=>whnf)))
 refine SW_loopN hE (fun k=>k) [0,1,4,6,7,8] [] (fun m fr hp=>∃i,m=l.length - i∧i≤l.length∧idxF p l 0=idxF p (l.drop i) i∧fr=[(0,mvec 3 triA l),(1,.clo g [] [ptrA cs]),(4,iv 0),(6,mvec 3 triA l),(7,iv (l.length:Nat)),(8,iv (i:Nat))]∧hp=[]) l.length ?_ ?_ ?_
 ·kernel_rfl
 ·exact⟨0,rfl,Nat.zero_le _,rfl,rfl,rfl⟩
 rintro m _ _ ⟨i,rfl,hi,hx,rfl,rfl⟩
 conv=>whnf
 by_cases hlt:i<l.length
 ·have t1:decide (((i:Nat):Int)<((l.length:Nat):Int))=true:=decide_eq_true (by omega)
  have t2:=winc (i:=i) (by omega)
  have k1:=h i hlt
  have hd:=idxF_drop p (0,0,0) hlt
  rw[hx,hd]
  cases hp:p (l.getD i (0,0,0))with
  |true=>
   rw[hp]at k1
   (repeat((first|refine step_w1 rfl rfl ?_|refine g_c (by assumption) ?_|refine g_o (op_loadA rfl (ev_ok rfl) (tgt rfl) rfl (Nat.succ_ne_zero _) rfl) ?_|refine g_o (op_indexN (α:=T3) (d:=(0,0,0)) rfl (ev_ok rfl) (ev_ok rfl) (tgt rfl) rfl (tgt rfl) rfl (by omega)) ?_|rw[t1]);conv=>whnf));(first|exact Recast.refl _|exact Frz.recast (Recast.refl _) rfl|(refine Frz.one rfl rfl ?_;skip)|(refine Frz.tup ?_;skip))
  |false=>
   rw[hp]at k1
   (repeat((first|refine step_w1 rfl rfl ?_|refine step_w2 rfl rfl ?_|refine g_c (by assumption) ?_|refine g_o (op_loadA rfl (ev_ok rfl) (tgt rfl) rfl (Nat.succ_ne_zero _) rfl) ?_|refine g_o (op_indexN (α:=T3) (d:=(0,0,0)) rfl (ev_ok rfl) (ev_ok rfl) (tgt rfl) rfl (tgt rfl) rfl (by omega)) ?_|rw[t1]|rw[t2]);conv=>whnf))
   exact⟨l.length - (i+1),fun k=>k,[0,1,4,6,7,8],[],by omega,by kernel_rfl,i+1,rfl,hlt,by simp,rfl,rfl⟩
 ·have t1:decide (((i:Nat):Int)<((l.length:Nat):Int))=false:=decide_eq_false (by omega)
  rw[hx,List.drop_of_length_le (by omega)]
  (repeat(first|(refine step_w2 rfl rfl ?_;conv=>whnf)|(rw[t1];conv=>whnf)));(first|exact Recast.refl _|exact Frz.recast (Recast.refl _) rfl|(refine Frz.one rfl rfl ?_;skip)|(refine Frz.tup ?_;skip))
theorem g_IndexTc (p:T3→Bool) (g:FuncId) (cs:List SV) (l:List T3) (hl:l.length<1099511627776) (h:∀i,i<l.length→CallOK Tryz.prog g ([]++([triA (l.getD i (0,0,0))]++[ptrA cs])) [] (.val (.bool (p (l.getD i (0,0,0))))) [] []):
  CallOK Tryz.prog 124 [mvec 3 triA l,.clo g [] [ptrA cs]] [] (.val (.bool (l.any p))) [] []:=by
 have k1:=g_IndexT p g cs l hl h
 rw[←idxF_any p l 0]
 refine callV (Z:=[]) tabOK mixedOK Tryz.func124 rfl (by kernel_rfl) rfl rfl (by kernel_rfl) rfl ?_
 intro W0 w0 ρ0 hE
 conv=>whnf
 (repeat(first|(refine g_c (by assumption) ?_;conv=>whnf)));(first|exact Recast.refl _|exact Frz.recast (Recast.refl _) rfl|(refine Frz.one rfl rfl ?_;skip)|(refine Frz.tup ?_;skip))
end Go.Proofs.YthaeohlijigplaaGreat
namespace Go.Proofs.YthaeohlijigplaaGreat
open Go.Sx
set_option linter.unusedSimpArgs false
set_option linter.unusedVariables false
set_option maxRecDepth 100000
set_option maxHeartbeats 8000000
def OkTs (n:Nat) (ts:List T3):Prop:=∀i,i<ts.length→okT (n:Int) (ts.getD i (0,0,0))=true
theorem m_numbered (n:Nat) (ts:List T3) (hl:ts.length<1099511627776) (h:OkTs n ts):CallOK Tryz.prog 97 [mvec 3 triA ts,iv (n:Nat)] [] (.val (.bool true)) [] []:=by
 have k1:=g_IndexTc (fun _=>false) 125 [iv (n:Nat)] ts hl (fun i hi=>m_numbered1 _ _ (h i hi))
 rw[show ts.any (fun _=>false)=false by simp]at k1
 refine callV (Z:=[3]) tabOK mixedOK Tryz.func97 rfl (by kernel_rfl) rfl rfl (by kernel_rfl) rfl ?_
 intro W0 w0 ρ0 hE
 conv=>whnf
 (repeat(first|(refine g_c (by assumption) ?_;conv=>whnf)|(refine g_o (op_makeFunc rfl rfl rfl) ?_;conv=>whnf)));(first|exact Recast.refl _|exact Frz.recast (Recast.refl _) rfl|(refine Frz.one rfl rfl ?_;skip)|(refine Frz.tup ?_;skip))
theorem m_Numbered (m:Me) (hf:m.Fit) (h:OkTs m.ps.length m.ts):CallOK Tryz.prog 60 [meA m] [] (.val (.bool true)) [] []:=by
 have k1:=m_numbered m.ps.length m.ts hf.ts h
 refine callV (Z:=[1]) tabOK mixedOK Tryz.func60 rfl (by kernel_rfl) rfl rfl (by kernel_rfl) rfl ?_
 intro W0 w0 ρ0 hE
 conv=>whnf
 (repeat((first|refine g_c (by assumption) ?_|refine g_o (op_lenM rfl rfl rfl (ev_ok rfl) (tgt rfl) rfl) ?_|refine g_o (op_loadA rfl (ev_ok rfl) (tgt rfl) rfl (Nat.succ_ne_zero _) rfl) ?_|refine g_o (op_fieldA rfl (ev_ok rfl) (tgt rfl) rfl rfl (Nat.succ_ne_zero _) rfl) ?_);conv=>whnf));(first|exact Recast.refl _|exact Frz.recast (Recast.refl _) rfl|(refine Frz.one rfl rfl ?_;skip)|(refine Frz.tup ?_;skip))
def gp (ps:List Pt) (i:Int):Pt:=ps.getD i.toNat (0,0)
def gt (ts:List T3) (i:Nat):T3:=ts.getD i (0,0,0)
theorem okT_iff {n:Int} {t:T3} (h:okT n t=true):(0≤t.1∧t.1<n)∧(0≤t.2.1∧t.2.1<n)∧(0≤t.2.2∧t.2.2<n)∧t.1≠t.2.1∧t.2.1≠t.2.2∧t.2.2≠t.1:=by
 simp only[okT,Bool.and_eq_true,decide_eq_true_eq,Bool.not_eq_true',beq_eq_false_iff_ne]at h
 obtain⟨⟨⟨⟨⟨h1,h2⟩,h3⟩,h4⟩,h5⟩,h6⟩:=h
 exact⟨h1,h2,h3,h4,h5,h6⟩
theorem m_Corners (m:Me) (i:Nat) (hi:i<m.ts.length) (h:okT (m.ps.length:Int) (gt m.ts i)=true):
  CallOK Tryz.prog 8 [meA m,iv (i:Nat)] [] (.tup [ptA (gp m.ps (gt m.ts i).1),ptA (gp m.ps (gt m.ts i).2.1),ptA (gp m.ps (gt m.ts i).2.2)]) [] []:=by
 obtain⟨ps,ts,ss⟩:=m
 obtain⟨h1,h2,h3,_⟩:=okT_iff h
 simp only at*
 have hg:ts.getD i (0,0,0)=gt ts i:=rfl
 generalize gt ts i=t at*
 obtain⟨a,b,c⟩:=t
 simp only at*
 have k1:=m_point a (ps.length:Nat)
 have k2:=m_point b (ps.length:Nat)
 have k3:=m_point c (ps.length:Nat)
 rw[decide_eq_true h1.1,decide_eq_true h1.2]at k1
 rw[decide_eq_true h2.1,decide_eq_true h2.2]at k2
 rw[decide_eq_true h3.1,decide_eq_true h3.2]at k3
 have g1:ps.getD a.toNat (0,0)=gp ps a:=rfl
 have g2:ps.getD b.toNat (0,0)=gp ps b:=rfl
 have g3:ps.getD c.toNat (0,0)=gp ps c:=rfl
 have t1:decide (((i:Nat):Int)<0)=false:=decide_eq_false (by omega)
 have t2:decide (((i:Nat):Int)≥((ts.length:Nat):Int))=false:=decide_eq_false (by omega)
 refine callV (Z:=[2]) tabOK mixedOK Tryz.func8 rfl (by kernel_rfl) rfl rfl (by kernel_rfl) rfl ?_
 intro W0 w0 ρ0 hE
 conv=>whnf
 (repeat((first|refine step_w1 rfl rfl ?_|refine step_w2 rfl rfl ?_|refine step_i (by kernel_rfl) ?_|refine step_oA (by first|omega|decide|(simp only[tl0,dlen,List.length_replicate,List.length_set,List.length_map,List.length_zipWith,List.length_take,List.length_append,List.length_cons,List.length_nil];omega)) ?_|refine g_c (by assumption) ?_|refine g_o (op_pickF rfl (ev_ok rfl) (ev_ok rfl)) ?_|refine g_o (op_lenM rfl rfl rfl (ev_ok rfl) (tgt rfl) rfl) ?_|refine g_o (op_loadA rfl (ev_ok rfl) (tgt rfl) rfl (Nat.succ_ne_zero _) rfl) ?_|refine g_o (op_fieldA rfl (ev_ok rfl) (tgt rfl) rfl rfl (Nat.succ_ne_zero _) rfl) ?_|refine g_o (op_indexN (α:=T3) (d:=(0,0,0)) rfl (ev_ok rfl) (ev_ok rfl) (tgt rfl) rfl (tgt rfl) rfl (by omega)) ?_|refine g_o (op_indexM (α:=Pt) (d:=(0,0)) rfl (ev_ok rfl) (ev_ok rfl) (tgt rfl) rfl (tgt rfl) rfl (by omega)) ?_|rw[t1]|rw[t2]|rw[hg]|rw[g1]|rw[g2]|rw[g3]);conv=>whnf))
 (first|exact Recast.refl _|exact Frz.recast (Recast.refl _) rfl|(refine Frz.one rfl rfl ?_;skip)|(refine Frz.tup ?_;skip))
end Go.Proofs.YthaeohlijigplaaGreat
namespace Go.Sx
set_option linter.unusedSimpArgs false
set_option linter.unusedVariables false
set_option maxRecDepth 100000
def endsJ (J:Bool) (upd:List (Nat×Blk)):Post':=fun e _ hp=>match e with
 |.normal=>J=true∧∀q b,(q,b)∈upd→find hp q=some b
 |.ret=>J=false∧∀q b,(q,b)∈upd→find hp q=some b
 |_=>False
def rcJ (J:Bool) (rc:Loop):Loop:=if J then rc else {rc with state:=.done,pending:=some .ret}
theorem yldJ {P:Program} {T:List (TypeId×TI)} {Z:List Nat} (hT:TabOK P T) (hm:P.follows .mixedOrders=true) (J:Bool) {k:Nat} {rc:Loop} {p p2:Nat} {asg bdy:Code} {n:Nat} (hst:rc.state= .ready) (hpd:rc.pending=none)
  (hps:rc.params= #[p,p2]) (hasg:rc.assign=asg) (hbdy:rc.body=bdy) (hn:rc.tmps.size=n) (hpn:p<n) (hpn2:p2<n) (hpp:p≠p2) {ts:List Nat} {cap:List SV} {x x2:SV} {fk upd:List (Nat×Blk)} (hs:RoundOK x cap fk upd) (hx2p:passable x2=true) (hx2r:subN (refs x2) (keysOf fk)=true)
  (h:∀W0 w0 ρ0 l,Env.OK ⟨P,T,W0,w0,n,ρ0,keysOf fk,Z,some l⟩→cwp ⟨P,T,W0,w0,n,ρ0,keysOf fk,Z,some l⟩ asg (fun e fr' hp'=>match e with
   |.normal=>(hp'.all (fun y=> !y.2.data.isLoop))=true∧∀w1,Env.OK ⟨P,T,W0,w1,n,ρ0,keysOf fk,Z,some l⟩→(∃r,w1.heap[l]? =some (.loop r))→¬W0 l→
     cwp ⟨P,T,W0,w1,n,ρ0,keysOf fk,Z,some l⟩ bdy (endsJ J upd) fr' hp'
   |_=>False) ((p2,x2)::(p,x)::ts.zip cap) fk):
  YldOK P k rc ts cap [x,x2] ((k,⟨0,true,.loop rc⟩)::fk) (.val (.bool J)) [] ((k,⟨0,true,.loop (rcJ J rc)⟩)::upd):=by
 intro ρ w z zc l t hz hzc hcap hkl hpw
 obtain⟨lvs,lex,hl,hl3,hl4⟩:∃vs ex:List Value,w.heap[l]? =some (.loop rc)∧DataC ρ (.loop rc) vs∧(vs++ex).length=t∧∀v∈ex,v.oneCell'=true:=by
  rcases hpw.hfk k _ (List.mem_cons_self ..)with h0|⟨b',t',vs,ex,g1,g2,g3⟩|⟨g1,_⟩
  ·cases h0
  ·rw[hkl]at g1;cases g1;exact⟨vs,ex,g2,g3⟩
  ·rw[hkl]at g1;cases g1
 have himm:ρ.imm l=none:=hpw.immw k _ (l,t) (List.mem_cons_self ..) rfl rfl hkl
 have hlt:l<w.heap.size:=(Array.getElem?_eq_some_iff.1 hl).1
 simp only[HasZ]at hz
 obtain⟨y,_,rfl,hxy,y2,_,rfl,hxy2,rfl⟩:=hz
 have hargs:(List.zipWith mkV [x,x2] [y,y2]).toArray= #[mkV x y,mkV x2 y2]:=rfl
 rw[hargs]
 have hy:=run_yield (P:=P) (args:= #[mkV x y,mkV x2 y2]) hl (by rw[hps];rfl)
 refine⟨_,_,_,_,hy, ?_⟩
 rw[hps,hasg,hbdy]
 have htm:((#[p,p2].zip #[mkV x y,mkV x2 y2]).foldl (fun tmps (t,a)=>tmps.setIfInBounds t a) rc.tmps)=(rc.tmps.setIfInBounds p (mkV x y)).setIfInBounds p2 (mkV x2 y2):=by simp
 rw[htm]
 have hmem:∀{q b},(q,b)∈fk→(q,b)∈(k,(⟨0,true,.loop rc⟩:Blk))::fk:=fun h=>List.mem_cons_of_mem _ h
 let ρ1:Rho:=⟨fun q=>if q∈keysOf fk then ρ.key q else none,ρ.imm,ρ.glob⟩
 have hρ1:∀q∈keysOf fk,ρ.key q=ρ1.key q:=fun q hq=>by
  show _=if q∈keysOf fk then _ else _
  rw[if_pos hq]
 have hρ1':∀q y,ρ1.key q=some y→q∈keysOf fk:=fun q y hx=>by
  have hx:(if q∈keysOf fk then ρ.key q else none)=some y:=hx
  by_cases hq:q∈keysOf fk
  ·exact hq
  ·rw[if_neg hq]at hx;cases hx
 have hnd:=nodupN_spec hs.nd
 let W0:Nat→Prop:=fun b=>∃q blk t,(q,blk)∈upd∧ρ1.key q=some (b,t)
 have hcells:∀q b y,(q,b)∈fk→b.data.live=true→ρ.key q=some y→∃vs ex:List Value,w.heap[y.1]? =some (.cells (vs++ex).toArray b.ty (0,0)):=by
  intro q b y hq hlv hy
  rcases hpw.hfk q b (hmem hq)with h0|⟨b',t',vs,ex,g1,g2,_⟩|⟨g1,_⟩
  ·rw[hlv]at h0;cases h0
  ·rw[hy]at g1;cases g1;rw[Data.obj_cells (hs.lp q b hq)]at g2;exact⟨vs,ex,g2⟩
  ·rw[hy]at g1;cases g1
 have hW0l:¬W0 l:=by
  rintro⟨q,blk,t',hq,hkq⟩
  obtain⟨b0,g1,g2,g3,_⟩:=hs.up q blk hq
  rw[←hρ1 q (keysOf_mem.2 ⟨b0,g1⟩)]at hkq
  obtain⟨vs,ex,g4⟩:=hcells q b0 _ g1 g3 hkq
  rw[hl]at g4;cases g4
 have hE:Env.OK ⟨P,T,W0,w,n,ρ1,keysOf fk,Z,some l⟩:=⟨hT,hm,hρ1'⟩
 have hx1:HasC ρ1 x y:=by
  have:=(renS_iff (ρ:=ρ1) (ρ':=ρ) (σ:=fun k=>k) rfl x y (fun j hj=>hρ1 j (subN_spec hs.rx j hj))).1 (by rw[renS_id];exact hxy)
  exact this
 have hx12:HasC ρ1 x2 y2:=by
  have:=(renS_iff (ρ:=ρ1) (ρ':=ρ) (σ:=fun k=>k) rfl x2 y2 (fun j hj=>hρ1 j (subN_spec hx2r j hj))).1 (by rw[renS_id];exact hxy2)
  exact this
 have hc1:HasZ ρ1 cap zc:=by
  have:=(renL_iff (ρ:=ρ1) (ρ':=ρ) (σ:=fun k=>k) rfl cap zc (fun j hj=>hρ1 j (subN_spec hs.rc j hj))).1 (by rw[renL_id];exact hzc)
  exact this
 have hR:R W0 w n ρ1 (fn ((p2,x2)::(p,x)::ts.zip cap) fk) {tmps:=(rc.tmps.setIfInBounds p (mkV x y)).setIfInBounds p2 (mkV x2 y2),defers:=[]} w:={
  defers:=.nil
  size:=by simp[hn]
  fr:=fun t sv ht=>by
   simp only[fn,LV.sv,lk]at ht
   cases hb2:Nat.beq p2 t with
   |true=>
    rw[hb2]at ht
    simp only[Option.some.injEq]at ht
    subst ht
    obtain rfl:=Nat.eq_of_beq_eq_true hb2
    rw[show((rc.tmps.setIfInBounds p (mkV x y)).setIfInBounds p2 (mkV x2 y2)).getD p2 undef=mkV x2 y2 from by simp[Array.getD_eq_getD_getElem?,hn,hpn2]]
    exact(Has_iff hx2p).2 ⟨y2,hx12,rfl⟩
   |false=>
    rw[hb2]at ht
    have hne2:p2≠t:=by rintro rfl;simp[Nat.beq_refl]at hb2
    rw[show((rc.tmps.setIfInBounds p (mkV x y)).setIfInBounds p2 (mkV x2 y2)).getD t undef=(rc.tmps.setIfInBounds p (mkV x y)).getD t undef from by simp[Array.getD_eq_getD_getElem?,Array.getElem?_setIfInBounds_ne hne2]]
    cases hb:Nat.beq p t with
    |true=>
     rw[hb]at ht
     simp only[Option.some.injEq]at ht
     subst ht
     obtain rfl:=Nat.eq_of_beq_eq_true hb
     rw[show(rc.tmps.setIfInBounds p (mkV x y)).getD p undef=mkV x y from by simp[Array.getD_eq_getD_getElem?,hn,hpn]]
     exact(Has_iff hs.px).2 ⟨y,hx1,rfl⟩
    |false=>
     rw[hb]at ht
     have hne:p≠t:=by rintro rfl;simp[Nat.beq_refl]at hb
     rw[show(rc.tmps.setIfInBounds p (mkV x y)).getD t undef=rc.tmps.getD t undef from by simp[Array.getD_eq_getD_getElem?,Array.getElem?_setIfInBounds_ne hne]]
     exact has_cap cap zc ts rc.tmps hc1 hs.pc hcap t sv ht
  pres:=.refl _ _
  hp:={
   blk:=fun q b hb=>by
    have hq:=find_mem (show find fk q=some b from hb)
    have h1:=hpw.hfk q b (hmem hq)
    have:=(renB_iff (ρ:=ρ1) (ρ':=ρ) (σ:=fun k=>k) (w:=w) rfl q b (hρ1 q (keysOf_mem.2 ⟨b,hq⟩)) (fun j hj=>hρ1 j (subN_spec hs.rf j (refsB_mem hq j hj)))).1 (by rw[renB_id];exact h1)
    exact this
   sep:=fun q q' a a' b b' ha ha' hne he hb hb' hv hv'=>by
    have hq:=find_mem (show find fk q=some b from hb)
    have hq':=find_mem (show find fk q'=some b' from hb')
    rw[←hρ1 q (keysOf_mem.2 ⟨b,hq⟩)]at ha
    rw[←hρ1 q' (keysOf_mem.2 ⟨b',hq'⟩)]at ha'
    exact hpw.sep q q' a a' b b' (hmem hq) (hmem hq') ha ha' hne he hv hv'
   own:=fun q b a hb hw hv ha=>by
    have hq:=find_mem (show find fk q=some b from hb)
    obtain⟨b',hu⟩:=hs.all q b hq hw hv
    exact .inr ⟨q,b',a.2,hu,ha⟩
   dom:=fun q a ha=>by
    obtain⟨b,hb⟩:=keysOf_mem.1 (hρ1' q a ha)
    exact⟨b,by simp only[fn,LV.blk];exact find_of_mem hnd hb⟩
   imm:=hpw.imm
   immw:=fun q b a hb hw hv ha=>by
    have hq:=find_mem (show find fk q=some b from hb)
    rw[←hρ1 q (keysOf_mem.2 ⟨b,hq⟩)]at ha
    exact hpw.immw q b a (hmem hq) hw hv ha}}
 refine roundIn_of_wpIn (F:=Fence.wide) (n:=0) trivial ?_
 have hwp:=cwp_sound hE asg _ _ _ (h W0 w ρ1 l hE) _ w ⟨ρ1,⟨.refl _,(fun b o hb=>.inl hb),(fun _ _=>rfl)⟩,(fun q hq=>by
  obtain⟨b,hb⟩:=keysOf_mem.1 hq
  simp only[fn,LV.blk,find_of_mem hnd hb]
  simp),hR⟩
 refine wpIn_mono hwp ?_
 rintro e a1 w1 ⟨fr1,hp1,hK1,ρ2,hext,hfx,hR2⟩
 cases e with
 |normal=>
  obtain⟨hnl,hK1⟩:=hK1
  have hl1:w1.heap[l]? =some (.loop rc):=by rw[hR2.pres.block l hlt hW0l];exact hl
  have hlt1:l<w1.heap.size:=(Array.getElem?_eq_some_iff.1 hl1).1
  refine⟨_,run_beginRound hl1 hst, ?_⟩
  obtain⟨wb,hwb⟩:∃wb,w.putObj l (.loop {rc with state:=.busy})=wb:=⟨_,rfl⟩
  have hwbl:wb.heap[l]? =some (.loop {rc with state:=.busy}):=by rw[←hwb];exact World.putObj_heap_same hlt
  have hwbo:∀b,b≠l→wb.heap[b]? =w.heap[b]? :=fun b hb=>by rw[←hwb];exact World.putObj_heap_other hb
  have hwbs:wb.heap.size=w.heap.size:=by rw[←hwb];exact World.putObj_size
  have hE2:Env.OK ⟨P,T,W0,wb,n,ρ1,keysOf fk,Z,some l⟩:=⟨hT,hm,hρ1'⟩
  have hnokey:∀q b a,find hp1 q=some b→b.data.live=true→ρ2.key q=some a→a.1≠l:=by
   intro q b a hb hv ha he
   rcases hR2.hp.blk q b (by simp only[fn,LV.blk];exact hb)with h0|⟨b',t',vs,ex,g1,g2,_⟩|⟨g1,_⟩
   ·rw[hv]at h0;cases h0
   ·rw[ha]at g1;cases g1
    have hnb:b.data.isLoop=false:=by
     have:=List.all_eq_true.1 hnl _ (find_mem hb)
     simpa using this
    rw[Data.obj_cells hnb]at g2
    rw[show b'=l from he]at g2
    rw[hl1]at g2;cases g2
   ·rw[ha]at g1;cases g1
  have hR3:R W0 wb n ρ2 (fn fr1 hp1) a1 (w1.putObj l (.loop {rc with state:=.busy})):={
   defers:=by
    obtain⟨Ds,d1,d2,d3⟩:=hR2.defers
    refine⟨Ds,d1,d2,fun D hD=> ?_⟩
    obtain⟨e1,e2,e3⟩:=d3 D hD
    refine⟨by rw[hwbs];exact e1, ?_,e3⟩
    rw[World.putObj_heap_other (by rintro rfl;rw[hl1]at e2;cases e2)]
    exact e2
   size:=hR2.size
   fr:=hR2.fr
   pres:=by
    refine⟨?_, ?_, ?_, ?_,fun b hb hw=> ?_,by rw[←hwb];exact hR2.pres.drawn⟩
    ·rw[←hwb];exact hR2.pres.os
    ·rw[←hwb];exact hR2.pres.tape
    ·rw[←hwb];exact hR2.pres.output
    ·rw[hwbs,World.putObj_size];exact hR2.pres.size
    ·by_cases he:b=l
     ·subst he;rw[hwbl];exact World.putObj_heap_same hlt1
     ·rw[World.putObj_heap_other he,hwbo b he]
      exact hR2.pres.block b (by rw[←hwbs];exact hb) hw
   hp:={
    blk:=fun q b hb=>by
     rcases hR2.hp.blk q b hb with h0|⟨b',t',vs,ex,g1,g2,g3⟩|h0
     ·exact .inl h0
     ·cases hv:b.data.live with
      |false=>exact .inl hv
      |true=>
       refine .inr (.inl ⟨b',t',vs,ex,g1, ?_,g3⟩)
       rw[World.putObj_heap_other (hnokey q b _ (by simpa only[fn,LV.blk]using hb) hv g1)]
       exact g2
     ·exact .inr (.inr h0)
    sep:=hR2.hp.sep
    own:=fun q b a hb hw hv ha=>by rw[hwbs];exact hR2.hp.own q b a hb hw hv ha
    dom:=hR2.hp.dom
    imm:=fun b o hb=>by
     have:=hR2.hp.imm b o hb
     by_cases he:b=l
     ·subst he
      exfalso
      rcases hext.imm b o hb with h1|h1
      ·rw[show ρ1.imm b=none from himm]at h1;cases h1
      ·exact absurd hlt (Nat.not_lt.2 h1)
     ·rw[World.putObj_heap_other he];exact this
    immw:=hR2.hp.immw}}
  have hwp2:=cwp_sound hE2 bdy _ _ _ (hK1 wb hE2 ⟨_,hwbl⟩ hW0l) a1 _ ⟨ρ2,⟨hext.le,(fun b o hb=>by show _∨wb.heap.size≤b;rw[hwbs];exact hext.imm b o hb),hext.fix⟩,hfx,hR3⟩
  refine wpIn_mono hwp2 ?_
  rintro e a2 w3 ⟨fr2,hp2,hK2,ρ3,hext3,hfx3,hR4⟩
  have fin:∀(jp:Option Code),jp.isNone=J→({({rc with state:=.busy}:Loop)with state:=if jp.isNone then .ready else .done,pending:=jp}:Loop)=rcJ J rc→(∀q b,(q,b)∈upd→find hp2 q=some b)→
    ∃v w',(Instr.endRound l jp).run P w3= .ok v w'∧∃u ρ',Ending.returned v= .returned u∧Post ρ w (.val (.bool J)) [] ((k,⟨0,true,.loop (rcJ J rc)⟩)::upd) u ρ' w':=by
   intro jp hjp hrec hK2
   have hl5:w3.heap[l]? =some (.loop {rc with state:=.busy}):=by rw[hR4.pres.block l (by rw[hwbs];exact hlt) hW0l];exact hwbl
   have hlt3:l<w3.heap.size:=(Array.getElem?_eq_some_iff.1 hl5).1
   have hend:=run_endRound (P:=P) jp hl5
   rw[hrec,hjp]at hend
   have hkey3:∀q∈keysOf fk,ρ3.key q=ρ.key q:=fun q hq=>by rw[hext3.fix q hq];exact(hρ1 q hq).symm
   have hupdf:∀q b,(q,b)∈upd→q∈keysOf fk:=fun q b hq=>by
    obtain⟨b0,g1,_⟩:=hs.up q b hq
    exact keysOf_mem.2 ⟨b0,g1⟩
   refine⟨_,_,hend,.bool J,⟨ρ.key,ρ3.imm,ρ3.glob⟩,rfl,⟨⟨fun _ _ hx=>hx,fun b o hb=>hext3.le.imm b o hb⟩,has_val rfl,fun _ _=>rfl, ?_, ?_, ?_,(fun _ _ _ hq=>by cases hq),(fun _ _ _ _ _ _ hq=>by cases hq), ?_⟩⟩
   ·refine⟨?_, ?_, ?_, ?_,fun b hb hw=> ?_,by have:=hR4.pres.drawn;rw[←hwb]at this;exact this⟩
    ·have:=hR4.pres.os;rw[←hwb]at this;exact this
    ·have:=hR4.pres.tape;rw[←hwb]at this;exact this
    ·have:=hR4.pres.output;rw[←hwb]at this;exact this
    ·rw[World.putObj_size,←hwbs];exact hR4.pres.size
    ·have hbl:b≠l:=by
      rintro rfl
      exact hw ⟨k,_,t,List.mem_cons_self ..,hkl⟩
     rw[World.putObj_heap_other hbl,hR4.pres.block b (by rw[hwbs];exact hb) ?_,hwbo b hbl]
     rintro⟨q,blk,t',hq,hkq⟩
     rw[←hρ1 q (hupdf q blk hq)]at hkq
     exact hw ⟨q,blk,t',List.mem_cons_of_mem _ hq,hkq⟩
   ·intro q b hq
    rcases hq with hq|hq
    ·rcases List.mem_cons.1 hq with hq|hq
     ·cases hq
      refine .inr (.inl ⟨l,t,lvs,lex,hkl,World.putObj_heap_same hlt3, ?_,hl4⟩)
      exact hl3
     ·obtain⟨b0,_,_,_,_,g5,g6⟩:=hs.up q b hq
      rcases hR4.hp.blk q b (by simp only[fn,LV.blk];exact hK2 q b hq)with h0|⟨b',t',vs,ex,g1,g2,g3,g4⟩|⟨g1,g2⟩
      ·rw[g5]at h0;cases h0
      ·refine .inr (.inl ⟨b',t',vs,ex,by rw[←hkey3 q (hupdf q b hq)];exact g1, ?_,keylessD_has (ρ:=ρ3) (ρ':=⟨ρ.key,ρ3.imm,ρ3.glob⟩) (fun _ _ h=>h) g6 g3,g4⟩)
       rw[World.putObj_heap_other ?_]
       ·rw[Data.obj_cells (keylessD_cells g6)]at g2 ⊢;exact g2
       ·rintro rfl
        rw[Data.obj_cells (keylessD_cells g6)]at g2
        rw[hl5]at g2;cases g2
      ·exact .inr (.inr ⟨by rw[←hkey3 q (hupdf q b hq)];exact g1,g2⟩)
    ·cases hq
   ·intro q b b' h1 _ h3 _
    rcases List.mem_cons.1 h1 with h1|h1
    ·cases h1;cases h3
    ·obtain⟨_,_,_,_,_,g5,_⟩:=hs.up q b h1
     rw[g5]at h3;cases h3
   ·intro b o hb
    rcases hext3.imm b o hb with h1|h1
    ·exact .inl h1
    ·have h1:w.heap.size≤b:=by rw[←hwbs];exact h1
     refine .inr ⟨h1, ?_,fun _ _ _ hq=>by cases hq⟩
     rw[World.putObj_heap_other (by omega)]
     exact hR4.hp.imm b o hb
  cases e with
  |normal=>
   obtain⟨hJ,hK2⟩:=hK2
   subst hJ
   exact fin none rfl (by
    cases rc
    simp only at hst hpd
    subst hst;subst hpd
    rfl) hK2
  |ret=>
   obtain⟨hJ,hK2⟩:=hK2
   subst hJ
   exact fin (some .ret) rfl rfl hK2
  |_=>exact hK2.elim
 |_=>exact hK1.elim
theorem SWx_rangeJ {E:Env} (J:Bool) {g:Operand} {ps:Array Tmp} {asg bdy:Code} {K:Post'} {fr:List (Nat×SV)} {hp:List (Nat×Blk)} {f:FuncId} {icap:List SV} (kl:Nat) (ts:List Nat) (cap:List SV) (fk upd:List (Nat×Blk)) {cc:SV} (L:List Nat)
  (hg:ev (pick fr L) g=some (.clo f [] icap)) (hro:∀l,E.ro=some l→(∃r,E.w0.heap[l]? =some (.loop r))∧¬E.W0 l)
  (hcap:evs (pick fr L) (ts.map Operand.tmp)=some cap) (hf:FnOK E.P f)
  (hcall:∀rc:Loop,rc.state= .ready→rc.pending=none→rc.params=ps→rc.assign=asg→rc.body=bdy→rc.tmps.size=E.n→
   CallOK E.P f (.yld kl rc ts cap::icap) ((kl,⟨0,true,.loop rc⟩)::fk) cc [] ((kl,⟨0,true,.loop (rcJ J rc)⟩)::upd))
  (hkl:find hp kl=none) (hfk:∀j b,(j,b)∈fk→find hp j=some b)
  (hupd:∀j b,(j,b)∈upd→∃b0,(j,b0)∈fk∧b0.wr=true∧b0.data.live=true∧b.wr=true) (hlv:∀j b,(j,b)∈upd→b.data.live=true∧keylessD b.data=true)
  (hK:K (if J then .normal else .ret) fr (layH upd hp)):SWx E (.rangeFunc g ps asg bdy) K fr hp:=by
 refine⟨fun a w hRR=> ?_⟩
 obtain⟨ρ,hext,hfx,hR⟩:=hRR
 have hpres:=hR.pres
 refine wpIn_rangeFunc fun fid _=> ?_
 have hrec:∀l,E.ro=some l→∃r,w.heap[l]? =some (.loop r):=fun l hl=>by
  obtain⟨⟨r,hr⟩,hn⟩:=hro l hl
  exact⟨r,by rw[hpres.block l (Array.getElem?_eq_some_iff.1 hr).1 hn];exact hr⟩
 obtain⟨l,mark,W1,D0,hent,hl1,hlw,hp1,hmark⟩:=enter_run (P:=E.P) fid a.tmps ps asg bdy hrec
 obtain⟨rc,hrc⟩:∃rc:Loop,({state:=.ready,pending:=none,fn:=fid,tmps:=a.tmps,params:=ps,assign:=asg,body:=bdy,defers:=D0}:Loop)=rc:=⟨_,rfl⟩
 rw[hrc]at hl1
 have hlt1:l<W1.heap.size:=(Array.getElem?_eq_some_iff.1 hl1).1
 have hc:=hcall rc (by rw[←hrc]) (by rw[←hrc]) (by rw[←hrc]) (by rw[←hrc]) (by rw[←hrc]) (by rw[←hrc];exact hR.size)
 have hnk:ρ.key kl=none:=by
  cases hx:ρ.key kl with
  |none=>rfl
  |some x=>
   obtain⟨b,hb⟩:=hR.hp.dom kl x hx
   simp only[fn,LV.blk,hkl]at hb
   cases hb
 have hfkne:∀j b,(j,b)∈fk→j≠kl:=fun j b hj he=>by have:=hfk j b hj;rw[he,hkl]at this;cases this
 have hbsz:∀j b x,(j,b)∈fk→b.data.live=true→ρ.key j=some x→x.1<w.heap.size:=by
  intro j b x hj hv hx
  rcases hR.hp.blk j b (by simp only[fn,LV.blk];exact hfk j b hj)with h0|⟨b',t,vs,ex,h1,h2,_⟩|⟨h1,_⟩
  ·rw[hv]at h0;cases h0
  ·rw[hx]at h1;cases h1;exact(Array.getElem?_eq_some_iff.1 h2).1
  ·rw[hx]at h1;cases h1
 let ρ1:Rho:=⟨fun j=>if j=kl then some (l,0)else ρ.key j,ρ.imm,ρ.glob⟩
 have h1kl:ρ1.key kl=some (l,0):=by show(if kl=kl then _ else _)=_;rw[if_pos rfl]
 have h1ne:∀j,j≠kl→ρ1.key j=ρ.key j:=fun j hj=>by show(if j=kl then _ else _)=_;rw[if_neg hj]
 have hle1:ρ.Le ρ1:=⟨fun j x hx=>by rw[h1ne j (by rintro rfl;rw[hnk]at hx;cases hx)];exact hx,fun _ _ h=>h⟩
 have himml:ρ.imm l=none:=by
  cases hx:ρ.imm l with
  |none=>rfl
  |some o=>
   have:=(Array.getElem?_eq_some_iff.1 (hR.hp.imm l o hx)).1
   omega
 have hpw:PreW ((kl,⟨0,true,.loop rc⟩)::fk) [] ρ1 W1:={
  hfk:=fun j b hj=>by
   rcases List.mem_cons.1 hj with hj|hj
   ·cases hj
    exact .inr (.inl ⟨l,0,[],[],h1kl,hl1,rfl,rfl,fun _ h=>by cases h⟩)
   ·rcases hR.hp.blk j b (by simp only[fn,LV.blk];exact hfk j b hj)with h0|⟨b',t,vs,ex,h1,h2,h3,h4⟩|⟨h1,h2⟩
    ·exact .inl h0
    ·exact .inr (.inl ⟨b',t,vs,ex,by rw[h1ne j (hfkne j b hj)];exact h1,by rw[hp1.block b' (Array.getElem?_eq_some_iff.1 h2).1 (fun h=>h),Data.obj_le hle1 h3];exact h2,h3.mono hle1,h4⟩)
    ·exact .inr (.inr ⟨by rw[h1ne j (hfkne j b hj)];exact h1,h2⟩)
  sep:=fun j j' x x' b b' hj hj' hx hx' hne he hv hv'=>by
   rcases List.mem_cons.1 hj with hj|hj
   ·cases hj
    rcases List.mem_cons.1 hj' with hj'|hj'
    ·cases hj';exact absurd rfl hne
    ·rw[h1kl]at hx;cases hx
     rw[h1ne j' (hfkne j' b' hj')]at hx'
     have:=hbsz j' b' x' hj' hv' hx'
     have he:l=x'.1:=he
     omega
   ·rw[h1ne j (hfkne j b hj)]at hx
    rcases List.mem_cons.1 hj' with hj'|hj'
    ·cases hj'
     rw[h1kl]at hx';cases hx'
     have:=hbsz j b x hj hv hx
     have he:x.1=l:=he
     omega
    ·rw[h1ne j' (hfkne j' b' hj')]at hx'
     exact hR.hp.sep j j' x x' b b' hx hx' hne he (by simp only[fn,LV.blk];exact hfk j b hj) (by simp only[fn,LV.blk];exact hfk j' b' hj') hv hv'
  imm:=fun b o hb=>by
   have:=hR.hp.imm b o hb
   rw[hp1.block b (Array.getElem?_eq_some_iff.1 this).1 (fun h=>h)];exact this
  immw:=fun j b x hj hw hv hx=>by
   rcases List.mem_cons.1 hj with hj|hj
   ·cases hj
    rw[h1kl]at hx;cases hx;exact himml
   ·rw[h1ne j (hfkne j b hj)]at hx
    exact hR.hp.immw j b x (by simp only[fn,LV.blk];exact hfk j b hj) hw hv hx
  fresh:=fun _ _ h=>by cases h}
 have hfr:∀t s,(t,s)∈pick fr L→Has ρ s (a.tmps.getD t undef):=fun t s h=>hR.fr t s (by simp only[fn,LV.sv];exact(pick_mem h).1)
 have hgv:=ev_ok hg ρ a hfr
 simp only[Has,HasC]at hgv
 obtain⟨_,⟨fz,cz,_,g2,rfl⟩,hv⟩:=hgv
 simp only[mkV,SV.isOne,if_true,List.headD_cons,List.zipWith_nil_left]at hv
 obtain⟨z,h3,h4⟩:=evs_ok hcap ρ a hfr
 have hz:HasZ ρ1 (.yld kl rc ts cap::icap) ([.func (.yield l) #[] #[]]::cz):=by
  simp only[HasZ]
  refine⟨_,_,rfl, ?_,HasZ.mono hle1 _ _ g2⟩
  simp only[HasC]
  refine⟨l,0,h1kl,rfl,z,HasZ.mono hle1 _ _ h3, ?_⟩
  rw[←h4,←hrc,List.map_map]
  rfl
 have henterF:∀args w',(callFunc f args).run E.P w'= .ok (.enter f args) w':=fun args w'=>by
  obtain⟨fn1,hf1,hn1,hb1⟩:=hf
  have hn':¬fn1.name= "runtime.NumGoroutine" :=by simpa using hn1
  have hb':¬fn1.body=none:=fun h=>by rw[h]at hb1;cases hb1
  simp[callFunc,hf1,hn',hb']
 have hcalls:Calls E.P f (List.zipWith mkV (.yld kl rc ts cap::icap) ([.func (.yield l) #[] #[]]::cz)).toArray W1 fun e w'=>∃v ρ',e= .returned v∧Post ρ1 W1 cc [] ((kl,⟨0,true,.loop (rcJ J rc)⟩)::upd) v ρ' w':=by
  rcases hc with⟨_,hc⟩|hc
  ·exact hc ρ1 W1 _ hz hpw
  ·obtain⟨v,ρ',w',hr,_⟩:=hc ρ1 W1 _ hz hpw
   rw[henterF]at hr;cases hr
 have hargs:(List.zipWith mkV (.yld kl rc ts cap::icap) ([.func (.yield l) #[] #[]]::cz)).toArray= #[.func (.yield l) #[] #[]]++(List.zipWith mkV icap cz).toArray:=by
  simp[mkV,SV.isOne]
 rw[hargs]at hcalls
 refine⟨l,mark,W1,{target:=.fn (.func f) (List.zipWith mkV icap cz).toArray,args:= #[.func (.yield l) #[] #[]]},W1,f, #[.func (.yield l) #[] #[]]++(List.zipWith mkV icap cz).toArray,W1,hent, ?_,fun _ _=>trivial, ?_,(fun hx=>by cases hx), ?_⟩
 ·simp only[resolve,hv]
  simp[go_sem]
 ·simp[invoke,go_sem,henterF]
 refine CallsIn.mono (F:=fen E.ro) (show CallsIn (fen E.ro) (0 - 1) _ _ _ _ _ from callsIn_wide (n:=0 - 1).2 hcalls) ?_
 rintro e w3 ⟨v,ρ2,rfl,hpost⟩
 have h2key:∀j,ρ2.key j=ρ1.key j:=fun j=>hpost.key j (fun b h=>by cases h)
 have hl3:w3.heap[l]? =some (.loop (rcJ J rc)):=by
  rcases hpost.blk kl _ (.inl (List.mem_cons_self ..))with h0|⟨b',t,vs,ex,q1,q2,_⟩|⟨q1,_⟩
  ·cases h0
  ·rw[h2key,h1kl]at q1;cases q1;exact q2
  ·rw[h2key,h1kl]at q1;cases q1
 have hend:=run_endLoop (P:=E.P) hl3 (by rw[←hrc];cases J<;>simp[rcJ])
 obtain⟨w4,hw4⟩:∃w4,w3.putObj l (.loop {rcJ J rc with state:=.exhausted})=w4:=⟨_,rfl⟩
 rw[hw4,show(rcJ J rc).pending=(if J then none else some .ret)from by rw[←hrc];cases J<;>rfl]at hend
 have h4o:∀b,b≠l→w4.heap[b]? =w3.heap[b]? :=fun b hb=>by rw[←hw4];exact World.putObj_heap_other hb
 have h4s:w4.heap.size=w3.heap.size:=by rw[←hw4];exact World.putObj_size
 have hupdf:∀j b,(j,b)∈upd→j≠kl∧∀x,ρ.key j=some x→x.1<w.heap.size:=fun j b hj=>by
  obtain⟨b0,q1,_,q3,_⟩:=hupd j b hj
  exact⟨hfkne j b0 q1,fun x hx=>hbsz j b0 x q1 q3 hx⟩
 have hpo:Post ρ w (.tup []) [] upd undef ⟨ρ.key,ρ2.imm,ρ2.glob⟩ w4:=by
  refine⟨⟨fun _ _ h=>h,fun b o hb=>hpost.le.imm b o hb⟩, ?_,fun _ _=>rfl, ?_, ?_, ?_,(fun _ _ _ h=>by cases h),(fun _ _ _ _ _ _ h=>by cases h), ?_⟩
  ·simp only[Has]
   exact⟨[],by simp[HasZ],by simp[undef]⟩
  ·refine⟨by rw[←hw4];exact hpost.pres.os.trans hp1.os,by rw[←hw4];exact hpost.pres.tape.trans hp1.tape,by rw[←hw4];exact hpost.pres.output.trans hp1.output,by rw[h4s];exact Nat.le_trans hp1.size hpost.pres.size,fun b hb hw=> ?_,by rw[←hw4];exact Nat.le_trans hp1.drawn hpost.pres.drawn⟩
   rw[h4o b (by omega),hpost.pres.block b (Nat.lt_of_lt_of_le hb hp1.size) ?_,hp1.block b hb (fun h=>h)]
   rintro⟨j,blk,t,hj,hkj⟩
   rcases List.mem_cons.1 hj with hj|hj
   ·cases hj;rw[h1kl]at hkj;cases hkj;omega
   ·rw[h1ne j (hupdf j blk hj).1]at hkj
    exact hw ⟨j,blk,t,hj,hkj⟩
  ·intro j b hj
   rcases hj with hj|hj
   ·obtain⟨v1,v2⟩:=hlv j b hj
    have hne:=(hupdf j b hj).1
    rcases hpost.blk j b (.inl (List.mem_cons_of_mem _ hj))with h0|⟨b',t,vs,ex,q1,q2,q3,q4⟩|⟨q1,q2⟩
    ·exact .inl h0
    ·refine .inr (.inl ⟨b',t,vs,ex,by rw[←h1ne j hne,←h2key];exact q1, ?_,keylessD_has (ρ:=ρ2) (ρ':=⟨ρ.key,ρ2.imm,ρ2.glob⟩) (fun _ _ h=>h) v2 q3,q4⟩)
     rw[h4o b' ?_]
     ·rw[Data.obj_cells (keylessD_cells v2)]at q2 ⊢;exact q2
     ·rintro rfl
      rw[Data.obj_cells (keylessD_cells v2),hl3]at q2;cases q2
    ·exact .inr (.inr ⟨by rw[←h1ne j hne,←h2key];exact q1,q2⟩)
   ·cases hj
  ·intro j b b' q1 _ q3 _
   rw[(hlv j b q1).1]at q3;cases q3
  ·intro b o hb
   rcases hpost.imm b o hb with q|⟨q1,q2,_⟩
   ·exact .inl q
   ·refine .inr ⟨Nat.le_trans hp1.size q1, ?_,fun _ _ _ h=>by cases h⟩
    rw[h4o b (by omega)];exact q2
 obtain⟨k1,k2,k3,k4⟩:=lay_post (dst:=none) (new:=[]) hR (fun _ _ h=>by cases h) (fun j b hj=>by
  obtain⟨b0,q1,q2,q3,q4⟩:=hupd j b hj
  exact⟨b0,by simp only[fn,LV.blk];exact hfk j b0 q1,q2,q3,q4⟩) (fun _ h=>by cases h) hpo
 rw[List.append_nil,fn_lay]at k4
 cases J
 ·refine⟨some .ret,_,hend,wpIn_ret ⟨fr,layH upd hp,hK,_,⟨hext.le.trans k1,fun b o hb=>(k3 b o hb).elim (hext.imm b o) .inr,fun j hj=>hext.fix j hj⟩,fun j hj=> ?_,{defers:= ?_,size:=k4.size,fr:=k4.fr,pres:=k4.pres,hp:=k4.hp}⟩⟩
  ·have:=hfx j hj
   simp only[fn,LV.blk,find_layH]at this ⊢
   cases find upd j with
   |some b=>simp
   |none=>exact this
  ·obtain⟨Ds,d1,d2,d3⟩:=hR.defers
   obtain⟨Ds',e1,e2,e3⟩:=k4.defers
   have hDs:Ds'=Ds:=by
    have e1:a.defers=Ds'.map mk1:=e1
    rw[d1]at e1
    exact((List.map_inj_right (fun x y h=>by simpa [mk1]using h)).1 e1).symm
   subst hDs
   rcases hmark with hmk|⟨D,hmk,hDw,hD1⟩
   ·subst hmk;exact⟨Ds',d1,d2,e3⟩
   ·subst hmk
    have hDlt:D<W1.heap.size:=(Array.getElem?_eq_some_iff.1 hD1).1
    have hDl:D≠l:=by rintro rfl;rw[hl1]at hD1;cases hD1
    refine⟨D::Ds',by simp[d1], ?_,fun D' hD'=> ?_⟩
    ·refine List.nodup_cons.2 ⟨fun hm=> ?_,d2⟩
     have:=(Array.getElem?_eq_some_iff.1 (d3 D hm).2.1).1
     omega
    ·rcases List.mem_cons.1 hD' with rfl|hD'
     ·refine⟨Nat.le_trans hpres.size hDw, ?_, ?_⟩
      ·rw[h4o _ hDl,hpost.pres.block D' hDlt ?_]
       ·exact hD1
       ·rintro⟨j,blk,t,hj,hkj⟩
        rcases List.mem_cons.1 hj with hj|hj
        ·cases hj;rw[h1kl]at hkj;cases hkj;exact hDl rfl
        ·rw[h1ne j (hupdf j blk hj).1]at hkj
         have:=(hupdf j blk hj).2 _ hkj
         have:D'<w.heap.size:=this
         omega
      ·show ρ2.imm D'=none
       cases hx:ρ2.imm D' with
       |none=>rfl
       |some o=>
        rcases hpost.imm D' o hx with q|⟨q,_⟩
        ·have:=(Array.getElem?_eq_some_iff.1 (hR.hp.imm D' o q)).1
         omega
        ·omega
     ·exact e3 D' hD'
 ·refine⟨none,_,hend,fr,layH upd hp,hK,_,⟨hext.le.trans k1,fun b o hb=>(k3 b o hb).elim (hext.imm b o) .inr,fun j hj=>hext.fix j hj⟩,fun j hj=> ?_,{defers:= ?_,size:=k4.size,fr:=k4.fr,pres:=k4.pres,hp:=k4.hp}⟩
  ·have:=hfx j hj
   simp only[fn,LV.blk,find_layH]at this ⊢
   cases find upd j with
   |some b=>simp
   |none=>exact this
  ·obtain⟨Ds,d1,d2,d3⟩:=hR.defers
   obtain⟨Ds',e1,e2,e3⟩:=k4.defers
   have hDs:Ds'=Ds:=by
    have e1:a.defers=Ds'.map mk1:=e1
    rw[d1]at e1
    exact((List.map_inj_right (fun x y h=>by simpa [mk1]using h)).1 e1).symm
   subst hDs
   rcases hmark with hmk|⟨D,hmk,hDw,hD1⟩
   ·subst hmk;exact⟨Ds',d1,d2,e3⟩
   ·subst hmk
    have hDlt:D<W1.heap.size:=(Array.getElem?_eq_some_iff.1 hD1).1
    have hDl:D≠l:=by rintro rfl;rw[hl1]at hD1;cases hD1
    refine⟨D::Ds',by simp[d1], ?_,fun D' hD'=> ?_⟩
    ·refine List.nodup_cons.2 ⟨fun hm=> ?_,d2⟩
     have:=(Array.getElem?_eq_some_iff.1 (d3 D hm).2.1).1
     omega
    ·rcases List.mem_cons.1 hD' with rfl|hD'
     ·refine⟨Nat.le_trans hpres.size hDw, ?_, ?_⟩
      ·rw[h4o _ hDl,hpost.pres.block D' hDlt ?_]
       ·exact hD1
       ·rintro⟨j,blk,t,hj,hkj⟩
        rcases List.mem_cons.1 hj with hj|hj
        ·cases hj;rw[h1kl]at hkj;cases hkj;exact hDl rfl
        ·rw[h1ne j (hupdf j blk hj).1]at hkj
         have:=(hupdf j blk hj).2 _ hkj
         have:D'<w.heap.size:=this
         omega
      ·show ρ2.imm D'=none
       cases hx:ρ2.imm D' with
       |none=>rfl
       |some o=>
        rcases hpost.imm D' o hx with q|⟨q,_⟩
        ·have:=(Array.getElem?_eq_some_iff.1 (hR.hp.imm D' o q)).1
         omega
        ·omega
     ·exact e3 D' hD'
end Go.Sx
namespace Go.Proofs.YthaeohlijigplaaGreat
open Go.Sx
set_option linter.unusedSimpArgs false
set_option linter.unusedVariables false
set_option maxRecDepth 100000
set_option maxHeartbeats 8000000
theorem names_of {fk new:List (Nat×Blk)} {σ:Nat→Nat} (h:injOK σ (keysOf fk++keysOf new)=true) (hn:nodupN (keysOf fk++keysOf new)=true):NamesOK fk new σ where
 inj q q' b b' hq hq' hne _ he:=hne (injOK_spec h q (List.mem_append.2 (.inl (keysOf_mem.2 ⟨b,hq⟩))) q' (List.mem_append.2 (.inl (keysOf_mem.2 ⟨b',hq'⟩))) he)
 newInj m m' hm hm' hne he:=hne (injOK_spec h m (List.mem_append.2 (.inr hm)) m' (List.mem_append.2 (.inr hm')) he)
 newOld m q hm hq he:=by
  have:=injOK_spec h m (List.mem_append.2 (.inr hm)) q (List.mem_append.2 (.inl hq)) he
  subst this
  exact(List.nodup_append.1 (nodupN_spec hn)).2.2 _ hq _ hm rfl
def lb (rc:Loop):Blk:=⟨0,true,.loop rc⟩
def ib (n:Int):Blk:=⟨3,true,.one [iv n]⟩
def cor (m:Me) (i:Nat):Pt×Pt×Pt:=(gp m.ps (gt m.ts i).1,gp m.ps (gt m.ts i).2.1,gp m.ps (gt m.ts i).2.2)
abbrev corA (q:Pt×Pt×Pt):SV:=.agg [ptA q.1,ptA q.2.1,ptA q.2.2]
def whT (m:Me) (p:Pt) (i:Nat):Int:=whF (cor m i).1 (cor m i).2.1 (cor m i).2.2 p
section
variable {P:Program} {kl:Nat} {rc:Loop} {us:List Nat} {cap:List SV} {args:List SV} {hp:List (Nat×Blk)} {c:SV}
theorem g_y3 {k:SV→List (Nat×Blk)→List (Nat×Blk)→List (Nat×Blk)→Prop} {a b d:Nat} {A B D A' B' D':Blk} (h:YldOK P kl rc us cap args [(a,A),(b,B),(d,D)] c [] [(a,A'),(b,B'),(d,D')]) (ha:find hp a=some A) (hb:find hp b=some B) (hd:find hp d=some D)
  (wA:A.wr=true∧A.data.live=true∧A'.wr=true) (wB:B.wr=true∧B.data.live=true∧B'.wr=true) (wD:D.wr=true∧D.data.live=true∧D'.wr=true) (hk:k c [(a,A),(b,B),(d,D)] [] [(a,A'),(b,B'),(d,D')]):
  ∃fk c new upd,YldOK P kl rc us cap args fk c new upd∧(∀j b,(j,b)∈fk→find hp j=some b)∧(∀j b,(j,b)∈new→find hp j=none)∧(∀j b,(j,b)∈upd→∃b0,(j,b0)∈fk∧b0.wr=true∧b0.data.live=true∧b.wr=true)∧k c fk new upd:=
 ⟨[(a,A),(b,B),(d,D)],c,[],[(a,A'),(b,B'),(d,D')],h,(fun j x hm=>by
  simp only[List.mem_cons,Prod.mk.injEq,List.not_mem_nil,or_false]at hm
  rcases hm with⟨rfl,rfl⟩|⟨rfl,rfl⟩|⟨rfl,rfl⟩<;>assumption),nil_new,(fun j x hm=>by
  simp only[List.mem_cons,Prod.mk.injEq,List.not_mem_nil,or_false]at hm
  rcases hm with⟨rfl,rfl⟩|⟨rfl,rfl⟩|⟨rfl,rfl⟩
  ·exact⟨_,List.mem_cons_self ..,wA.1,wA.2.1,wA.2.2⟩
  ·exact⟨_,List.mem_cons_of_mem _ (List.mem_cons_self ..),wB.1,wB.2.1,wB.2.2⟩
  ·exact⟨_,List.mem_cons_of_mem _ (List.mem_cons_of_mem _ (List.mem_cons_self ..)),wD.1,wD.2.1,wD.2.2⟩),hk⟩
theorem fin3 {a b d:Nat} {A B D:Blk} {hp:List (Nat×Blk)} (ha:find hp a=some A) (hb:find hp b=some B) (hd:find hp d=some D):∀k x,(k,x)∈[(a,A),(b,B),(d,D)]→find hp k=some x:=fun k x hm=>by
 simp only[List.mem_cons,Prod.mk.injEq,List.not_mem_nil,or_false]at hm
 rcases hm with⟨rfl,rfl⟩|⟨rfl,rfl⟩|⟨rfl,rfl⟩<;>assumption
end
theorem l_all (m:Me):CallOK Tryz.prog 33 [meA m] [] (.clo 59 [] [ptrA [mvec 10 ptA m.ps,mvec 3 triA m.ts,mvec 3 triA m.ss]]) [] []:=by
 refine callV (Z:=[1]) tabOK mixedOK Tryz.func33 rfl (by kernel_rfl) rfl rfl (by kernel_rfl) rfl ?_
 intro W0 w0 ρ0 hE
 conv=>whnf
 (repeat(first|(refine g_o (op_makeFunc rfl rfl rfl) ?_;conv=>whnf)));(first|exact Recast.refl _|exact Frz.recast (Recast.refl _) rfl|(refine Frz.one rfl rfl ?_;skip)|(refine Frz.tup ?_;skip))
theorem l_all1 (m:Me) (hf:m.Fit) (h:OkTs m.ps.length m.ts) {rc:Loop} {ts:List Nat} {cs:List SV} (u v:Int) (k:Nat) (hk:k<m.ts.length)
  (hY:∀i,i<k→YldOK Tryz.prog 5000 rc ts [ptrA cs,.ptr 5004 0 0 0,.ptr 5005 0 0 0] [iv (i:Nat),corA (cor m i)] [(5000,lb rc),(5004,ib 0),(5005,ib 0)] (.val (.bool true)) [] [(5000,lb rc),(5004,ib 0),(5005,ib 0)])
  (hZ:YldOK Tryz.prog 5000 rc ts [ptrA cs,.ptr 5004 0 0 0,.ptr 5005 0 0 0] [iv (k:Nat),corA (cor m k)] [(5000,lb rc),(5004,ib 0),(5005,ib 0)] (.val (.bool false)) [] [(5000,lb (rcJ false rc)),(5004,ib u),(5005,ib v)]):
  CallOK Tryz.prog 59 [.yld 5000 rc ts [ptrA cs,.ptr 4 0 0 0,.ptr 5 0 0 0],ptrA [mvec 10 ptA m.ps,mvec 3 triA m.ts,mvec 3 triA m.ss]] [(5000,lb rc),(4,ib 0),(5,ib 0)] (.tup []) [] [(5000,lb (rcJ false rc)),(4,ib u),(5,ib v)]:=by
 have kn:=m_Numbered m hf h
 have hlen:=hf.ts
 refine callK (Z:=[]) tabOK mixedOK Tryz.func59 rfl (by kernel_rfl) (args:=[.yld 5000 rc ts [ptrA cs,.ptr 5004 0 0 0,.ptr 5005 0 0 0],ptrA [mvec 10 ptA m.ps,mvec 3 triA m.ts,mvec 3 triA m.ss]]) (fk:=[(5000,lb rc),(5004,ib 0),(5005,ib 0)]) (c:=.tup []) (new:=[]) (upd:=[(5000,lb (rcJ false rc)),(5004,ib u),(5005,ib v)]) (ShapeOK.of rfl rfl rfl rfl rfl rfl rfl rfl rfl rfl rfl) rfl (renBy [(5004,4),(5005,5)]) (names_of rfl rfl) ?_
 intro W0 w0 ρ0 hE
 conv=>whnf
 (repeat((first|refine step_w2 rfl rfl ?_|refine g_c (by assumption) ?_|refine g_o (op_lenM rfl rfl rfl (ev_ok rfl) (tgt rfl) rfl) ?_|refine g_o (op_loadA rfl (ev_ok rfl) (tgt rfl) rfl (Nat.succ_ne_zero _) rfl) ?_|refine g_o (op_fieldA rfl (ev_ok rfl) (tgt rfl) rfl rfl (Nat.succ_ne_zero _) rfl) ?_);conv=>whnf))
 refine SW_loopN hE (fun k=>k) [0,1,11,12,13] [5000,5004,5005] (fun M fr hp=>∃i,M=m.ts.length - i∧i≤k∧fr=[(0,.yld 5000 rc ts [ptrA cs,.ptr 5004 0 0 0,.ptr 5005 0 0 0]),(1,ptrA [mvec 10 ptA m.ps,mvec 3 triA m.ts,mvec 3 triA m.ss]),(11,mvec 3 triA m.ts),(12,iv (m.ts.length:Nat)),(13,iv (i:Nat))]∧
  hp=[(5000,lb rc),(5004,ib 0),(5005,ib 0)]) m.ts.length ?_ ?_ ?_
 ·kernel_rfl
 ·exact⟨0,rfl,Nat.zero_le _,rfl,rfl⟩
 rintro M _ _ ⟨i,rfl,hi,rfl,rfl⟩
 conv=>whnf
 have t1:decide (((i:Nat):Int)<((m.ts.length:Nat):Int))=true:=decide_eq_true (by omega)
 have t2:=winc (i:=i) (by omega)
 have kc:=m_Corners m i (by omega) (h i (by omega))
 by_cases hlt:i<k
 ·have hy:=hY i hlt
  (repeat((first|refine step_w1 rfl rfl ?_|refine step_w2 rfl rfl ?_|refine g_c (by assumption) ?_|refine g_o (op_loadA rfl (ev_ok rfl) (tgt rfl) rfl (Nat.succ_ne_zero _) rfl) ?_|refine g_y3 hy rfl rfl rfl ⟨rfl,rfl,rfl⟩ ⟨rfl,rfl,rfl⟩ ⟨rfl,rfl,rfl⟩ ?_|rw[t1]|rw[t2]);conv=>whnf))
  exact⟨m.ts.length - (i+1),fun k=>k,[0,1,11,12,13],[5000,5004,5005],by omega,by kernel_rfl,i+1,rfl,hlt,rfl,rfl⟩
 ·obtain rfl:i=k:=by omega
  (repeat((first|refine step_w1 rfl rfl ?_|refine g_c (by assumption) ?_|refine g_o (op_loadA rfl (ev_ok rfl) (tgt rfl) rfl (Nat.succ_ne_zero _) rfl) ?_|refine g_y3 hZ rfl rfl rfl ⟨rfl,rfl,rfl⟩ ⟨rfl,rfl,rfl⟩ ⟨rfl,rfl,rfl⟩ ?_|rw[t1]);conv=>whnf))
  exact⟨Recast.refl _,(fun _ _ h=>by cases h),fin3 rfl rfl rfl⟩
end Go.Proofs.YthaeohlijigplaaGreat
namespace Go.Proofs.YthaeohlijigplaaGreat
open Go.Sx
set_option linter.unusedSimpArgs false
set_option linter.unusedVariables false
set_option maxRecDepth 100000
set_option maxHeartbeats 8000000
theorem RoundOK.twoI {x:SV} {cap:List SV} {k m:Nat} {s t u v:Int} (hkm:k≠m) (px:passable x=true) (pc:cap.all passable=true) (rx:subN (refs x) [k,m]=true) (rc:subN (refsL cap) [k,m]=true) (hn:nodupN [k,m]=true):RoundOK x cap [(k,ib s),(m,ib t)] [(k,ib u),(m,ib v)]:=
 ⟨px,pc,hn,rx,rc,rfl,(fun q b hm=>by
   simp only[List.mem_cons,Prod.mk.injEq,List.not_mem_nil,or_false]at hm
   rcases hm with⟨rfl,rfl⟩|⟨rfl,rfl⟩<;>rfl),
  (fun q b hm=>by
   simp only[List.mem_cons,Prod.mk.injEq,List.not_mem_nil,or_false]at hm
   rcases hm with⟨rfl,rfl⟩|⟨rfl,rfl⟩
   ·exact⟨_,List.mem_cons_self ..,rfl,rfl,rfl,rfl,rfl⟩
   ·exact⟨_,List.mem_cons_of_mem _ (List.mem_cons_self ..),rfl,rfl,rfl,rfl,rfl⟩),
  (fun q b hm _ _=>by
   simp only[List.mem_cons,Prod.mk.injEq,List.not_mem_nil,or_false]at hm
   rcases hm with⟨rfl,rfl⟩|⟨rfl,rfl⟩
   ·exact⟨_,List.mem_cons_self ..⟩
   ·exact⟨_,List.mem_cons_of_mem _ (List.mem_cons_self ..)⟩)⟩
theorem two_upI {k m:Nat} {s t u v:Int}:∀j b,(j,b)∈[(k,ib u),(m,ib v)]→∃b0,(j,b0)∈[(k,ib s),(m,ib t)]∧b0.wr=true∧b0.data.live=true∧b.wr=true:=fun j b hm=>by
 simp only[List.mem_cons,Prod.mk.injEq,List.not_mem_nil,or_false]at hm
 rcases hm with⟨rfl,rfl⟩|⟨rfl,rfl⟩
 ·exact⟨_,List.mem_cons_self ..,rfl,rfl,rfl⟩
 ·exact⟨_,List.mem_cons_of_mem _ (List.mem_cons_self ..),rfl,rfl,rfl⟩
theorem two_lvI {k m:Nat} {u v:Int}:∀j b,(j,b)∈[(k,ib u),(m,ib v)]→b.data.live=true∧keylessD b.data=true:=fun j b hm=>by
 simp only[List.mem_cons,Prod.mk.injEq,List.not_mem_nil,or_false]at hm
 rcases hm with⟨rfl,rfl⟩|⟨rfl,rfl⟩<;>exact⟨rfl,rfl⟩
theorem two_of {k m:Nat} {A B:Blk} {hp:List (Nat×Blk)} (ha:find hp k=some A) (hb:find hp m=some B):∀q x,(q,x)∈[(k,A),(m,B)]→find hp q=some x:=fun q x hm=>by
 simp only[List.mem_cons,Prod.mk.injEq,List.not_mem_nil,or_false]at hm
 rcases hm with⟨rfl,rfl⟩|⟨rfl,rfl⟩<;>assumption
structure MeB (B:Nat) (m:Me):Prop where
 fit:m.Fit
 ok:OkTs m.ps.length m.ts
 pb:∀i,PB B (gp m.ps i)
 pos:∀i,i<m.ts.length→tw (cor m i).1 (cor m i).2.1 (cor m i).2.2≠0
theorem l_Find {B:Nat} (m:Me) (p:Pt) (hm:MeB B m) (hp:PB B p) (hB:16*B≤1073741824) (k:Nat) (hk:k<m.ts.length) (h0:∀i,i<k→whT m p i=0) (h1:whT m p k≠0):
  CallOK Tryz.prog 11 [meA m,ptA p] [] (.tup [iv (k:Nat),iv (whT m p k)]) [] []:=by
 have ka:=l_all m
 have hW:∀i,i<m.ts.length→CallOK Tryz.prog 34 [ptA (cor m i).1,ptA (cor m i).2.1,ptA (cor m i).2.2,ptA p] [] (iv (whT m p i)) [] []:=fun i hi=>t_Where (hm.pb _) (hm.pb _) (hm.pb _) hp hB (hm.pos i hi)
 refine callV (Z:=[2,3]) tabOK mixedOK Tryz.func11 rfl (by kernel_rfl) rfl rfl (by kernel_rfl) rfl ?_
 intro W0 w0 ρ0 hE
 conv=>whnf
 (repeat(first|(refine g_c (by assumption) ?_;conv=>whnf)|(refine g_o (op_loadA rfl (ev_ok rfl) (tgt rfl) rfl (Nat.succ_ne_zero _) rfl) ?_;conv=>whnf)))
 refine SWx_rangeJ false 5000 [3,4,5] [ptrA [.frac p.1,.frac p.2],.ptr 4 0 0 0,.ptr 5 0 0 0] [(4,ib 0),(5,ib 0)] [(4,ib (k:Nat)),(5,ib (whT m p k))] (cc:=.tup []) [10,3,4,5] rfl (fun _ h=>by cases h) rfl ⟨_,rfl,by kernel_rfl,rfl⟩ (fun rc r1 r2 r3 r4 r5 r6=> ?_) rfl (two_of rfl rfl) two_upI two_lvI ?_
 ·refine l_all1 m hm.fit hm.ok _ _ k hk (fun i hi=> ?_) ?_
  ·have kw:=hW i (by omega)
   rw[h0 i hi]at kw
   refine yldJ (Z:=[]) tabOK mixedOK true r1 r2 r3 r4 r5 r6 (Nat.le_of_ble_eq_true (by kernel_rfl)) (Nat.le_of_ble_eq_true (by kernel_rfl)) (by decide) (RoundOK.twoI (by decide) rfl rfl rfl rfl rfl) rfl rfl ?_
   intro W0 w0 ρ0 lp hE
   conv=>whnf
   skip
   refine⟨rfl,fun w1 hE _ _=> ?_⟩
   conv=>whnf
   (repeat((first|refine step_w2 rfl rfl ?_|refine step_oA (by first|omega|decide|(simp only[tl0,dlen,List.length_replicate,List.length_set,List.length_map,List.length_zipWith,List.length_take,List.length_append,List.length_cons,List.length_nil];omega)) ?_|refine step_oE (by first|omega|decide|(simp only[tl0,dlen,List.length_replicate,List.length_set,List.length_map,List.length_zipWith,List.length_take,List.length_append,List.length_cons,List.length_nil];omega)) ?_|refine g_c (by assumption) ?_|refine g_o (op_loadA rfl (ev_ok rfl) (tgt rfl) rfl (Nat.succ_ne_zero _) rfl) ?_);conv=>whnf))
   exact two_of rfl rfl
  ·have kw:=hW k hk
   have t1:(whT m p k != 0)=true:=bne_iff_ne.2 h1
   refine yldJ (Z:=[]) tabOK mixedOK false r1 r2 r3 r4 r5 r6 (Nat.le_of_ble_eq_true (by kernel_rfl)) (Nat.le_of_ble_eq_true (by kernel_rfl)) (by decide) (RoundOK.twoI (by decide) rfl rfl rfl rfl rfl) rfl rfl ?_
   intro W0 w0 ρ0 lp hE
   conv=>whnf
   skip
   refine⟨rfl,fun w1 hE _ _=> ?_⟩
   conv=>whnf
   (repeat((first|refine step_w1 rfl rfl ?_|refine step_oA (by first|omega|decide|(simp only[tl0,dlen,List.length_replicate,List.length_set,List.length_map,List.length_zipWith,List.length_take,List.length_append,List.length_cons,List.length_nil];omega)) ?_|refine step_oE (by first|omega|decide|(simp only[tl0,dlen,List.length_replicate,List.length_set,List.length_map,List.length_zipWith,List.length_take,List.length_append,List.length_cons,List.length_nil];omega)) ?_|refine g_c (by assumption) ?_|refine g_o (op_loadA rfl (ev_ok rfl) (tgt rfl) rfl (Nat.succ_ne_zero _) rfl) ?_|rw[t1]);conv=>whnf))
   exact two_of rfl rfl
 ·skip;(first|exact Recast.refl _|exact Frz.recast (Recast.refl _) rfl|(refine Frz.one rfl rfl ?_;skip)|(refine Frz.tup ?_;skip))
end Go.Proofs.YthaeohlijigplaaGreat
namespace Go.Proofs.YthaeohlijigplaaGreat
open Go.Sx
set_option linter.unusedSimpArgs false
set_option linter.unusedVariables false
set_option maxRecDepth 100000
set_option maxHeartbeats 8000000
structure Lv where
 m:Me
 pa:List Int
abbrev lvA (l:Lv):SV:=.agg [mvec 10 ptA l.m.ps,mvec 3 triA l.m.ts,mvec 3 triA l.m.ss,ivec .i64 l.pa]
def lv0:Lv:=⟨⟨[],[],[]⟩,[]⟩
abbrev lvs (c:List Lv):SV:=mvec 4 lvA c
theorem v_Top (c:List Lv) (hc:c≠[]) (hl:c.length<1000) (hf:(c.getD (c.length - 1) lv0).m.Fit):CallOK Tryz.prog 15 [lvs c] [] (meA (c.getD (c.length - 1) lv0).m) [] []:=by
 have k1:=m_Copy _ hf
 have hp:0<c.length:=List.length_pos_iff.2 hc
 have t1:(((c.length:Nat):Int)==0)=false:=beq_eq_false_iff_ne.2 (by omega)
 have e1:IntKind.i64.wrap (((c.length:Nat):Int) - 1)=((c.length - 1:Nat):Int):=by rw[wrap_i64 (by omega) (by omega)];omega
 refine callV (Z:=[]) tabOK mixedOK Tryz.func15 rfl (by kernel_rfl) rfl rfl (by kernel_rfl) rfl ?_
 intro W0 w0 ρ0 hE
 conv=>whnf
 (repeat((first|refine step_w2 rfl rfl ?_|refine g_c (by assumption) ?_|refine g_o (op_lenM rfl rfl rfl (ev_ok rfl) (tgt rfl) rfl) ?_|refine g_o (op_loadA rfl (ev_ok rfl) (tgt rfl) rfl (Nat.succ_ne_zero _) rfl) ?_|refine g_o (op_fieldA rfl (ev_ok rfl) (tgt rfl) rfl rfl (Nat.succ_ne_zero _) rfl) ?_|refine g_o (op_indexN (α:=Lv) (d:=lv0) rfl (ev_ok rfl) (ev_ok rfl) (tgt rfl) rfl (tgt rfl) rfl (by omega)) ?_|rw[t1]|rw[e1]);conv=>whnf))
 (first|exact Recast.refl _|exact Frz.recast (Recast.refl _) rfl|(refine Frz.one rfl rfl ?_;skip)|(refine Frz.tup ?_;skip))
abbrev lvG (c:List Lv) (i:Nat):Lv:=c.getD i lv0
theorem v_there (c:List Lv) (i t:Nat) (hi:i<c.length) (ht:t<(lvG c i).m.ts.length):CallOK Tryz.prog 35 [lvs c,iv (i:Nat),iv (t:Nat)] [] (.val (.bool true)) [] []:=by
 have t1:decide (((i:Nat):Int)≥0)=true:=decide_eq_true (by omega)
 have t2:decide (((i:Nat):Int)<((c.length:Nat):Int))=true:=decide_eq_true (by omega)
 have t3:decide (((t:Nat):Int)≥0)=true:=decide_eq_true (by omega)
 have t4:decide (((t:Nat):Int)<(((lvG c i).m.ts.length:Nat):Int))=true:=decide_eq_true (by omega)
 refine callV (Z:=[]) tabOK mixedOK Tryz.func35 rfl (by kernel_rfl) rfl rfl (by kernel_rfl) rfl ?_
 intro W0 w0 ρ0 hE
 conv=>whnf
 (repeat((first|refine step_w1 rfl rfl ?_|refine g_o (op_pickT rfl (ev_ok rfl) (ev_ok rfl)) ?_|refine g_o (op_lenM rfl rfl rfl (ev_ok rfl) (tgt rfl) rfl) ?_|refine g_o (op_loadA rfl (ev_ok rfl) (tgt rfl) rfl (Nat.succ_ne_zero _) rfl) ?_|refine g_o (op_fieldA rfl (ev_ok rfl) (tgt rfl) rfl rfl (Nat.succ_ne_zero _) rfl) ?_|refine g_o (op_indexN (α:=Lv) (d:=lv0) rfl (ev_ok rfl) (ev_ok rfl) (tgt rfl) rfl (tgt rfl) rfl (by omega)) ?_|rw[t1]|rw[t2]|rw[t4]);conv=>whnf))
 (first|exact Recast.refl _|exact Frz.recast (Recast.refl _) rfl|(refine Frz.one rfl rfl ?_;skip)|(refine Frz.tup ?_;skip))
def PaOK (c:List Lv):Prop:=∀i,i+1<c.length→(lvG c (i+1)).pa.length=(lvG c (i+1)).m.ts.length∧∀j,j<(lvG c (i+1)).pa.length→0≤(lvG c (i+1)).pa.getD j 0∧(lvG c (i+1)).pa.getD j 0<((lvG c i).m.ts.length:Nat)
def upF (c:List Lv) (L t:Nat):Nat→Nat
 |0=>t
 |n+1=>((lvG c (L - n)).pa.getD (upF c L t n) 0).toNat
theorem upF_lt {c:List Lv} (h:PaOK c) {L t:Nat} (hL:L<c.length) (ht:t<(lvG c L).m.ts.length):∀n,n≤L→upF c L t n<(lvG c (L - n)).m.ts.length
 |0,_=>ht
 |n+1,hn=>by
  have ih:=upF_lt h hL ht n (by omega)
  obtain⟨h1,h2⟩:=h (L - (n+1)) (by omega)
  rw[show L - (n+1)+1=L - n by omega]at h1 h2
  have:=h2 (upF c L t n) (by omega)
  simp only[upF]
  omega
theorem v_Up (c:List Lv) (h:PaOK c) (hl:c.length<1000) (L t to:Nat) (hL:L<c.length) (ht:t<(lvG c L).m.ts.length) (hto:to≤L) (hf:∀i,(lvG c i).m.ts.length<1099511627776):CallOK Tryz.prog 12 [lvs c,iv (L:Nat),iv (t:Nat),iv (to:Nat)] [] (iv (upF c L t (L - to):Nat)) [] []:=by
 have k0:=v_there c L t hL ht
 have t1:decide (((to:Nat):Int)<0)=false:=decide_eq_false (by omega)
 have t2:decide (((to:Nat):Int)>((L:Nat):Int))=false:=decide_eq_false (by omega)
 have e1:IntKind.i64.wrap (((L:Nat):Int) - ((to:Nat):Int))=((L - to:Nat):Int):=by rw[wrap_i64 (by omega) (by omega)];omega
 refine callV (Z:=[]) tabOK mixedOK Tryz.func12 rfl (by kernel_rfl) rfl rfl (by kernel_rfl) rfl ?_
 intro W0 w0 ρ0 hE
 conv=>whnf
 (repeat((first|refine step_w1 rfl rfl ?_|refine step_w2 rfl rfl ?_|refine g_c (by assumption) ?_|refine g_o (op_pickF rfl (ev_ok rfl) (ev_ok rfl)) ?_|rw[t1]|rw[t2]|rw[e1]);conv=>whnf))
 refine SW_loopN hE (fun k=>k) [0,1,2,8,27,28] [] (fun M fr hp=>∃n,M=L - to - n∧n≤L - to∧fr=[(0,lvs c),(1,iv (L:Nat)),(2,iv (upF c L t n:Nat)),(8,iv 0),(27,iv (L - to:Nat)),(28,iv (n:Nat))]∧hp=[]) (L - to) ?_ ?_ ?_
 ·kernel_rfl
 ·exact⟨0,rfl,Nat.zero_le _,rfl,rfl⟩
 rintro M _ _ ⟨n,rfl,hn,rfl,rfl⟩
 conv=>whnf
 by_cases hlt:n<L - to
 ·have t3:decide (((n:Nat):Int)<((L - to:Nat):Int))=true:=decide_eq_true (by omega)
  have t4:=winc (i:=n) (by omega)
  have e2:IntKind.i64.wrap (((L:Nat):Int) - ((n:Nat):Int))=((L - n:Nat):Int):=by rw[wrap_i64 (by omega) (by omega)];omega
  have e3:IntKind.i64.wrap (((L - n:Nat):Int) - 1)=((L - (n+1):Nat):Int):=by rw[wrap_i64 (by omega) (by omega)];omega
  have hu:=upF_lt h hL ht n (by omega)
  have hu1:=upF_lt h hL ht (n+1) (by omega)
  obtain⟨p1,p2⟩:=h (L - (n+1)) (by omega)
  rw[show L - (n+1)+1=L - n by omega]at p1 p2
  have p3:=p2 (upF c L t n) (by omega)
  have k1:=v_there c (L - (n+1)) (upF c L t (n+1)) (by omega) hu1
  have e4:(lvG c (L - n)).pa.getD (upF c L t n) 0=((upF c L t (n+1):Nat):Int):=by simp only[upF];omega
  have t5:decide (((upF c L t n:Nat):Int)≥(((lvG c (L - n)).pa.length:Nat):Int))=false:=decide_eq_false (by omega)
  obtain⟨u',hu'⟩:∃u',upF c L t (n+1)=u':=⟨_,rfl⟩
  rw[hu']at k1 e4 hu1
  generalize upF c L t n=u at*
  clear k0 h p2 ht hf
  have e5:c.getD (L - n) lv0=lvG c (L - n):=rfl
  generalize lvG c (L - n)=l1 at*
  (repeat((first|refine step_w1 rfl rfl ?_|refine step_w2 rfl rfl ?_|refine g_c (by assumption) ?_|refine g_o (op_pickF rfl (ev_ok rfl) (ev_ok rfl)) ?_|refine g_o (op_lenM rfl rfl rfl (ev_ok rfl) (tgt rfl) rfl) ?_|refine g_o (op_loadA rfl (ev_ok rfl) (tgt rfl) rfl (Nat.succ_ne_zero _) rfl) ?_|refine g_o (op_indexN (α:=Int) (d:=0) rfl (ev_ok rfl) (ev_ok rfl) (tgt rfl) rfl (tgt rfl) rfl (by omega)) ?_|refine g_o (op_indexN (α:=Lv) (d:=lv0) rfl (ev_ok rfl) (ev_ok rfl) (tgt rfl) rfl (tgt rfl) rfl (by omega)) ?_|rw[t3]|rw[e2]|rw[e5]|rw[e3]|rw[t5]|rw[e4]|rw[t4]|rw[Nat.zero_add]);conv=>whnf))
  exact⟨L - to - (n+1),fun k=>k,[0,1,2,8,27,28],[],by omega,by kernel_rfl,n+1,rfl,hlt,by rw[hu'];rfl,rfl⟩
 ·have t3:decide (((n:Nat):Int)<((L - to:Nat):Int))=false:=decide_eq_false (by omega)
  obtain rfl:n=L - to:=by omega
  (repeat(first|(refine step_w2 rfl rfl ?_;conv=>whnf)|(rw[t3];conv=>whnf)));(first|exact Recast.refl _|exact Frz.recast (Recast.refl _) rfl|(refine Frz.one rfl rfl ?_;skip)|(refine Frz.tup ?_;skip))
end Go.Proofs.YthaeohlijigplaaGreat
