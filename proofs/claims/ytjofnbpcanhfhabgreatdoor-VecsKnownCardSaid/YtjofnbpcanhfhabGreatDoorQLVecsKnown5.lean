/- The texts Ek, Em, Ga, Gb, Gc, Gd, Ge, Shelf, Ha, Hb, Pa, Hc, Hd. -/
import Derived.Shelf.Strings.Builder1
import Derived.Shelf.Strings.Builder2
import Derived.Shelf.Strings.OnBuilder
import Derived.Shelf.Small.Bits
import Derived.Shelf.Strings.BuilderF
import Derived.Shelf.Strings.BuilderK
import Derived.Shelf.Strings.Builder2Cap
import Derived.Shelf.Strconv.Itoa0
import Derived.Shelf.Strconv.Itoa1
import Derived.Shelf.LaysM
import Derived.Shelf.Strconv.Itoa2
import Derived.Shelf.Strconv.Itoa3
import Derived.Shelf.Strings.Prefix
import Derived.Shelf.Bits.Mul64
import Derived.Shelf.Strings.Repeat
import Derived.Ground.Names2Prog
import Derived.Shelf.Slices.ReverseS
import Derived.Shelf.Slices.Cells
import Derived.Ground.SlgnProg
import Derived.Shelf.SlicesE.Reverse
import Derived.Test.YtjofnbpcanhfhabGreatDoorProg
import Derived.Test.YtjofnbpcanhfhabGreatDoorQLVecsKnown4
namespace Go.Proofs.YtjofnbpcanhfhabGreatDoor
open Go.Sx
set_option linter.unusedSimpArgs false
set_option linter.unusedVariables false
set_option maxRecDepth 100000
set_option maxHeartbeats 8000000
theorem c_Div (a b:Nat) (ha:(wInts a).length<274877906944) (hb:(wInts b).length<274877906944) (h0:b≠0):
  CallOK Tryz.prog 115 [.nat a,.nat b] [] (.tup [.nat (a/b),.nat (a % b),.val (.bool true)]) [] []:=by
 by_cases hs:a<18446744073709551616∧b<18446744073709551616
 ·exact s_Div a b hs.1 hs.2 h0
 have kz:=c_nZero b
 rw[decide_eq_false h0]at kz
 have kc:=c_Cmp a b (by omega) (by omega)
 have kb:=c_words b 1002 (by omega)
 have ka:=c_words a 1001 (by omega)
 by_cases hlt:a<b
 ·have t1:Hid (decide (((a:Int) - b).sign<0)=true):=show decide (((a:Int) - b).sign<0)=true from decide_eq_true (Int.sign_neg_iff.2 (by omega))
  rw[Nat.div_eq_of_lt hlt,Nat.mod_eq_of_lt hlt]
  refine callV (Z:=[]) tabOK mixedOK Tryz.func115 rfl (by kernel_rfl) rfl rfl (by kernel_rfl) rfl ?_
  intro W0 w0 ρ0 hE
  conv=>whnf
  (repeat((first|refine step_w1 rfl rfl ?_|refine step_w2 rfl rfl ?_|refine step_i (by kernel_rfl) ?_|refine g_c (by assumption) ?_|rw[t1.out]);conv=>whnf));exact Recast.refl _
 have t1:Hid (decide (((a:Int) - b).sign<0)=false):=show decide (((a:Int) - b).sign<0)=false from decide_eq_false (by have:=Int.sign_nonneg_iff.2 (show 0≤(a:Int) - b by omega);omega)
 have hbig:¬a<18446744073709551616:=by omega
 have hlen:(wInts b).length≤(wInts a).length:=len_le_of (Nat.lt_of_le_of_lt (Nat.le_of_not_lt hlt) (lt_of_len a))
 have hA:wArr a=wInts a:=if_neg hbig
 rw[hA]at ka
 have htop:=wt_top b
 have hb0:(wInts b).length≠0:=(wInts_top h0).1
 have hval:=wInts_val a
 have hvb:=wArr_val b
 have hbl:=wArr_len b
 have hbl2:(wArr b).length<549755813888:=by
  have:=wArr_len2 b (M:=274877906944) (by omega) (by omega)
  omega
 by_cases hone:(wInts b).length=1
 ·rw[hone]at kb hvb htop
  obtain⟨y,hy⟩:=Int.eq_ofNat_of_zero_le (wArr_w32 b 0).1
  have hy2:=(wArr_w32 b 0).2
  have hyb:y=b:=by
   rw[valI,valI,Int.pow_zero,hy]at hvb
   omega
  subst hyb
  have ks:=c_short (wInts a) (wInts a).length (Nat.le_refl _) (by omega) (wInts_w32 a) y h0 (by omega) 1001 2001 (by decide) true a hval
  have hq:(valI (digs (a/y) (wInts a).length) (wInts a).length).toNat=a/y:=by
   rw[valI_digs,Nat.mod_eq_of_lt (Nat.lt_of_le_of_lt (Nat.div_le_self _ _) (lt_of_len a))];exact Int.toNat_natCast _
  have ko:=c_of (digs (a/y) (wInts a).length) (wInts a).length (by rw[digs_len];exact Nat.le_refl _) (by rw[digs_len];omega) (digs_w32 _ _) 2001 true
  rw[hq]at ko
  have hr:a % y<y:=Nat.mod_lt _ (by omega)
  have i1:Hid (IntKind.u64.wrap ((a % y:Nat):Int)=((a % y:Nat):Int)):=show IntKind.u64.wrap ((a % y:Nat):Int)=((a % y:Nat):Int)from wu64 (by omega)
  have i2:Hid ((wArr y).getD (0+Int.toNat 0) 0=(y:Int)):=show(wArr y).getD (0+Int.toNat 0) 0=(y:Int)from hy
  refine callV (Z:=[]) tabOK mixedOK Tryz.func115 rfl (by kernel_rfl) rfl rfl (by kernel_rfl) rfl ?_
  intro W0 w0 ρ0 hE
  conv=>whnf
  (repeat(first|(refine step_w2 rfl rfl ?_;conv=>whnf)|(refine g_c (by assumption) ?_;conv=>whnf)|(rw[t1.out];conv=>whnf)))
  rw[big_eq,decide_eq_false hbig]
  (repeat((first|refine step_w1 rfl rfl ?_|refine step_w2 rfl rfl ?_|refine step_i (by kernel_rfl) ?_|refine step_oL (by first|omega|decide|(simp only[tl0,dlen,List.length_replicate,List.length_set,List.length_map,List.length_zipWith,List.length_take,List.length_append,List.length_cons,List.length_nil];omega)) ?_|refine step_oA (by first|omega|decide|(simp only[tl0,dlen,List.length_replicate,List.length_set,List.length_map,List.length_zipWith,List.length_take,List.length_append,List.length_cons,List.length_nil];omega)) ?_|refine g_cn (by assumption) rfl ?_|refine g_c1 (by assumption) rfl ?_|refine g_c1n (by assumption) rfl rfl ?_|rw[i2.out]|rw[i1.out]);conv=>whnf))
  refine recast_tup3 (fun _ _ h=>h) rfl (hasC_nat ?_ rfl (by omega)) rfl (fun _ _ h=>h) rfl
  rfl
 ·have hn2:2≤(wInts b).length:=by omega
  have htop':(wArr b).getD ((wInts b).length - 1) 0≠0:=htop.resolve_left hb0
  have hbg:4294967296^((wInts b).length - 1)≤b:=by
   have:=valI_ge (wArr_w32 b) htop'
   rw[show(wInts b).length - 1+1=(wInts b).length from by omega,hvb,←natPowW]at this
   omega
  have hqb:a/b<4294967296^((wInts a).length+1 - (wInts b).length):=by
   refine Nat.div_lt_of_lt_mul (Nat.lt_of_lt_of_le (lt_of_len a) ?_)
   have e:4294967296^(wInts a).length=4294967296^((wInts b).length - 1)*4294967296^((wInts a).length+1 - (wInts b).length):=by rw[←Nat.pow_add];congr 1;omega
   rw[e]
   exact Nat.mul_le_mul_right _ hbg
  have hrb:a % b<4294967296^((wInts a).length+1):=Nat.lt_of_le_of_lt (Nat.mod_le _ _) (Nat.lt_of_lt_of_le (lt_of_len a) (Nat.pow_le_pow_right (by decide) (by omega)))
  have kl:=CallOK.anyWr (c_long (wInts a) (wArr b) (wInts a).length (wInts b).length a b (Nat.le_refl _) hbl (by omega) hbl2 (wInts_w32 a) (wArr_w32 b) hval hvb hn2 htop' hlen 1001 1002 2001 2002 (by decide) (by decide) (by decide)) (fk:=[(1001,⟨23,true,.ints .u32 (wInts a)⟩),(1002,⟨23,true,.ints .u32 (wArr b)⟩)])
  have ko1:=c_of (digs (a/b) ((wInts a).length+1 - (wInts b).length)) ((wInts a).length+1 - (wInts b).length) (by rw[digs_len];exact Nat.le_refl _) (by rw[digs_len];omega) (digs_w32 _ _) 2001 true
  have ko2:=c_of (digs (a % b) ((wInts a).length+1)) ((wInts a).length+1) (by rw[digs_len];exact Nat.le_refl _) (by rw[digs_len];omega) (digs_w32 _ _) 2002 true
  rw[valI_digs,Nat.mod_eq_of_lt hqb,Int.toNat_natCast]at ko1
  rw[valI_digs,Nat.mod_eq_of_lt hrb,Int.toNat_natCast]at ko2
  have t2:Hid ((((wInts b).length:Int)==1)=false):=show(((wInts b).length:Int)==1)=false from by simp;omega
  have t3:Hid (decide (((wInts b).length:Int)=1)=false):=show decide (((wInts b).length:Int)=1)=false from by simp;omega
  refine callV (Z:=[]) tabOK mixedOK Tryz.func115 rfl (by kernel_rfl) rfl rfl (by kernel_rfl) rfl ?_
  intro W0 w0 ρ0 hE
  conv=>whnf
  (repeat(first|(refine step_w2 rfl rfl ?_;conv=>whnf)|(refine g_c (by assumption) ?_;conv=>whnf)|(rw[t1.out];conv=>whnf)))
  rw[big_eq,decide_eq_false hbig]
  (repeat((first|refine step_w2 rfl rfl ?_|refine g_cn (by assumption) rfl ?_|refine g_c1 (by assumption) rfl ?_|refine⟨[_,_],_,[_,_],[],(by assumption),two_fk rfl rfl,two_new rfl rfl,nil_upd, ?_⟩|rw[t2.out]);conv=>whnf))
  exact Recast.refl _
theorem c_Gcd (a b:Nat) (ha:(wInts a).length<274877906944) (hb:(wInts b).length<274877906944):
  CallOK Tryz.prog 114 [.nat a,.nat b] [] (.nat (Nat.gcd a b)) [] []:=by
 refine callV (Z:=[]) tabOK mixedOK Tryz.func114 rfl (by kernel_rfl) rfl rfl (by kernel_rfl) rfl ?_
 intro W0 w0 ρ0 hE
 conv=>whnf
 refine SW_loopN hE (fun k=>k) [2,3,4] [2,3,4] (fun m fr hp=>∃x,(wInts x).length<274877906944∧(wInts m).length<274877906944∧Nat.gcd x m=Nat.gcd a b∧fr=[(2,.ptr 2 0 0 0),(3,.ptr 3 0 0 0),(4,.ptr 4 0 0 0)]∧hp=[(2,⟨38,true,.one [.nat x]⟩),(3,⟨38,true,.one [.nat m]⟩),(4,⟨38,true,.one [.nat 0]⟩)]) b ?_ ?_ ?_
 ·kernel_rfl
 ·exact⟨a,ha,hb,rfl,rfl,rfl⟩
 rintro m _ _ ⟨x,hx,hm,hg,rfl,rfl⟩
 have kz:=c_nZero m
 by_cases h0:m=0
 ·rw[decide_eq_true h0]at kz
  subst h0
  rw[←hg,Nat.gcd_zero_right]
  conv=>whnf
  (repeat(first|(refine step_w2 rfl rfl ?_;conv=>whnf)|(refine g_c (by assumption) ?_;conv=>whnf)));exact Recast.refl _
 ·rw[decide_eq_false h0]at kz
  have kd:=c_Div x m hx hm h0
  have hlt:=Nat.mod_lt x (Nat.pos_of_ne_zero h0)
  conv=>whnf
  (repeat(first|(refine step_w1 rfl rfl ?_;conv=>whnf)|(refine step_i (by kernel_rfl) ?_;conv=>whnf)|(refine g_c (by assumption) ?_;conv=>whnf)))
  refine⟨x % m,fun k=>k,[2,3,4],[2,3,4],hlt,by kernel_rfl,m,hm, ?_, ?_,rfl,rfl⟩
  ·exact Nat.lt_of_le_of_lt (len_le_of (Nat.lt_trans hlt (lt_of_len m))) hm
  ·rw[←hg,Nat.gcd_comm m,←Nat.gcd_rec,Nat.gcd_comm]
end Go.Proofs.YtjofnbpcanhfhabGreatDoor
namespace Go.Proofs.YtjofnbpcanhfhabGreatDoor
open Go.Sx
set_option linter.unusedSimpArgs false
set_option linter.unusedVariables false
theorem len_sz {n:Nat} (h:sz n≤1073741824):(wInts n).length<274877906944:=by
 have:=wlen_sz (n:=n) (M:=33554432) (by omega)
 omega
theorem natBig:NatOK 1073741824 where
 big:=by decide
 cmp a b ha hb:=c_Cmp a b (by have:=len_sz ha;omega) (by have:=len_sz hb;omega)
 add a b h:=n_Add a b (by have:=len_sz (n:=a) (Nat.le_trans (sz_mono (by omega)) h);omega) (by have:=len_sz (n:=b) (Nat.le_trans (sz_mono (by omega)) h);omega)
 sub a b ha h:=n_Sub a b (by have:=len_sz ha;omega) h
 subF a b hb h:=c_SubF a b (by have:=len_sz hb;have:=len_le_of (Nat.lt_trans h (lt_of_len b));omega) (by have:=len_sz hb;omega) h
 mul a b h:=n_Mul a b (len_sz (by omega)) (len_sz (by omega))
 div a b ha hb h0:=c_Div a b (len_sz ha) (len_sz hb) h0
 divZ a:=c_DivZ a
 gcd a b ha hb:=c_Gcd a b (len_sz ha) (len_sz hb)
end Go.Proofs.YtjofnbpcanhfhabGreatDoor
namespace Go.Proofs.YtjofnbpcanhfhabGreatDoor
open Go.Sx
set_option linter.unusedSimpArgs false
set_option linter.unusedVariables false
set_option maxRecDepth 100000
set_option maxHeartbeats 4000000
def fs (q:Rat):Nat:=fsz q+1
theorem fs_add (a b:Rat):fs (a+b)≤fs a+fs b:=by have:=@fsz_add a b;unfold fs;omega
theorem fs_sub (a b:Rat):fs (a - b)≤fs a+fs b:=by have:=@fsz_sub a b;unfold fs;omega
theorem fs_mul (a b:Rat):fs (a*b)≤fs a+fs b:=by have:=@fsz_mul a b;unfold fs;omega
theorem fs_neg (a:Rat):fs (-a)=fs a:=by unfold fs;rw[fsz_neg]
theorem fs_inv (a:Rat):fs a⁻¹≤fs a:=by have:=fsz_inv a;unfold fs;omega
theorem fs_div (a b:Rat):fs (a/b)≤fs a+fs b:=by rw[Rat.div_def];have h1:=fs_mul a b⁻¹;have h2:=fs_inv b;omega
theorem fs_zero:fs 0=2:=by decide+kernel
theorem fs_one:fs 1=2:=by decide+kernel
theorem fs_int {n:Int} (h0: -9223372036854775808≤n) (h1:n<9223372036854775808):fs (n:Rat)≤65:=by
 have:=fsz_int (n:=n) (k:=64) (sz_i64 h0 h1) (by decide);unfold fs;omega
def rabs (q:Rat):Rat:=if q.num<0 then -q else q
theorem rabs_num (q:Rat):(rabs q).num=(q.num.natAbs:Int):=by
 unfold rabs;split
 ·rw[Rat.neg_num];omega
 ·omega
theorem rabs_den (q:Rat):(rabs q).den=q.den:=by unfold rabs;split<;>simp
theorem fs_abs (q:Rat):fs (rabs q)=fs q:=by
 unfold rabs;split
 ·exact fs_neg q
 ·rfl
theorem f_Add (a b:Rat) (h:fs a+fs b≤1073741824):CallOK Tryz.prog 41 [.frac a,.frac b] [] (.frac (a+b)) [] []:=c_fAdd natBig a b (by unfold fs at h;omega)
theorem f_Mul (a b:Rat) (h:fs a+fs b≤1073741824):CallOK Tryz.prog 42 [.frac a,.frac b] [] (.frac (a*b)) [] []:=c_fMul natBig a b (by unfold fs at h;omega)
theorem f_Sub (a b:Rat) (h:fs a+fs b≤1073741824):CallOK Tryz.prog 59 [.frac a,.frac b] [] (.frac (a - b)) [] []:=by
 have k1:=c_fNeg b
 have k2:=f_Add a (-b) (by rw[fs_neg];exact h)
 rw[←Rat.sub_eq_add_neg]at k2
 refine callV (Z:=[]) tabOK mixedOK Tryz.func59 rfl (by kernel_rfl) rfl rfl (by kernel_rfl) rfl ?_
 intro W0 w0 ρ0 hE
 conv=>whnf
 (repeat(first|(refine step_i (by kernel_rfl) ?_;conv=>whnf)|(refine g_c (by assumption) ?_;conv=>whnf)));(first|exact Recast.refl _|exact Frz.recast (Recast.refl _) rfl|(refine Frz.one rfl rfl ?_;skip)|(refine Frz.tup ?_;skip))
theorem f_Abs (q:Rat):CallOK Tryz.prog 46 [.frac q] [] (.frac (rabs q)) [] []:=by
 have k1:=c_Abs q.num
 have k2:=c_From false q.num.natAbs
 rw[show signed false q.num.natAbs=(q.num.natAbs:Int)from rfl]at k2
 refine callV (Z:=[]) tabOK mixedOK Tryz.func46 rfl (by kernel_rfl) rfl rfl (by kernel_rfl) rfl ?_
 intro W0 w0 ρ0 hE
 conv=>whnf
 (repeat(first|(refine step_i (by kernel_rfl) ?_;conv=>whnf)|(refine g_c (by assumption) ?_;conv=>whnf)))
 exact recast_frac (rabs_num q).symm (by rw[rabs_den])
theorem c_iCmp (a b:Int) (ha:sz a.natAbs<1073741824) (hb:sz b.natAbs<1073741824):CallOK Tryz.prog 83 [.int a,.int b] [] (.val (.int .i64 (a - b).sign)) [] []:=by
 have k1:=c_iSub natBig a b ha hb
 have k2:=c_Sign (a - b)
 refine callV (Z:=[]) tabOK mixedOK Tryz.func83 rfl (by kernel_rfl) rfl rfl (by kernel_rfl) rfl ?_
 intro W0 w0 ρ0 hE
 conv=>whnf
 (repeat(first|(refine g_c (by assumption) ?_;conv=>whnf)));(first|exact Recast.refl _|exact Frz.recast (Recast.refl _) rfl|(refine Frz.one rfl rfl ?_;skip)|(refine Frz.tup ?_;skip))
theorem sub_num_sign (a b:Rat):(a - b).num.sign=(a.num*b.den - b.num*a.den).sign:=by
 rw[Rat.sub_def',num_mkRat (Nat.mul_ne_zero a.den_nz b.den_nz)]
 have hg:Nat.gcd (a.num*b.den - b.num*a.den).natAbs (a.den*b.den)≠0:=fun h=>Nat.mul_ne_zero a.den_nz b.den_nz (Nat.gcd_eq_zero_iff.1 h).2
 have hd:((Nat.gcd (a.num*b.den - b.num*a.den).natAbs (a.den*b.den):Nat):Int) ∣ (a.num*b.den - b.num*a.den):=Int.ofNat_dvd_left.2 (Nat.gcd_dvd_left _ _)
 generalize Nat.gcd (a.num*b.den - b.num*a.den).natAbs (a.den*b.den)=g at*
 obtain⟨c,hc⟩:=hd
 rw[hc,Int.mul_ediv_cancel_left _ (by omega),Int.sign_mul,Int.sign_eq_one_of_pos (show(0:Int)<g by omega),Int.one_mul]
theorem f_Cmp (a b:Rat) (h:fs a+fs b≤1073741824):CallOK Tryz.prog 44 [.frac a,.frac b] [] (.val (.int .i64 (a - b).num.sign)) [] []:=by
 have ok:=natBig
 have h':fsz a+fsz b+2≤1073741824:=by unfold fs at h;omega
 have ha:=fsz_num a;have ha':=fsz_den a;have hb:=fsz_num b;have hb':=fsz_den b
 have s1:sz a.den≤1073741824:=by omega
 have s2:sz b.den≤1073741824:=by omega
 have e:=sub_num_sign a b
 refine callV (Z:=[]) tabOK mixedOK Tryz.func44 rfl (by kernel_rfl) rfl rfl (by kernel_rfl) rfl ?_
 intro W0 w0 ρ0 hE
 conv=>whnf
 (repeat(first|(rw[Nat.zero_add];conv=>whnf)))
 refine⟨_,op_eqAgg tabOK goodOK rfl (ev_ok rfl) (ev_ok rfl) rfl rfl rfl rfl (eqTy_nat (a.den - 1) (b.den - 1)) guard_nat, ?_⟩
 rw[more_eq]
 by_cases hd:a.den=b.den
 ·rw[decide_eq_true hd]
  have k1:=c_iCmp a.num b.num (by omega) (by omega)
  rw[hd,←Int.sub_mul,Int.sign_mul,Int.sign_eq_one_of_pos (show(0:Int)<b.den by have:=b.den_pos;omega),Int.mul_one]at e
  rw[←e]at k1
  conv=>whnf
  (repeat(first|(refine step_w1 rfl rfl ?_;conv=>whnf)|(refine g_c (by assumption) ?_;conv=>whnf)));(first|exact Recast.refl _|exact Frz.recast (Recast.refl _) rfl|(refine Frz.one rfl rfl ?_;skip)|(refine Frz.tup ?_;skip))
 ·rw[decide_eq_false hd]
  have p1:=sz_mul a.num.natAbs b.den
  have p2:=sz_mul b.num.natAbs a.den
  have r1:=c_signed ok a s1
  have r2:=c_signed ok b s2
  have r3:=c_iMul ok a.num b.den (by rw[Int.natAbs_natCast];omega)
  have r4:=c_iMul ok b.num a.den (by rw[Int.natAbs_natCast];omega)
  have k1:=c_iCmp (a.num*b.den) (b.num*a.den) (by rw[Int.natAbs_mul,Int.natAbs_natCast];omega) (by rw[Int.natAbs_mul,Int.natAbs_natCast];omega)
  rw[←e]at k1
  conv=>whnf
  (repeat(first|(refine step_w2 rfl rfl ?_;conv=>whnf)|(refine step_i (by kernel_rfl) ?_;conv=>whnf)|(refine g_c (by assumption) ?_;conv=>whnf)));(first|exact Recast.refl _|exact Frz.recast (Recast.refl _) rfl|(refine Frz.one rfl rfl ?_;skip)|(refine Frz.tup ?_;skip))
end Go.Proofs.YtjofnbpcanhfhabGreatDoor
namespace Go.Proofs.YtjofnbpcanhfhabGreatDoor
open Go.Sx
set_option linter.unusedSimpArgs false
set_option linter.unusedVariables false
set_option maxRecDepth 100000
set_option maxHeartbeats 4000000
def fitsF (n:Int):Int:=if n<0 then 1 else if n>2048 then 3 else 0
theorem v_fits (n:Int):CallOK Tryz.prog 77 [.val (.int .i64 n)] [] (.val (.int .i64 (fitsF n))) [] []:=by
 refine callV (Z:=[]) tabOK mixedOK Tryz.func77 rfl (by kernel_rfl) rfl rfl (by kernel_rfl) rfl ?_
 intro W0 w0 ρ0 hE
 conv=>whnf
 unfold fitsF
 by_cases h1:n<0
 ·have t1:decide (n<0)=true:=decide_eq_true h1
  rw[if_pos h1]
  (repeat(first|(refine step_w1 rfl rfl ?_;conv=>whnf)|(rw[t1];conv=>whnf)));(first|exact Recast.refl _|exact Frz.recast (Recast.refl _) rfl|(refine Frz.one rfl rfl ?_;skip)|(refine Frz.tup ?_;skip))
 ·have t1:decide (n<0)=false:=decide_eq_false h1
  rw[if_neg h1]
  by_cases h2:n>2048
  ·have t2:decide (n>2048)=true:=decide_eq_true h2
   rw[if_pos h2]
   (repeat((first|refine step_w1 rfl rfl ?_|refine step_w2 rfl rfl ?_|rw[t1]|rw[t2]);conv=>whnf));(first|exact Recast.refl _|exact Frz.recast (Recast.refl _) rfl|(refine Frz.one rfl rfl ?_;skip)|(refine Frz.tup ?_;skip))
  ·have t2:decide (n>2048)=false:=decide_eq_false h2
   rw[if_neg h2]
   (repeat(first|(refine step_w2 rfl rfl ?_;conv=>whnf)|(rw[t1];conv=>whnf)|(rw[t2];conv=>whnf)));(first|exact Recast.refl _|exact Frz.recast (Recast.refl _) rfl|(refine Frz.one rfl rfl ?_;skip)|(refine Frz.tup ?_;skip))
def alikeF (ls:List (List Rat)):Int:=if ls.any (fun v=>decide (2048<v.length))then 3 else if ls.all (fun v=>v.length==(ls.headD []).length)then 0 else 1
theorem v_alike (ls:List (List Rat)) (hn:ls.length<1099511627776) (hl:∀v∈ls,v.length<1099511627776):CallOK Tryz.prog 52 [mvec 1 fvec ls] [] (.val (.int .i64 (alikeF ls))) [] []:=by
 refine callV (Z:=[]) tabOK mixedOK Tryz.func52 rfl (by kernel_rfl) rfl rfl (by kernel_rfl) rfl ?_
 intro W0 w0 ρ0 hE
 conv=>whnf
 (repeat(first|(refine g_o (op_lenM rfl rfl rfl (ev_ok rfl) (tgt rfl) rfl) ?_;conv=>whnf)))
 refine SW_loopN hE (fun k=>k) [0,2,7,8,9] [] (fun m fr hp=>∃i,m=ls.length - i∧i≤ls.length∧(∀j,j<i→decide (2048<(ls.getD j []).length)=false)∧fr=[(0,mvec 1 fvec ls),(2,.val (.int .i64 0)),(7,mvec 1 fvec ls),(8,.val (.int .i64 (ls.length:Nat))),(9,.val (.int .i64 (i:Nat)))]∧hp=[]) ls.length ?_ ?_ ?_
 ·kernel_rfl
 ·exact⟨0,rfl,Nat.zero_le _,(fun j hj=>by omega),rfl,rfl⟩
 rintro m _ _ ⟨i,rfl,hi,hs,rfl,rfl⟩
 conv=>whnf
 by_cases hlt:i<ls.length
 ·have t1:=dlt hlt
  have t2:=winc (i:=i) (by omega)
  by_cases hL:2048<(ls.getD i []).length
  ·have t3:decide (((ls.getD i []).length:Int)>2048)=true:=decide_eq_true (by omega)
   have e:alikeF ls=3:=by rw[alikeF,if_pos (any_at (d:=[]) hlt (decide_eq_true hL))]
   rw[e]
   (repeat((first|refine step_w1 rfl rfl ?_|refine g_o (op_lenM rfl rfl rfl (ev_ok rfl) (tgt rfl) rfl) ?_|refine g_o (op_loadA rfl (ev_ok rfl) (tgt rfl) rfl (Nat.succ_ne_zero _) rfl) ?_|refine g_o (op_indexN (α:=List Rat) (d:=[]) rfl (ev_ok rfl) (ev_ok rfl) (tgt rfl) rfl (tgt rfl) rfl (by omega)) ?_|rw[t1]|rw[t3]);conv=>whnf));(first|exact Recast.refl _|exact Frz.recast (Recast.refl _) rfl|(refine Frz.one rfl rfl ?_;skip)|(refine Frz.tup ?_;skip))
  ·have t3:decide (((ls.getD i []).length:Int)>2048)=false:=decide_eq_false (by omega)
   (repeat((first|refine step_w1 rfl rfl ?_|refine step_w2 rfl rfl ?_|refine g_o (op_lenM rfl rfl rfl (ev_ok rfl) (tgt rfl) rfl) ?_|refine g_o (op_loadA rfl (ev_ok rfl) (tgt rfl) rfl (Nat.succ_ne_zero _) rfl) ?_|refine g_o (op_indexN (α:=List Rat) (d:=[]) rfl (ev_ok rfl) (ev_ok rfl) (tgt rfl) rfl (tgt rfl) rfl (by omega)) ?_|rw[t1]|rw[t3]|rw[t2]);conv=>whnf))
   refine⟨ls.length - (i+1),fun k=>k,[0,2,7,8,9],[],by omega,by kernel_rfl,i+1,rfl,hlt, ?_,rfl,rfl⟩
   intro j hj
   by_cases hji:j=i
   ·rw[hji];exact decide_eq_false hL
   ·exact hs j (by omega)
 ·have t1:=dge hlt
  have hI:i=ls.length:=by omega
  subst hI
  have hshort:ls.any (fun v=>decide (2048<v.length))=false:=any_no [] hs
  (repeat(first|(refine step_w2 rfl rfl ?_;conv=>whnf)|(refine g_o (op_lenM rfl rfl rfl (ev_ok rfl) (tgt rfl) rfl) ?_;conv=>whnf)|(rw[t1];conv=>whnf)))
  refine SW_loopN hE (fun k=>k) [0,2,17,18,19] [] (fun m fr hp=>∃i,m=ls.length - i∧i≤ls.length∧(∀j,j<i→((ls.getD j []).length==(ls.headD []).length)=true)∧fr=[(0,mvec 1 fvec ls),(2,.val (.int .i64 0)),(17,mvec 1 fvec ls),(18,.val (.int .i64 (ls.length:Nat))),(19,.val (.int .i64 (i:Nat)))]∧hp=[]) ls.length ?_ ?_ ?_
  ·kernel_rfl
  ·exact⟨0,rfl,Nat.zero_le _,(fun j hj=>by omega),rfl,rfl⟩
  rintro m _ _ ⟨i,rfl,hi,hs,rfl,rfl⟩
  conv=>whnf
  by_cases hlt:i<ls.length
  ·have t1:=dlt hlt
   have t2:=winc (i:=i) (by omega)
   have h0:0<ls.length:=by omega
   have hh:ls.getD 0 []=ls.headD []:=by cases ls<;>rfl
   by_cases hL:(ls.getD i []).length=(ls.getD 0 []).length
   ·have t3:(((ls.getD i []).length:Int) != ((ls.getD 0 []).length:Int))=false:=by rw[hL];exact bne_self_eq_false _
    (repeat((first|refine step_w1 rfl rfl ?_|refine step_w2 rfl rfl ?_|refine g_o (op_lenM rfl rfl rfl (ev_ok rfl) (tgt rfl) rfl) ?_|refine g_o (op_loadA rfl (ev_ok rfl) (tgt rfl) rfl (Nat.succ_ne_zero _) rfl) ?_|refine g_o (op_indexN (α:=List Rat) (d:=[]) rfl (ev_ok rfl) (ev_ok rfl) (tgt rfl) rfl (tgt rfl) rfl (by omega)) ?_|rw[t1]|rw[t3]|rw[t2]);conv=>whnf))
    refine⟨ls.length - (i+1),fun k=>k,[0,2,17,18,19],[],by omega,by kernel_rfl,i+1,rfl,hlt, ?_,rfl,rfl⟩
    intro j hj
    by_cases hji:j=i
    ·rw[hji,hL,hh];exact beq_self_eq_true _
    ·exact hs j (by omega)
   ·have t3:(((ls.getD i []).length:Int) != ((ls.getD 0 []).length:Int))=true:=bne_iff_ne.2 (by omega)
    have e:alikeF ls=1:=by
     rw[alikeF,if_neg (by rw[hshort];exact Bool.false_ne_true),if_neg]
     rw[all_no (d:=[]) hlt (by rw[←hh];exact beq_false_of_ne hL)]
     exact Bool.false_ne_true
    rw[e]
    (repeat((first|refine step_w1 rfl rfl ?_|refine g_o (op_lenM rfl rfl rfl (ev_ok rfl) (tgt rfl) rfl) ?_|refine g_o (op_loadA rfl (ev_ok rfl) (tgt rfl) rfl (Nat.succ_ne_zero _) rfl) ?_|refine g_o (op_indexN (α:=List Rat) (d:=[]) rfl (ev_ok rfl) (ev_ok rfl) (tgt rfl) rfl (tgt rfl) rfl (by omega)) ?_|rw[t1]|rw[t3]);conv=>whnf));(first|exact Recast.refl _|exact Frz.recast (Recast.refl _) rfl|(refine Frz.one rfl rfl ?_;skip)|(refine Frz.tup ?_;skip))
  ·have t1:=dge hlt
   have hI:i=ls.length:=by omega
   subst hI
   have e:alikeF ls=0:=by
    rw[alikeF,if_neg (by rw[hshort];exact Bool.false_ne_true),if_pos (all_at [] hs)]
   rw[e]
   (repeat(first|(refine step_w2 rfl rfl ?_;conv=>whnf)|(rw[t1];conv=>whnf)));(first|exact Recast.refl _|exact Frz.recast (Recast.refl _) rfl|(refine Frz.one rfl rfl ?_;skip)|(refine Frz.tup ?_;skip))
theorem alike_two (a b:List Rat):alikeF [a,b]=if 2048<a.length∨2048<b.length then 3 else if a.length=b.length then 0 else 1:=by
 simp only[alikeF,List.any_cons,List.any_nil,Bool.or_false,Bool.or_eq_true,decide_eq_true_eq,List.all_cons,List.all_nil,Bool.and_true,List.headD_cons,beq_self_eq_true,Bool.true_and,beq_iff_eq]
 split
 ·rfl
 ·split
  ·rename_i h;rw[if_pos h.symm]
  ·rename_i h;rw[if_neg (fun h'=>h h'.symm)]
theorem v_each0 (F:Rat→Rat→Rat) (g:FuncId) (a b:List Rat) (hab:a.length=b.length) (hl:a.length≤2048)
  (hf:∀i,i<a.length→CallOK Tryz.prog g ([]++([.frac (a.getD i 0),.frac (b.getD i 0)]++[])) [] (.frac (F (a.getD i 0) (b.getD i 0))) [] []):
  CallOK Tryz.prog 53 [fvec a,fvec b,.clo g [] []] [] (.tup [fvec (List.zipWith F a b),.val (.int .i64 0)]) [] []:=by
 have k1:=v_alike [a,b] (by simp) (by simp;omega)
 rw[alike_two,if_neg (by omega),if_pos hab]at k1
 refine callF (Z:=[13]) tabOK mixedOK Tryz.func53 rfl (by kernel_rfl) (by first|rfl|(simp[keylessL,keyless,keylessL_map, *];done)) (by first|rfl|(simp[keylessL,keyless,keylessL_map, *];done)) (by kernel_rfl) rfl ?_
 intro w0 ρ0 hE
 conv=>whnf
 (repeat((first|refine step_w2 rfl rfl ?_|refine And.intro (by first|decide|omega|(simp only[tl0,dlen,List.length_replicate,List.length_set,List.length_map,List.length_zipWith,List.length_take,List.length_append,List.length_cons,List.length_nil];omega)) ?_|refine g_c (by assumption) ?_|rw[bne_self_eq_false]|refine g_o (op_lenM rfl rfl rfl (ev_ok rfl) (tgt rfl) rfl) ?_|rw[Int.toNat_natCast]);conv=>whnf))
 have hz:=zip_len (f:=F) rfl hab.symm
 refine SW_loopN hE (fun k=>k) [0,1,2,6,7,9,22,23] [20] (fun m fr hp=>∃i,m=a.length - i∧i≤a.length∧fr=[(0,fvec a),(1,fvec b),(2,.clo g [] []),(6,.val (.slice none 0 0)),(7,.val (.int .i64 0)),(9,.slc 20 5 0 a.length),(22,.val (.int .i64 (a.length:Nat))),(23,.val (.int .i64 (i:Nat)))]∧
  hp=[(20,⟨44,true,.fracs ((List.zipWith F a b).take i++List.replicate (a.length - i) 0)⟩)]) a.length ?_ ?_ ?_
 ·kernel_rfl
 ·exact⟨0,rfl,Nat.zero_le _,rfl,rfl⟩
 rintro m _ _ ⟨i,rfl,hi,rfl,rfl⟩
 conv=>whnf
 have hlen:=fill_len (d:=(0:Rat)) hi hz
 by_cases hlt:i<a.length
 ·have t1:=dlt hlt
  have t2:=winc (i:=i) (by omega)
  have k2:=hf i hlt
  rw[←zip_get (f:=F) (d3:=0) hlt (by omega)]at k2
  (repeat((first|refine step_w1 rfl rfl ?_|refine step_i (by kernel_rfl) ?_|refine And.intro (by first|decide|omega|(simp only[tl0,dlen,List.length_replicate,List.length_set,List.length_map,List.length_zipWith,List.length_take,List.length_append,List.length_cons,List.length_nil];omega)) ?_|refine g_c (by assumption) ?_|refine g_o (op_indexN (α:=Rat) (d:=0) rfl (ev_ok rfl) (ev_ok rfl) (tgt rfl) rfl (tgt rfl) rfl (by omega)) ?_|refine g_o (op_loadA rfl (ev_ok rfl) (tgt rfl) rfl (Nat.succ_ne_zero _) rfl) ?_|rw[t1]|rw[t2]|rw[Int.toNat_natCast]|rw[Nat.zero_add]);conv=>whnf))
  refine⟨a.length - (i+1),fun k=>k,[0,1,2,6,7,9,22,23],[20],by omega,by kernel_rfl,i+1,rfl,hlt,rfl, ?_⟩
  rw[←fill_set (e:=0) hlt hz]
  rfl
 ·have t1:=dge hlt
  have hI:i=a.length:=by omega
  subst hI
  rw[fill_all hz]
  (repeat(first|(refine step_w2 rfl rfl ?_;conv=>whnf)|(rw[t1];conv=>whnf)))
  (first|exact Recast.refl _|exact Frz.recast (Recast.refl _) rfl|(refine Frz.one rfl rfl ?_;skip)|(refine Frz.tup ?_;(repeat(first|exact FrzC.keyless rfl|exact FrzL.nil|refine FrzL.cons ?_ ?_|(refine FrzC.fracs rfl ?_;(first|rfl|omega|(simp<;>fail)|(simp<;>omega)))))))
theorem v_each1 (F:Rat→Rat→Rat) (g:FuncId) (p:Pred) (a b:List Rat) (hab:a.length=b.length) (hl:a.length≤2048)
  (hf:∀i,i<a.length→CallOK Tryz.prog g ([]++([.frac (a.getD i 0),.frac (b.getD i 0)]++[.atom p])) [] (.frac (F (a.getD i 0) (b.getD i 0))) [] []):
  CallOK Tryz.prog 53 [fvec a,fvec b,.clo g [] [.atom p]] [] (.tup [fvec (List.zipWith F a b),.val (.int .i64 0)]) [] []:=by
 have k1:=v_alike [a,b] (by simp) (by simp;omega)
 rw[alike_two,if_neg (by omega),if_pos hab]at k1
 refine callF (Z:=[13]) tabOK mixedOK Tryz.func53 rfl (by kernel_rfl) (by first|rfl|(simp[keylessL,keyless,keylessL_map, *];done)) (by first|rfl|(simp[keylessL,keyless,keylessL_map, *];done)) (by kernel_rfl) rfl ?_
 intro w0 ρ0 hE
 conv=>whnf
 (repeat((first|refine step_w2 rfl rfl ?_|refine And.intro (by first|decide|omega|(simp only[tl0,dlen,List.length_replicate,List.length_set,List.length_map,List.length_zipWith,List.length_take,List.length_append,List.length_cons,List.length_nil];omega)) ?_|refine g_c (by assumption) ?_|rw[bne_self_eq_false]|refine g_o (op_lenM rfl rfl rfl (ev_ok rfl) (tgt rfl) rfl) ?_|rw[Int.toNat_natCast]);conv=>whnf))
 have hz:=zip_len (f:=F) rfl hab.symm
 refine SW_loopN hE (fun k=>k) [0,1,2,6,7,9,22,23] [20] (fun m fr hp=>∃i,m=a.length - i∧i≤a.length∧fr=[(0,fvec a),(1,fvec b),(2,.clo g [] [.atom p]),(6,.val (.slice none 0 0)),(7,.val (.int .i64 0)),(9,.slc 20 5 0 a.length),(22,.val (.int .i64 (a.length:Nat))),(23,.val (.int .i64 (i:Nat)))]∧
  hp=[(20,⟨44,true,.fracs ((List.zipWith F a b).take i++List.replicate (a.length - i) 0)⟩)]) a.length ?_ ?_ ?_
 ·kernel_rfl
 ·exact⟨0,rfl,Nat.zero_le _,rfl,rfl⟩
 rintro m _ _ ⟨i,rfl,hi,rfl,rfl⟩
 conv=>whnf
 have hlen:=fill_len (d:=(0:Rat)) hi hz
 by_cases hlt:i<a.length
 ·have t1:=dlt hlt
  have t2:=winc (i:=i) (by omega)
  have k2:=hf i hlt
  rw[←zip_get (f:=F) (d3:=0) hlt (by omega)]at k2
  (repeat((first|refine step_w1 rfl rfl ?_|refine step_i (by kernel_rfl) ?_|refine And.intro (by first|decide|omega|(simp only[tl0,dlen,List.length_replicate,List.length_set,List.length_map,List.length_zipWith,List.length_take,List.length_append,List.length_cons,List.length_nil];omega)) ?_|refine g_c (by assumption) ?_|refine g_o (op_indexN (α:=Rat) (d:=0) rfl (ev_ok rfl) (ev_ok rfl) (tgt rfl) rfl (tgt rfl) rfl (by omega)) ?_|refine g_o (op_loadA rfl (ev_ok rfl) (tgt rfl) rfl (Nat.succ_ne_zero _) rfl) ?_|rw[t1]|rw[t2]|rw[Int.toNat_natCast]|rw[Nat.zero_add]);conv=>whnf))
  refine⟨a.length - (i+1),fun k=>k,[0,1,2,6,7,9,22,23],[20],by omega,by kernel_rfl,i+1,rfl,hlt,rfl, ?_⟩
  rw[←fill_set (e:=0) hlt hz]
  rfl
 ·have t1:=dge hlt
  have hI:i=a.length:=by omega
  subst hI
  rw[fill_all hz]
  (repeat(first|(refine step_w2 rfl rfl ?_;conv=>whnf)|(rw[t1];conv=>whnf)))
  (first|exact Recast.refl _|exact Frz.recast (Recast.refl _) rfl|(refine Frz.one rfl rfl ?_;skip)|(refine Frz.tup ?_;(repeat(first|exact FrzC.keyless rfl|exact FrzL.nil|refine FrzL.cons ?_ ?_|(refine FrzC.fracs rfl ?_;(first|rfl|omega|(simp<;>fail)|(simp<;>omega)))))))
end Go.Proofs.YtjofnbpcanhfhabGreatDoor
namespace Go.Proofs.YtjofnbpcanhfhabGreatDoor
open Go.Sx
set_option linter.unusedSimpArgs false
set_option linter.unusedVariables false
set_option maxRecDepth 100000
set_option maxHeartbeats 4000000
def fsL (l:List Rat):Nat:=(l.map fs).sum
theorem fs_sum (l:List Rat) (s:Rat):fs (l.foldl (·+·) s)≤fs s+fsL l:=by
 induction l generalizing s with
 |nil=>simp[fsL]
 |cons q l ih=>
  have:=ih (s+q)
  have:=fs_add s q
  simp only[List.foldl_cons,fsL,List.map_cons,List.sum_cons]at*
  omega
theorem f_totalAdd (s q:Rat) (h:fs s+fs q≤1073741824) (K:Nat):
  CallOK Tryz.prog 98 [.ptr K 0 0 0,.frac q] [(K,⟨131,true,.one [.frac s]⟩)] (.tup []) [] [(K,⟨131,true,.one [.frac (s+q)]⟩)]:=by
 have k1:=f_Add s q h
 refine callK (Z:=[]) tabOK mixedOK Tryz.func98 rfl (by kernel_rfl) (args:=[.ptr 0 0 0 0,.frac q]) (fk:=[(0,⟨131,true,.one [.frac s]⟩)]) (c:=.tup []) (new:=[]) (upd:=[(0,⟨131,true,.one [.frac (s+q)]⟩)]) (ShapeOK.of rfl rfl rfl rfl rfl rfl rfl rfl rfl rfl rfl) rfl (fun _=>K) NamesOK.upd ?_
 intro W0 w0 ρ0 hE
 conv=>whnf
 (repeat(first|(refine step_i (by kernel_rfl) ?_;conv=>whnf)|(refine g_c (by assumption) ?_;conv=>whnf)))
 exact⟨Recast.refl _,(fun _ _ h=>by cases h),fun k b hm=>by simp only[List.mem_singleton,Prod.mk.injEq]at hm;obtain⟨rfl,rfl⟩:=hm;rfl⟩
theorem take_snoc (l:List Rat) (i:Nat) (hi:i<l.length):l.take (i+1)=l.take i++[l.getD i 0]:=by rw[List.take_add_one,List.getD_eq_getElem?_getD,List.getElem?_eq_getElem hi];rfl
theorem foldl_take (l:List Rat) (i:Nat) (hi:i<l.length) (s:Rat):(l.take (i+1)).foldl (·+·) s=(l.take i).foldl (·+·) s+l.getD i 0:=by
 rw[take_snoc l i hi,List.foldl_append];rfl
theorem fsL_append (a b:List Rat):fsL (a++b)=fsL a+fsL b:=by unfold fsL;rw[List.map_append,List.sum_append]
theorem fsL_one (q:Rat):fsL [q]=fs q:=by simp[fsL]
theorem fsL_take (l:List Rat) (i:Nat) (hi:i<l.length):fsL (l.take i)+fs (l.getD i 0)≤fsL l:=by
 have h1:fsL (l.take (i+1))=fsL (l.take i)+fs (l.getD i 0):=by rw[take_snoc l i hi,fsL_append,fsL_one]
 have h3:fsL l=fsL (l.take (i+1))+fsL (l.drop (i+1)):=by rw[←fsL_append,List.take_append_drop]
 rw[h3,h1]
 exact Nat.le_add_right _ _
theorem f_each (l:List Rat) (s:Rat) (hn:l.length<1099511627776) (h:fs s+fsL l≤1073741824) (K:Nat):
  CallOK Tryz.prog 97 [.clo 98 [.ptr K 0 0 0] [],fvec l] [(K,⟨131,true,.one [.frac s]⟩)] (.tup []) [] [(K,⟨131,true,.one [.frac (l.foldl (·+·) s)]⟩)]:=by
 refine callK (Z:=[]) tabOK mixedOK Tryz.func97 rfl (by kernel_rfl) (args:=[.clo 98 [.ptr 1001 0 0 0] [],fvec l]) (fk:=[(1001,⟨131,true,.one [.frac s]⟩)]) (c:=.tup []) (new:=[]) (upd:=[(1001,⟨131,true,.one [.frac (l.foldl (·+·) s)]⟩)]) (ShapeOK.of rfl rfl rfl rfl rfl rfl rfl rfl rfl rfl rfl) rfl (fun _=>K) NamesOK.upd ?_
 intro W0 w0 ρ0 hE
 conv=>whnf
 (repeat(first|(refine g_o (op_lenM rfl rfl rfl (ev_ok rfl) (tgt rfl) rfl) ?_;conv=>whnf)))
 refine SW_loopN hE (fun k=>k) [0,1,6,7,8] [1001] (fun m fr hp=>∃i,m=l.length - i∧i≤l.length∧fr=[(0,.clo 98 [.ptr 1001 0 0 0] []),(1,fvec l),(6,fvec l),(7,.val (.int .i64 (l.length:Nat))),(8,.val (.int .i64 (i:Nat)))]∧
  hp=[(1001,⟨131,true,.one [.frac ((l.take i).foldl (·+·) s)]⟩)]) l.length ?_ ?_ ?_
 ·kernel_rfl
 ·exact⟨0,rfl,Nat.zero_le _,rfl,rfl⟩
 rintro m _ _ ⟨i,rfl,hi,rfl,rfl⟩
 conv=>whnf
 by_cases hlt:i<l.length
 ·have t1:=dlt hlt
  have t2:=winc (i:=i) (by omega)
  have hs:=fs_sum (l.take i) s
  have hs2:=fsL_take l i hlt
  have k1:=f_totalAdd ((l.take i).foldl (·+·) s) (l.getD i 0) (by omega) 1001
  rw[←foldl_take l i hlt s]at k1
  (repeat((first|refine step_w1 rfl rfl ?_|refine g_c1u (by assumption) rfl rfl ?_|refine g_o (op_indexN (α:=Rat) (d:=0) rfl (ev_ok rfl) (ev_ok rfl) (tgt rfl) rfl (tgt rfl) rfl (by omega)) ?_|refine g_o (op_loadA rfl (ev_ok rfl) (tgt rfl) rfl (Nat.succ_ne_zero _) rfl) ?_|rw[t1]|rw[t2]);conv=>whnf))
  exact⟨l.length - (i+1),fun k=>k,[0,1,6,7,8],[1001],by omega,by kernel_rfl,i+1,rfl,hlt,rfl,rfl⟩
 ·have t1:=dge hlt
  have hI:i=l.length:=by omega
  subst hI
  rw[List.take_length]
  (repeat(first|(refine step_w2 rfl rfl ?_;conv=>whnf)|(rw[t1];conv=>whnf)))
  exact⟨Recast.refl _,(fun _ _ h=>by cases h),fun k b hm=>by simp only[List.mem_singleton,Prod.mk.injEq]at hm;obtain⟨rfl,rfl⟩:=hm;rfl⟩
theorem f_Sum (l:List Rat) (hn:l.length<1099511627776) (h:fsL l+2≤1073741824):CallOK Tryz.prog 64 [fvec l] [] (.frac (l.foldl (·+·) 0)) [] []:=by
 have k1:=f_each l 0 hn (by rw[fs_zero];omega) 3
 refine callV (Z:=[]) tabOK mixedOK Tryz.func64 rfl (by kernel_rfl) rfl rfl (by kernel_rfl) rfl ?_
 intro W0 w0 ρ0 hE
 conv=>whnf
 (repeat(first|(refine g_c1u (by assumption) rfl rfl ?_;conv=>whnf)|(refine g_o (op_makeFunc rfl rfl rfl) ?_;conv=>whnf)));(first|exact Recast.refl _|exact Frz.recast (Recast.refl _) rfl|(refine Frz.one rfl rfl ?_;skip)|(refine Frz.tup ?_;skip))
end Go.Proofs.YtjofnbpcanhfhabGreatDoor
namespace Go.Proofs.YtjofnbpcanhfhabGreatDoor
open Go.Sx
set_option linter.unusedSimpArgs false
set_option linter.unusedVariables false
set_option maxRecDepth 100000
set_option maxHeartbeats 4000000
def Fit (a b:List Rat):Prop:=∀i,i<a.length→fs (a.getD i 0)+fs (b.getD i 0)≤1073741824
abbrev vadd (a b:List Rat):List Rat:=List.zipWith (·+·) a b
abbrev vsub (a b:List Rat):List Rat:=List.zipWith (· - ·) a b
abbrev vmul (a b:List Rat):List Rat:=List.zipWith (·*·) a b
abbrev vscale (c:Rat) (a:List Rat):List Rat:=List.zipWith (fun x _=>c*x) a a
abbrev vaxpy (c:Rat) (a b:List Rat):List Rat:=List.zipWith (fun x y=>c*x+y) a b
theorem v_Add (a b:List Rat) (hab:a.length=b.length) (hl:a.length≤2048) (h:Fit a b):CallOK Tryz.prog 24 [fvec a,fvec b] [] (.tup [fvec (vadd a b),.val (.int .i64 0)]) [] []:=by
 have k1:=v_each0 (·+·) 41 a b hab hl (fun i hi=>f_Add _ _ (h i hi))
 refine callV (Z:=[]) tabOK mixedOK Tryz.func24 rfl (by kernel_rfl) rfl rfl (by kernel_rfl) rfl ?_
 intro W0 w0 ρ0 hE
 conv=>whnf
 (repeat(first|(refine g_c (by assumption) ?_;conv=>whnf)));(first|exact Recast.refl _|exact Frz.recast (Recast.refl _) rfl|(refine Frz.one rfl rfl ?_;skip)|(refine Frz.tup ?_;skip))
theorem v_Sub (a b:List Rat) (hab:a.length=b.length) (hl:a.length≤2048) (h:Fit a b):CallOK Tryz.prog 25 [fvec a,fvec b] [] (.tup [fvec (vsub a b),.val (.int .i64 0)]) [] []:=by
 have k1:=v_each0 (· - ·) 59 a b hab hl (fun i hi=>f_Sub _ _ (h i hi))
 refine callV (Z:=[]) tabOK mixedOK Tryz.func25 rfl (by kernel_rfl) rfl rfl (by kernel_rfl) rfl ?_
 intro W0 w0 ρ0 hE
 conv=>whnf
 (repeat(first|(refine g_c (by assumption) ?_;conv=>whnf)));(first|exact Recast.refl _|exact Frz.recast (Recast.refl _) rfl|(refine Frz.one rfl rfl ?_;skip)|(refine Frz.tup ?_;skip))
theorem v_Scale1 (c x y:Rat) (h:fs c+fs x≤1073741824):CallOK Tryz.prog 54 ([]++([.frac x,.frac y]++[ptrA [.frac c]])) [] (.frac (c*x)) [] []:=by
 have k1:=f_Mul c x h
 refine callV (Z:=[]) tabOK mixedOK Tryz.func54 rfl (by kernel_rfl) rfl rfl (by kernel_rfl) rfl ?_
 intro W0 w0 ρ0 hE
 conv=>whnf
 (repeat(first|(refine g_c (by assumption) ?_;conv=>whnf)|(refine g_o (op_loadA rfl (ev_ok rfl) (tgt rfl) rfl (Nat.succ_ne_zero _) rfl) ?_;conv=>whnf)));(first|exact Recast.refl _|exact Frz.recast (Recast.refl _) rfl|(refine Frz.one rfl rfl ?_;skip)|(refine Frz.tup ?_;skip))
theorem v_Scale (c:Rat) (a:List Rat) (hl:a.length≤2048) (h:∀i,i<a.length→fs c+fs (a.getD i 0)≤1073741824):CallOK Tryz.prog 16 [.frac c,fvec a] [] (.tup [fvec (vscale c a),.val (.int .i64 0)]) [] []:=by
 have k1:=v_each1 (fun x _=>c*x) 54 (ptrP [.frac c]) a a rfl hl (fun i hi=>v_Scale1 _ _ _ (h i hi))
 refine callV (Z:=[2]) tabOK mixedOK Tryz.func16 rfl (by kernel_rfl) rfl rfl (by kernel_rfl) rfl ?_
 intro W0 w0 ρ0 hE
 conv=>whnf
 (repeat(first|(refine g_c (by assumption) ?_;conv=>whnf)|(refine g_o (op_makeFunc rfl rfl rfl) ?_;conv=>whnf)));(first|exact Recast.refl _|exact Frz.recast (Recast.refl _) rfl|(refine Frz.one rfl rfl ?_;skip)|(refine Frz.tup ?_;skip))
theorem v_Axpy1 (c x y:Rat) (h:fs c+fs x+fs y≤1073741824):CallOK Tryz.prog 60 ([]++([.frac x,.frac y]++[ptrA [.frac c]])) [] (.frac (c*x+y)) [] []:=by
 have k1:=f_Mul c x (by omega)
 have k2:=f_Add (c*x) y (by have:=fs_mul c x;omega)
 refine callV (Z:=[]) tabOK mixedOK Tryz.func60 rfl (by kernel_rfl) rfl rfl (by kernel_rfl) rfl ?_
 intro W0 w0 ρ0 hE
 conv=>whnf
 (repeat(first|(refine step_i (by kernel_rfl) ?_;conv=>whnf)|(refine g_c (by assumption) ?_;conv=>whnf)|(refine g_o (op_loadA rfl (ev_ok rfl) (tgt rfl) rfl (Nat.succ_ne_zero _) rfl) ?_;conv=>whnf)));(first|exact Recast.refl _|exact Frz.recast (Recast.refl _) rfl|(refine Frz.one rfl rfl ?_;skip)|(refine Frz.tup ?_;skip))
theorem v_Axpy (c:Rat) (a b:List Rat) (hab:a.length=b.length) (hl:a.length≤2048) (h:∀i,i<a.length→fs c+fs (a.getD i 0)+fs (b.getD i 0)≤1073741824):CallOK Tryz.prog 26 [.frac c,fvec a,fvec b] [] (.tup [fvec (vaxpy c a b),.val (.int .i64 0)]) [] []:=by
 have k1:=v_each1 (fun x y=>c*x+y) 60 (ptrP [.frac c]) a b hab hl (fun i hi=>v_Axpy1 _ _ _ (h i hi))
 refine callV (Z:=[3]) tabOK mixedOK Tryz.func26 rfl (by kernel_rfl) rfl rfl (by kernel_rfl) rfl ?_
 intro W0 w0 ρ0 hE
 conv=>whnf
 (repeat(first|(refine g_c (by assumption) ?_;conv=>whnf)|(refine g_o (op_makeFunc rfl rfl rfl) ?_;conv=>whnf)));(first|exact Recast.refl _|exact Frz.recast (Recast.refl _) rfl|(refine Frz.one rfl rfl ?_;skip)|(refine Frz.tup ?_;skip))
def vdot (a b:List Rat):Rat:=(vmul a b).foldl (·+·) 0
theorem v_Dot (a b:List Rat) (hab:a.length=b.length) (hl:a.length≤2048) (h:Fit a b) (hs:fsL (vmul a b)+2≤1073741824):CallOK Tryz.prog 31 [fvec a,fvec b] [] (.tup [.frac (vdot a b),.val (.int .i64 0)]) [] []:=by
 have k1:=v_each0 (·*·) 42 a b hab hl (fun i hi=>f_Mul _ _ (h i hi))
 have k2:=f_Sum (vmul a b) (by simp;omega) hs
 refine callV (Z:=[]) tabOK mixedOK Tryz.func31 rfl (by kernel_rfl) rfl rfl (by kernel_rfl) rfl ?_
 intro W0 w0 ρ0 hE
 conv=>whnf
 (repeat(first|(refine g_c (by assumption) ?_;conv=>whnf)));(first|exact Recast.refl _|exact Frz.recast (Recast.refl _) rfl|(refine Frz.one rfl rfl ?_;skip)|(refine Frz.tup ?_;skip))
theorem v_Zero (n:Nat) (hn:n≤2048):CallOK Tryz.prog 38 [.val (.int .i64 (n:Nat))] [] (.tup [fvec (List.replicate n 0),.val (.int .i64 0)]) [] []:=by
 have k1:=v_fits n
 rw[fitsF,if_neg (by omega),if_neg (by omega)]at k1
 refine callF (Z:=[]) tabOK mixedOK Tryz.func38 rfl (by kernel_rfl) (by first|rfl|(simp[keylessL,keyless,keylessL_map, *];done)) (by first|rfl|(simp[keylessL,keyless,keylessL_map, *];done)) (by kernel_rfl) rfl ?_
 intro w0 ρ0 hE
 conv=>whnf
 (repeat((first|refine step_w2 rfl rfl ?_|refine And.intro (by first|decide|omega|(simp only[tl0,dlen,List.length_replicate,List.length_set,List.length_map,List.length_zipWith,List.length_take,List.length_append,List.length_cons,List.length_nil];omega)) ?_|refine g_c (by assumption) ?_|rw[Int.toNat_natCast]);conv=>whnf));(first|exact Recast.refl _|exact Frz.recast (Recast.refl _) rfl|(refine Frz.one rfl rfl ?_;skip)|(refine Frz.tup ?_;(repeat(first|exact FrzC.keyless rfl|exact FrzL.nil|refine FrzL.cons ?_ ?_|(refine FrzC.fracs rfl ?_;(first|rfl|omega|(simp<;>fail)|(simp<;>omega)))))))
theorem v_ZeroE (n:Int) (hn:fitsF n≠0):CallOK Tryz.prog 38 [.val (.int .i64 n)] [] (.tup [fvec [],.val (.int .i64 (fitsF n))]) [] []:=by
 have k1:=v_fits n
 have t1:(fitsF n != 0)=true:=bne_iff_ne.2 hn
 refine callF (Z:=[]) tabOK mixedOK Tryz.func38 rfl (by kernel_rfl) (by first|rfl|(simp[keylessL,keyless,keylessL_map, *];done)) (by first|rfl|(simp[keylessL,keyless,keylessL_map, *];done)) (by kernel_rfl) rfl ?_
 intro w0 ρ0 hE
 conv=>whnf
 (repeat(first|(refine step_w1 rfl rfl ?_;conv=>whnf)|(refine g_c (by assumption) ?_;conv=>whnf)|(rw[t1];conv=>whnf)));(first|exact Recast.refl _|exact Frz.recast (Recast.refl _) rfl|(refine Frz.one rfl rfl ?_;skip)|(refine Frz.tup ?_;(repeat(first|exact FrzC.keyless rfl|exact FrzL.nil|refine FrzL.cons ?_ ?_|exact FrzC.nilS))))
theorem v_ZeroM (n:Nat) (hn:n≤2048) (K:Nat):CallOK Tryz.prog 38 [.val (.int .i64 (n:Nat))] [] (.tup [.slc K 5 0 n,.val (.int .i64 0)]) [(K,⟨44,true,.fracs (List.replicate n 0)⟩)] []:=by
 have k1:=v_fits n
 rw[fitsF,if_neg (by omega),if_neg (by omega)]at k1
 refine callK (Z:=[]) tabOK mixedOK Tryz.func38 rfl (by kernel_rfl) (args:=[.val (.int .i64 (n:Nat))]) (fk:=[]) (c:=.tup [.slc 11 5 0 n,.val (.int .i64 0)]) (new:=[(11,⟨44,true,.fracs (List.replicate n 0)⟩)]) (upd:=[]) (ShapeOK.of rfl rfl rfl rfl rfl rfl rfl rfl rfl rfl rfl) rfl (fun _=>K) NamesOK.one ?_
 intro W0 w0 ρ0 hE
 conv=>whnf
 (repeat((first|refine step_w2 rfl rfl ?_|refine And.intro (by first|decide|omega|(simp only[tl0,dlen,List.length_replicate,List.length_set,List.length_map,List.length_zipWith,List.length_take,List.length_append,List.length_cons,List.length_nil];omega)) ?_|refine g_c (by assumption) ?_|rw[Int.toNat_natCast]);conv=>whnf))
 exact⟨Recast.refl _,(fun k b hm=>by simp only[List.mem_singleton,Prod.mk.injEq]at hm;obtain⟨rfl,rfl⟩:=hm;rfl),(fun _ _ h=>by cases h)⟩
theorem v_Unit (n i:Nat) (hn:n≤2048) (hi:i<n):CallOK Tryz.prog 47 [.val (.int .i64 (n:Nat)),.val (.int .i64 (i:Nat))] [] (.tup [fvec ((List.replicate n 0).set i 1),.val (.int .i64 0)]) [] []:=by
 have k1:=v_ZeroM n hn 1001
 have k2:=c_fInt 1 (by decide) (by decide)
 have t1:decide ((i:Int)<0)=false:=decide_eq_false (by omega)
 have t2:decide ((i:Int)≥(n:Int))=false:=decide_eq_false (by omega)
 refine callF (Z:=[]) tabOK mixedOK Tryz.func47 rfl (by kernel_rfl) (by first|rfl|(simp[keylessL,keyless,keylessL_map, *];done)) (by first|rfl|(simp[keylessL,keyless,keylessL_map, *];done)) (by kernel_rfl) rfl ?_
 intro w0 ρ0 hE
 conv=>whnf
 (repeat((first|refine step_w1 rfl rfl ?_|refine step_w2 rfl rfl ?_|refine And.intro (by first|decide|omega|(simp only[tl0,dlen,List.length_replicate,List.length_set,List.length_map,List.length_zipWith,List.length_take,List.length_append,List.length_cons,List.length_nil];omega)) ?_|refine g_c (by assumption) ?_|refine g_cn (by assumption) rfl ?_|refine g_o (op_pickF rfl (ev_ok rfl) (ev_ok rfl)) ?_|rw[bne_self_eq_false]|rw[t1]|rw[t2]|rw[Int.toNat_natCast]|rw[Nat.zero_add]);conv=>whnf));(first|exact Recast.refl _|exact Frz.recast (Recast.refl _) rfl|(refine Frz.one rfl rfl ?_;skip)|(refine Frz.tup ?_;(repeat(first|exact FrzC.keyless rfl|exact FrzL.nil|refine FrzL.cons ?_ ?_|(refine FrzC.fracs rfl ?_;(first|rfl|omega|(simp<;>fail)|(simp<;>omega)))))))
theorem v_UnitE (n i:Int) (hn:fitsF n≠0):CallOK Tryz.prog 47 [.val (.int .i64 n),.val (.int .i64 i)] [] (.tup [fvec [],.val (.int .i64 (fitsF n))]) [] []:=by
 have k1:=v_ZeroE n hn
 have t1:(fitsF n != 0)=true:=bne_iff_ne.2 hn
 refine callF (Z:=[]) tabOK mixedOK Tryz.func47 rfl (by kernel_rfl) (by first|rfl|(simp[keylessL,keyless,keylessL_map, *];done)) (by first|rfl|(simp[keylessL,keyless,keylessL_map, *];done)) (by kernel_rfl) rfl ?_
 intro w0 ρ0 hE
 conv=>whnf
 (repeat(first|(refine step_w1 rfl rfl ?_;conv=>whnf)|(refine g_c (by assumption) ?_;conv=>whnf)|(rw[t1];conv=>whnf)));(first|exact Recast.refl _|exact Frz.recast (Recast.refl _) rfl|(refine Frz.one rfl rfl ?_;skip)|(refine Frz.tup ?_;(repeat(first|exact FrzC.keyless rfl|exact FrzL.nil|refine FrzL.cons ?_ ?_|exact FrzC.nilS))))
theorem v_UnitI (n:Nat) (i:Int) (hn:n≤2048) (hi:i<0∨(n:Int)≤i):CallOK Tryz.prog 47 [.val (.int .i64 (n:Nat)),.val (.int .i64 i)] [] (.tup [fvec [],.val (.int .i64 1)]) [] []:=by
 have k1:=v_Zero n hn
 refine callF (Z:=[]) tabOK mixedOK Tryz.func47 rfl (by kernel_rfl) (by first|rfl|(simp[keylessL,keyless,keylessL_map, *];done)) (by first|rfl|(simp[keylessL,keyless,keylessL_map, *];done)) (by kernel_rfl) rfl ?_
 intro w0 ρ0 hE
 conv=>whnf
 by_cases h1:i<0
 ·have t1:decide (i<0)=true:=decide_eq_true h1
  (repeat((first|refine step_w1 rfl rfl ?_|refine step_w2 rfl rfl ?_|refine g_c (by assumption) ?_|refine g_o (op_pickT rfl (ev_ok rfl) (ev_ok rfl)) ?_|rw[bne_self_eq_false]|rw[t1]);conv=>whnf));(first|exact Recast.refl _|exact Frz.recast (Recast.refl _) rfl|(refine Frz.one rfl rfl ?_;skip)|(refine Frz.tup ?_;(repeat(first|exact FrzC.keyless rfl|exact FrzL.nil|refine FrzL.cons ?_ ?_|exact FrzC.nilS))))
 ·have t1:decide (i<0)=false:=decide_eq_false h1
  have t2:decide (i≥(n:Int))=true:=decide_eq_true (by omega)
  (repeat((first|refine step_w1 rfl rfl ?_|refine step_w2 rfl rfl ?_|refine g_c (by assumption) ?_|refine g_o (op_pickF rfl (ev_ok rfl) (ev_ok rfl)) ?_|rw[bne_self_eq_false]|rw[t1]|rw[t2]);conv=>whnf));(first|exact Recast.refl _|exact Frz.recast (Recast.refl _) rfl|(refine Frz.one rfl rfl ?_;skip)|(refine Frz.tup ?_;(repeat(first|exact FrzC.keyless rfl|exact FrzL.nil|refine FrzL.cons ?_ ?_|exact FrzC.nilS))))
def vmaxF:List Rat→Rat→Rat
 |[],m=>m
 |x::l,m=>vmaxF l (if 0<(rabs x - m).num.sign then rabs x else m)
def vmax (l:List Rat):Rat:=vmaxF l 0
theorem v_Max (l:List Rat) (hl:l.length<1099511627776) (B:Nat) (hB:2≤B) (hB2:B+B≤1073741824) (h:∀i,i<l.length→fs (l.getD i 0)≤B):CallOK Tryz.prog 17 [fvec l] [] (.frac (vmax l)) [] []:=by
 refine callV (Z:=[]) tabOK mixedOK Tryz.func17 rfl (by kernel_rfl) rfl rfl (by kernel_rfl) rfl ?_
 intro W0 w0 ρ0 hE
 conv=>whnf
 (repeat(first|(refine g_o (op_lenM rfl rfl rfl (ev_ok rfl) (tgt rfl) rfl) ?_;conv=>whnf)))
 refine SW_loopN hE (fun k=>k) [0,2,5,6,7] [2] (fun m fr hp=>∃i q,m=l.length - i∧i≤l.length∧vmaxF (l.drop i) q=vmax l∧fs q≤B∧fr=[(0,fvec l),(2,.ptr 2 0 0 0),(5,fvec l),(6,.val (.int .i64 (l.length:Nat))),(7,.val (.int .i64 (i:Nat)))]∧
  hp=[(2,⟨44,true,.one [.frac q]⟩)]) l.length ?_ ?_ ?_
 ·kernel_rfl
 ·exact⟨0,0,rfl,Nat.zero_le _,rfl,by rw[fs_zero];exact hB,rfl,rfl⟩
 rintro m _ _ ⟨i,q,rfl,hi,hv,hq,rfl,rfl⟩
 conv=>whnf
 by_cases hlt:i<l.length
 ·have t1:=dlt hlt
  have t2:=winc (i:=i) (by omega)
  have hx:=h i hlt
  have hd:l.drop i=l.getD i 0::l.drop (i+1):=by rw[List.drop_eq_getElem_cons hlt,List.getD_eq_getElem?_getD,List.getElem?_eq_getElem hlt];rfl
  rw[hd,vmaxF]at hv
  have k1:=f_Abs (l.getD i 0)
  have hb:fs (rabs (l.getD i 0))≤B:=by rw[fs_abs];exact hx
  generalize rabs (l.getD i 0)=x at*
  have k2:=f_Cmp x q (by omega)
  by_cases hc:0<(x - q).num.sign
  ·have t3:decide ((x - q).num.sign>0)=true:=decide_eq_true hc
   rw[if_pos hc]at hv
   (repeat((first|refine step_w1 rfl rfl ?_|refine g_c (by assumption) ?_|refine g_o (op_indexN (α:=Rat) (d:=0) rfl (ev_ok rfl) (ev_ok rfl) (tgt rfl) rfl (tgt rfl) rfl (by omega)) ?_|refine g_o (op_loadA rfl (ev_ok rfl) (tgt rfl) rfl (Nat.succ_ne_zero _) rfl) ?_|rw[t1]|rw[t3]|rw[t2]);conv=>whnf))
   exact⟨l.length - (i+1),fun k=>k,[0,2,5,6,7],[2],by omega,by kernel_rfl,i+1,x,rfl,hlt,hv,hb,rfl,rfl⟩
  ·have t3:decide ((x - q).num.sign>0)=false:=decide_eq_false hc
   rw[if_neg hc]at hv
   (repeat((first|refine step_w1 rfl rfl ?_|refine step_w2 rfl rfl ?_|refine g_c (by assumption) ?_|refine g_o (op_indexN (α:=Rat) (d:=0) rfl (ev_ok rfl) (ev_ok rfl) (tgt rfl) rfl (tgt rfl) rfl (by omega)) ?_|refine g_o (op_loadA rfl (ev_ok rfl) (tgt rfl) rfl (Nat.succ_ne_zero _) rfl) ?_|rw[t1]|rw[t3]|rw[t2]);conv=>whnf))
   exact⟨l.length - (i+1),fun k=>k,[0,2,5,6,7],[2],by omega,by kernel_rfl,i+1,q,rfl,hlt,hv,hq,rfl,rfl⟩
 ·have t1:=dge hlt
  have hI:i=l.length:=by omega
  rw[hI,List.drop_length,vmaxF]at hv
  rw[hv]
  (repeat(first|(refine step_w2 rfl rfl ?_;conv=>whnf)|(rw[t1];conv=>whnf)));(first|exact Recast.refl _|exact Frz.recast (Recast.refl _) rfl|(refine Frz.one rfl rfl ?_;skip)|(refine Frz.tup ?_;skip))
theorem q_guard:Tryz.prog.eqGuardType Tryz.prog.depth 44=false:=by kernel_rfl
theorem q_same (a b:Rat):eqTy tab good 10 44 (fracCells a) (fracCells b)=some (decide (a=b)):=by
 have e:eqTy tab good 10 44 (fracCells a) (fracCells b)=some (((((low a.num.natAbs==low b.num.natAbs)&&(((big a.num.natAbs).toList==(big b.num.natAbs).toList)&&true))&&true)&&((decide (a.num<0)==decide (b.num<0))&&true))&&
  (((low (a.den - 1)==low (b.den - 1))&&(((big (a.den - 1)).toList==(big (b.den - 1)).toList)&&true))&&true)):=rfl
 rw[e]
 simp only[Bool.and_true]
 rw[nat_eq_iff,nat_eq_iff]
 congr 1
 rw[Bool.eq_iff_iff]
 simp only[Bool.and_eq_true,decide_eq_true_eq,beq_iff_eq,decide_eq_decide]
 have h1:=a.den_pos
 have h2:=b.den_pos
 constructor
 ·rintro⟨⟨h3,h4⟩,h5⟩
  exact Rat.ext (by omega) (by omega)
 ·rintro rfl
  exact⟨⟨rfl,Iff.rfl⟩,rfl⟩
theorem v_Equal (a b:List Rat) (ha:a.length<1099511627776) (hb:b.length<1099511627776):CallOK Tryz.prog 76 [fvec a,fvec b] [] (.val (.bool (decide (a=b)))) [] []:=by
 refine callV (Z:=[]) tabOK mixedOK Tryz.func76 rfl (by kernel_rfl) rfl rfl (by kernel_rfl) rfl ?_
 intro W0 w0 ρ0 hE
 conv=>whnf
 by_cases hab:a.length=b.length
 ·have t0:((a.length:Int) != (b.length:Int))=false:=by rw[hab];exact bne_self_eq_false _
  (repeat(first|(refine step_w2 rfl rfl ?_;conv=>whnf)|(refine g_o (op_lenM rfl rfl rfl (ev_ok rfl) (tgt rfl) rfl) ?_;conv=>whnf)|(rw[t0];conv=>whnf)))
  refine SW_loopN hE (fun k=>k) [0,1,4,11,12,13] [] (fun m fr hp=>∃i,m=a.length - i∧i≤a.length∧a.take i=b.take i∧fr=[(0,fvec a),(1,fvec b),(4,.val (.bool false)),(11,fvec a),(12,.val (.int .i64 (a.length:Nat))),(13,.val (.int .i64 (i:Nat)))]∧hp=[]) a.length ?_ ?_ ?_
  ·kernel_rfl
  ·exact⟨0,rfl,Nat.zero_le _,rfl,rfl,rfl⟩
  rintro m _ _ ⟨i,rfl,hi,ht,rfl,rfl⟩
  conv=>whnf
  by_cases hlt:i<a.length
  ·have t1:=dlt hlt
   have t2:=winc (i:=i) (by omega)
   by_cases hv:a.getD i 0=b.getD i 0
   ·have t3:(!decide (a.getD i 0=b.getD i 0))=false:=by rw[decide_eq_true hv];rfl
    (repeat((first|refine step_w1 rfl rfl ?_|refine step_w2 rfl rfl ?_|refine step_i (by kernel_rfl) ?_|refine g_o (op_indexN (α:=Rat) (d:=0) rfl (ev_ok rfl) (ev_ok rfl) (tgt rfl) rfl (tgt rfl) rfl (by omega)) ?_|refine g_o (op_loadA rfl (ev_ok rfl) (tgt rfl) rfl (Nat.succ_ne_zero _) rfl) ?_|refine⟨_,op_neAgg tabOK goodOK rfl (ev_ok rfl) (ev_ok rfl) rfl rfl rfl rfl (q_same _ _) q_guard, ?_⟩|rw[t1]|rw[t3]|rw[t2]);conv=>whnf))
    exact⟨a.length - (i+1),fun k=>k,[0,1,4,11,12,13],[],by omega,by kernel_rfl,i+1,rfl,hlt,by rw[take_snoc a i hlt,take_snoc b i (by omega),ht,hv],rfl,rfl⟩
   ·have t3:(!decide (a.getD i 0=b.getD i 0))=true:=by rw[decide_eq_false hv];rfl
    have e:decide (a=b)=false:=decide_eq_false (fun h=>hv (by rw[h]))
    rw[e]
    (repeat((first|refine step_w1 rfl rfl ?_|refine step_i (by kernel_rfl) ?_|refine g_o (op_indexN (α:=Rat) (d:=0) rfl (ev_ok rfl) (ev_ok rfl) (tgt rfl) rfl (tgt rfl) rfl (by omega)) ?_|refine g_o (op_loadA rfl (ev_ok rfl) (tgt rfl) rfl (Nat.succ_ne_zero _) rfl) ?_|refine⟨_,op_neAgg tabOK goodOK rfl (ev_ok rfl) (ev_ok rfl) rfl rfl rfl rfl (q_same _ _) q_guard, ?_⟩|rw[t1]|rw[t3]);conv=>whnf));(first|exact Recast.refl _|exact Frz.recast (Recast.refl _) rfl|(refine Frz.one rfl rfl ?_;skip)|(refine Frz.tup ?_;skip))
  ·have t1:=dge hlt
   have hI:i=a.length:=by omega
   have e:decide (a=b)=true:=decide_eq_true (by rw[hI,List.take_length]at ht;rw[ht,hab,List.take_length])
   rw[e]
   (repeat(first|(refine step_w2 rfl rfl ?_;conv=>whnf)|(rw[t1];conv=>whnf)));(first|exact Recast.refl _|exact Frz.recast (Recast.refl _) rfl|(refine Frz.one rfl rfl ?_;skip)|(refine Frz.tup ?_;skip))
 ·have t0:((a.length:Int) != (b.length:Int))=true:=bne_iff_ne.2 (by omega)
  have e:decide (a=b)=false:=decide_eq_false (fun h=>hab (by rw[h]))
  rw[e]
  (repeat(first|(refine step_w1 rfl rfl ?_;conv=>whnf)|(refine g_o (op_lenM rfl rfl rfl (ev_ok rfl) (tgt rfl) rfl) ?_;conv=>whnf)|(rw[t0];conv=>whnf)));(first|exact Recast.refl _|exact Frz.recast (Recast.refl _) rfl|(refine Frz.one rfl rfl ?_;skip)|(refine Frz.tup ?_;skip))
theorem v_Same (a b:List Rat) (ha:a.length<1099511627776) (hb:b.length<1099511627776):CallOK Tryz.prog 36 [fvec a,fvec b] [] (.val (.bool (decide (a=b)))) [] []:=by
 have k1:=v_Equal a b ha hb
 refine callV (Z:=[]) tabOK mixedOK Tryz.func36 rfl (by kernel_rfl) rfl rfl (by kernel_rfl) rfl ?_
 intro W0 w0 ρ0 hE
 conv=>whnf
 (repeat(first|(refine g_c (by assumption) ?_;conv=>whnf)));(first|exact Recast.refl _|exact Frz.recast (Recast.refl _) rfl|(refine Frz.one rfl rfl ?_;skip)|(refine Frz.tup ?_;skip))
end Go.Proofs.YtjofnbpcanhfhabGreatDoor
namespace Go.Proofs.YtjofnbpcanhfhabGreatDoor
open Go.Sx
set_option linter.unusedSimpArgs false
set_option linter.unusedVariables false
set_option maxRecDepth 100000
set_option maxHeartbeats 4000000
def ofInts (l:List Int):List Rat:=l.map fun(n:Int)=>((n:Int):Rat)
theorem map_get {α β:Type} {f:α→β} {l:List α} {i:Nat} {d:α} {e:β} (h:i<l.length):(l.map f).getD i e=f (l.getD i d):=by
 simp[List.getD_eq_getElem?_getD,List.getElem?_eq_getElem h]
theorem v_Of (l:List Int) (hl:l.length<1099511627776) (h:∀i,i<l.length→ -9223372036854775808≤l.getD i 0∧l.getD i 0<9223372036854775808):CallOK Tryz.prog 56 [ivec .i64 l] [] (fvec (ofInts l)) [] []:=by
 refine callF (Z:=[]) tabOK mixedOK Tryz.func56 rfl (by kernel_rfl) (by first|rfl|(simp[keylessL,keyless,keylessL_map, *];done)) (by first|rfl|(simp[keylessL,keyless,keylessL_map, *];done)) (by kernel_rfl) rfl ?_
 intro w0 ρ0 hE
 conv=>whnf
 (repeat(first|(refine And.intro (by first|decide|omega|(simp only[tl0,dlen,List.length_replicate,List.length_set,List.length_map,List.length_zipWith,List.length_take,List.length_append,List.length_cons,List.length_nil];omega)) ?_;conv=>whnf)|(refine g_o (op_lenM rfl rfl rfl (ev_ok rfl) (tgt rfl) rfl) ?_;conv=>whnf)|(rw[Int.toNat_natCast];conv=>whnf)))
 have hz:(ofInts l).length=l.length:=by simp[ofInts]
 refine SW_loopN hE (fun k=>k) [0,2,3,9,10] [7] (fun m fr hp=>∃i,m=l.length - i∧i≤l.length∧fr=[(0,ivec .i64 l),(2,.val (.slice none 0 0)),(3,.slc 7 5 0 l.length),(9,.val (.int .i64 (l.length:Nat))),(10,.val (.int .i64 (i:Nat)))]∧
  hp=[(7,⟨44,true,.fracs ((ofInts l).take i++List.replicate (l.length - i) 0)⟩)]) l.length ?_ ?_ ?_
 ·kernel_rfl
 ·exact⟨0,rfl,Nat.zero_le _,rfl,rfl⟩
 rintro m _ _ ⟨i,rfl,hi,rfl,rfl⟩
 conv=>whnf
 have hlen:=fill_len (d:=(0:Rat)) hi hz
 by_cases hlt:i<l.length
 ·have t1:=dlt hlt
  have t2:=winc (i:=i) (by omega)
  obtain⟨b1,b2⟩:=h i hlt
  have k1:=c_fInt (l.getD i 0) b1 b2
  rw[←map_get (f:=fun(n:Int)=>((n:Int):Rat)) (e:=0) hlt]at k1
  (repeat((first|refine step_w1 rfl rfl ?_|refine And.intro (by first|decide|omega|(simp only[tl0,dlen,List.length_replicate,List.length_set,List.length_map,List.length_zipWith,List.length_take,List.length_append,List.length_cons,List.length_nil];omega)) ?_|refine g_c (by assumption) ?_|refine g_o (op_loadA rfl (ev_ok rfl) (tgt rfl) rfl (Nat.succ_ne_zero _) rfl) ?_|refine g_o (op_indexN (α:=Int) (d:=0) rfl (ev_ok rfl) (ev_ok rfl) (tgt rfl) rfl (tgt rfl) rfl (by omega)) ?_|rw[t1]|rw[t2]|rw[Int.toNat_natCast]|rw[Nat.zero_add]);conv=>whnf))
  refine⟨l.length - (i+1),fun k=>k,[0,2,3,9,10],[7],by omega,by kernel_rfl,i+1,rfl,hlt,rfl, ?_⟩
  rw[←fill_set (e:=0) hlt hz]
  rfl
 ·have t1:=dge hlt
  have hI:i=l.length:=by omega
  subst hI
  rw[fill_all hz]
  (repeat(first|(refine step_w2 rfl rfl ?_;conv=>whnf)|(rw[t1];conv=>whnf)));(first|exact Recast.refl _|exact Frz.recast (Recast.refl _) rfl|(refine Frz.one rfl rfl ?_;(repeat(first|(refine FrzC.fracs rfl ?_;(first|rfl|omega|(simp<;>fail)|(simp<;>omega))))))|(refine Frz.tup ?_;skip))
def vpart (a:List Rat) (p:List Int):List Rat:=p.map fun i=>a.getD i.toNat 0
theorem v_Part (a:List Rat) (p:List Int) (ha:a.length≤2048) (hp:p.length≤2048) (h:∀i,i<p.length→0≤p.getD i 0∧p.getD i 0<a.length):CallOK Tryz.prog 15 [fvec a,ivec .i64 p] [] (.tup [fvec (vpart a p),.val (.int .i64 0)]) [] []:=by
 have t0:decide ((if (p.length:Int)>(a.length:Int)then(p.length:Int)else(a.length:Int))>2048)=false:=decide_eq_false (by split<;>omega)
 refine callF (Z:=[]) tabOK mixedOK Tryz.func15 rfl (by kernel_rfl) (by first|rfl|(simp[keylessL,keyless,keylessL_map, *];done)) (by first|rfl|(simp[keylessL,keyless,keylessL_map, *];done)) (by kernel_rfl) rfl ?_
 intro w0 ρ0 hE
 conv=>whnf
 (repeat((first|refine step_w2 rfl rfl ?_|refine And.intro (by first|decide|omega|(simp only[tl0,dlen,List.length_replicate,List.length_set,List.length_map,List.length_zipWith,List.length_take,List.length_append,List.length_cons,List.length_nil];omega)) ?_|refine g_o (op_lenM rfl rfl rfl (ev_ok rfl) (tgt rfl) rfl) ?_|rw[t0]|rw[Int.toNat_natCast]);conv=>whnf))
 have hz:(vpart a p).length=p.length:=by simp[vpart]
 refine SW_loopN hE (fun k=>k) [0,1,4,5,6,18,19,20] [17] (fun m fr hp=>∃i,m=p.length - i∧i≤p.length∧fr=[(0,fvec a),(1,ivec .i64 p),(4,.val (.slice none 0 0)),(5,.val (.int .i64 0)),(6,.slc 17 5 0 p.length),(18,ivec .i64 p),(19,.val (.int .i64 (p.length:Nat))),(20,.val (.int .i64 (i:Nat)))]∧
  hp=[(17,⟨44,true,.fracs ((vpart a p).take i++List.replicate (p.length - i) 0)⟩)]) p.length ?_ ?_ ?_
 ·kernel_rfl
 ·exact⟨0,rfl,Nat.zero_le _,rfl,rfl⟩
 rintro m _ _ ⟨i,rfl,hi,rfl,rfl⟩
 conv=>whnf
 have hlen:=fill_len (d:=(0:Rat)) hi hz
 by_cases hlt:i<p.length
 ·have t1:=dlt hlt
  have t2:=winc (i:=i) (by omega)
  obtain⟨b1,b2⟩:=h i hlt
  have e1:a.getD (p.getD i 0).toNat 0=(vpart a p).getD i 0:=(map_get (f:=fun(i:Int)=>a.getD i.toNat 0) hlt).symm
  have t3:decide (p.getD i 0<0)=false:=decide_eq_false (by omega)
  have t4:decide (p.getD i 0≥(a.length:Int))=false:=decide_eq_false (by omega)
  (repeat((first|refine step_w1 rfl rfl ?_|refine step_w2 rfl rfl ?_|refine And.intro (by first|decide|omega|(simp only[tl0,dlen,List.length_replicate,List.length_set,List.length_map,List.length_zipWith,List.length_take,List.length_append,List.length_cons,List.length_nil];omega)) ?_|refine g_o (op_pickF rfl (ev_ok rfl) (ev_ok rfl)) ?_|refine g_o (op_lenM rfl rfl rfl (ev_ok rfl) (tgt rfl) rfl) ?_|refine g_o (op_loadA rfl (ev_ok rfl) (tgt rfl) rfl (Nat.succ_ne_zero _) rfl) ?_|refine g_o (op_indexN (α:=Int) (d:=0) rfl (ev_ok rfl) (ev_ok rfl) (tgt rfl) rfl (tgt rfl) rfl (by omega)) ?_|refine g_o (op_indexM (α:=Rat) (d:=0) rfl (ev_ok rfl) (ev_ok rfl) (tgt rfl) rfl (tgt rfl) rfl (by omega)) ?_|rw[t1]|rw[t3]|rw[t4]|rw[e1]|rw[t2]|rw[Int.toNat_natCast]|rw[Nat.zero_add]);conv=>whnf))
  refine⟨p.length - (i+1),fun k=>k,[0,1,4,5,6,18,19,20],[17],by omega,by kernel_rfl,i+1,rfl,hlt,rfl, ?_⟩
  rw[←fill_set (e:=0) hlt hz]
  rfl
 ·have t1:=dge hlt
  have hI:i=p.length:=by omega
  subst hI
  rw[fill_all hz]
  (repeat(first|(refine step_w2 rfl rfl ?_;conv=>whnf)|(rw[t1];conv=>whnf)));(first|exact Recast.refl _|exact Frz.recast (Recast.refl _) rfl|(refine Frz.one rfl rfl ?_;skip)|(refine Frz.tup ?_;(repeat(first|exact FrzC.keyless rfl|exact FrzL.nil|refine FrzL.cons ?_ ?_|(refine FrzC.fracs rfl ?_;(first|rfl|omega|(simp<;>fail)|(simp<;>omega)))))))
theorem alike_zero {ls:List (List Rat)} {n:Nat} (hl:∀v∈ls,v.length=n) (hn2:n≤2048):alikeF ls=0:=by
 rw[alikeF,if_neg,if_pos]
 ·refine List.all_eq_true.2 fun v hv=> ?_
  rw[hl v hv]
  cases ls with
  |nil=>cases hv
  |cons x l=>rw[List.headD_cons,hl x (List.mem_cons_self ..)];exact beq_self_eq_true _
 ·rw[Bool.not_eq_true,List.any_eq_false]
  intro v hv
  rw[hl v hv]
  simp;omega
def sumN (ls:List (List Rat)) (n:Nat):Nat→List Rat
 |0=>List.replicate n 0
 |i+1=>vadd (sumN ls n i) (ls.getD i [])
theorem sumN_len {ls:List (List Rat)} {n:Nat} (hl:∀v∈ls,v.length=n):∀i,i≤ls.length→(sumN ls n i).length=n
 |0,_=>by simp[sumN]
 |i+1,h=>by
  have h1:=sumN_len hl i (by omega)
  have h2:=hl _ (getD_mem (d:=[]) (show i<ls.length by omega))
  rw[sumN];exact zip_len h1 h2
theorem sumN_fs {ls:List (List Rat)} {n B:Nat} (hl:∀v∈ls,v.length=n) (hb:∀v∈ls,∀k,k<n→fs (v.getD k 0)≤B):∀i,i≤ls.length→∀k,k<n→fs ((sumN ls n i).getD k 0)≤2+i*B
 |0,_,k,hk=>by
  have:(List.replicate n (0:Rat)).getD k 0=0:=by simp[List.getD_eq_getElem?_getD,hk]
  rw[sumN,this,fs_zero];omega
 |i+1,h,k,hk=>by
  have h1:=sumN_fs hl hb i (by omega) k hk
  have hm:=getD_mem (d:=[]) (show i<ls.length by omega)
  have h2:=hb _ hm k hk
  have h3:=sumN_len hl i (by omega)
  rw[sumN,zip_get (d1:=0) (d2:=0) (by omega) (by rw[hl _ hm];exact hk)]
  have:=fs_add ((sumN ls n i).getD k 0) ((ls.getD i []).getD k 0)
  rw[Nat.succ_mul];omega
theorem v_Sum (ls:List (List Rat)) (n B:Nat) (hn:ls.length<1048576) (h0:ls≠[]) (hl:∀v∈ls,v.length=n) (hn2:n≤2048) (hb:∀v∈ls,∀k,k<n→fs (v.getD k 0)≤B) (hB:2+ls.length*B+B≤1073741824):
  CallOK Tryz.prog 49 [mvec 1 fvec ls] [] (.tup [fvec (sumN ls n ls.length),.val (.int .i64 0)]) [] []:=by
 have ka:=v_alike ls (by omega) (fun v hv=>by rw[hl v hv];omega)
 rw[alike_zero hl hn2]at ka
 have hpos:0<ls.length:=List.length_pos_iff.2 h0
 have t0:((ls.length:Int)==0)=false:=beq_false_of_ne (by omega)
 have hlen0:=hl _ (getD_mem (d:=[]) hpos)
 have t9:(((ls.getD 0 []).length:Nat):Int)=(n:Int):=by rw[hlen0]
 refine callF (Z:=[]) tabOK mixedOK Tryz.func49 rfl (by kernel_rfl) (by first|rfl|(simp[keylessL,keyless,keylessL_map, *];done)) (by first|rfl|(simp[keylessL,keyless,keylessL_map, *];done)) (by kernel_rfl) rfl ?_
 intro w0 ρ0 hE
 conv=>whnf
 (repeat((first|refine step_w1 rfl rfl ?_|refine step_w2 rfl rfl ?_|refine And.intro (by first|decide|omega|(simp only[tl0,dlen,List.length_replicate,List.length_set,List.length_map,List.length_zipWith,List.length_take,List.length_append,List.length_cons,List.length_nil];omega)) ?_|refine g_c (by assumption) ?_|refine g_o (op_pickF rfl (ev_ok rfl) (ev_ok rfl)) ?_|rw[bne_self_eq_false]|refine g_o (op_lenM rfl rfl rfl (ev_ok rfl) (tgt rfl) rfl) ?_|refine g_o (op_loadA rfl (ev_ok rfl) (tgt rfl) rfl (Nat.succ_ne_zero _) rfl) ?_|refine g_o (op_indexN (α:=List Rat) (d:=[]) rfl (ev_ok rfl) (ev_ok rfl) (tgt rfl) rfl (tgt rfl) rfl (by omega)) ?_|rw[t0]|rw[t9]|rw[Int.toNat_natCast]);conv=>whnf))
 refine SWx_freezeF 2 21 (fun _ h=>h) rfl rfl (by simp) ?_
 refine SW_loopN hE (fun k=>k) [0,2,3,4,22,23,24] [] (fun m fr hp=>∃i,m=ls.length - i∧i≤ls.length∧fr=[(0,mvec 1 fvec ls),(2,fvec (sumN ls n i)),(3,.val (.int .i64 0)),(4,.val (.int .i64 0)),(22,mvec 1 fvec ls),(23,.val (.int .i64 (ls.length:Nat))),(24,.val (.int .i64 (i:Nat)))]∧hp=[]) ls.length ?_ ?_ ?_
 ·kernel_rfl
 ·exact⟨0,rfl,Nat.zero_le _,rfl,rfl⟩
 rintro m _ _ ⟨i,rfl,hi,rfl,rfl⟩
 conv=>whnf
 by_cases hlt:i<ls.length
 ·have t1:=dlt hlt
  have t2:=winc (i:=i) (by omega)
  have hm:=getD_mem (d:=[]) hlt
  have h3:=sumN_len hl i hi
  have hi2:i*B≤ls.length*B:=Nat.mul_le_mul_right _ hi
  have k1:=v_Add (sumN ls n i) (ls.getD i []) (by rw[h3,hl _ hm]) (by omega) (fun k hk=>by
   have h1:=sumN_fs hl hb i hi k (by omega)
   have h2:=hb _ hm k (by omega)
   omega)
  (repeat((first|refine step_w1 rfl rfl ?_|refine g_c (by assumption) ?_|refine g_o (op_loadA rfl (ev_ok rfl) (tgt rfl) rfl (Nat.succ_ne_zero _) rfl) ?_|refine g_o (op_indexN (α:=List Rat) (d:=[]) rfl (ev_ok rfl) (ev_ok rfl) (tgt rfl) rfl (tgt rfl) rfl (by omega)) ?_|rw[t1]|rw[t2]);conv=>whnf))
  exact⟨ls.length - (i+1),fun k=>k,[0,2,3,4,22,23,24],[],by omega,by kernel_rfl,i+1,rfl,hlt,rfl,rfl⟩
 ·have t1:=dge hlt
  have hI:i=ls.length:=by omega
  subst hI
  (repeat(first|(refine step_w2 rfl rfl ?_;conv=>whnf)|(rw[t1];conv=>whnf)));(first|exact Recast.refl _|exact Frz.recast (Recast.refl _) rfl|(refine Frz.one rfl rfl ?_;skip)|(refine Frz.tup ?_;skip))
def mixN (c:List Rat) (ls:List (List Rat)) (n:Nat):Nat→List Rat
 |0=>List.replicate n 0
 |i+1=>vaxpy (c.getD i 0) (ls.getD i []) (mixN c ls n i)
theorem mixN_len {c:List Rat} {ls:List (List Rat)} {n:Nat} (hl:∀v∈ls,v.length=n):∀i,i≤ls.length→(mixN c ls n i).length=n
 |0,_=>by simp[mixN]
 |i+1,h=>by
  have h1:=mixN_len (c:=c) hl i (by omega)
  have h2:=hl _ (getD_mem (d:=[]) (show i<ls.length by omega))
  rw[mixN];exact zip_len h2 h1
theorem mixN_fs {c:List Rat} {ls:List (List Rat)} {n B:Nat} (hc:c.length=ls.length) (hl:∀v∈ls,v.length=n) (hb:∀v∈ls,∀k,k<n→fs (v.getD k 0)≤B) (hcb:∀q∈c,fs q≤B):∀i,i≤ls.length→∀k,k<n→fs ((mixN c ls n i).getD k 0)≤2+i*(B+B)
 |0,_,k,hk=>by
  have:(List.replicate n (0:Rat)).getD k 0=0:=by simp[List.getD_eq_getElem?_getD,hk]
  rw[mixN,this,fs_zero];omega
 |i+1,h,k,hk=>by
  have h1:=mixN_fs hc hl hb hcb i (by omega) k hk
  have hm:=getD_mem (d:=[]) (show i<ls.length by omega)
  have hmc:=hcb _ (getD_mem (d:=0) (show i<c.length by omega))
  have h2:=hb _ hm k hk
  have h3:=mixN_len (c:=c) hl i (by omega)
  rw[mixN,zip_get (d1:=0) (d2:=0) (by rw[hl _ hm];exact hk) (by omega)]
  have h4:=fs_add (c.getD i 0*(ls.getD i []).getD k 0) ((mixN c ls n i).getD k 0)
  have h5:=fs_mul (c.getD i 0) ((ls.getD i []).getD k 0)
  rw[Nat.succ_mul];omega
theorem v_Mix (c:List Rat) (ls:List (List Rat)) (n B:Nat) (hc:c.length=ls.length) (hn:ls.length<1048576) (h0:ls≠[]) (hl:∀v∈ls,v.length=n) (hn2:n≤2048) (hb:∀v∈ls,∀k,k<n→fs (v.getD k 0)≤B) (hcb:∀q∈c,fs q≤B)
  (hB:2+ls.length*(B+B)+(B+B)≤1073741824):CallOK Tryz.prog 14 [fvec c,mvec 1 fvec ls] [] (.tup [fvec (mixN c ls n ls.length),.val (.int .i64 0)]) [] []:=by
 have ka:=v_alike ls (by omega) (fun v hv=>by rw[hl v hv];omega)
 rw[alike_zero hl hn2]at ka
 have hpos:0<ls.length:=List.length_pos_iff.2 h0
 have t0:((ls.length:Int)==0)=false:=beq_false_of_ne (by omega)
 have t1:((c.length:Int) != (ls.length:Int))=false:=by rw[hc];exact bne_self_eq_false _
 have hlen0:=hl _ (getD_mem (d:=[]) hpos)
 have t9:(((ls.getD 0 []).length:Nat):Int)=(n:Int):=by rw[hlen0]
 refine callF (Z:=[]) tabOK mixedOK Tryz.func14 rfl (by kernel_rfl) (by first|rfl|(simp[keylessL,keyless,keylessL_map, *];done)) (by first|rfl|(simp[keylessL,keyless,keylessL_map, *];done)) (by kernel_rfl) rfl ?_
 intro w0 ρ0 hE
 conv=>whnf
 (repeat((first|refine step_w1 rfl rfl ?_|refine step_w2 rfl rfl ?_|refine And.intro (by first|decide|omega|(simp only[tl0,dlen,List.length_replicate,List.length_set,List.length_map,List.length_zipWith,List.length_take,List.length_append,List.length_cons,List.length_nil];omega)) ?_|refine g_c (by assumption) ?_|refine g_o (op_pickF rfl (ev_ok rfl) (ev_ok rfl)) ?_|rw[bne_self_eq_false]|refine g_o (op_lenM rfl rfl rfl (ev_ok rfl) (tgt rfl) rfl) ?_|refine g_o (op_loadA rfl (ev_ok rfl) (tgt rfl) rfl (Nat.succ_ne_zero _) rfl) ?_|refine g_o (op_indexN (α:=List Rat) (d:=[]) rfl (ev_ok rfl) (ev_ok rfl) (tgt rfl) rfl (tgt rfl) rfl (by omega)) ?_|rw[t0]|rw[t1]|rw[t9]|rw[Int.toNat_natCast]);conv=>whnf))
 refine SWx_freezeF 7 34 (fun _ h=>h) rfl rfl (by simp) ?_
 refine SW_loopN hE (fun k=>k) [0,1,4,5,7,36,37] [] (fun m fr hp=>∃i,m=ls.length - i∧i≤ls.length∧fr=[(0,fvec c),(1,mvec 1 fvec ls),(4,.val (.slice none 0 0)),(5,.val (.int .i64 0)),(7,fvec (mixN c ls n i)),(36,.val (.int .i64 (ls.length:Nat))),(37,.val (.int .i64 (i:Nat)))]∧hp=[]) ls.length ?_ ?_ ?_
 ·kernel_rfl
 ·exact⟨0,rfl,Nat.zero_le _,rfl,rfl⟩
 rintro m _ _ ⟨i,rfl,hi,rfl,rfl⟩
 conv=>whnf
 by_cases hlt:i<ls.length
 ·have t1:=dlt hlt
  have t2:=winc (i:=i) (by omega)
  have hm:=getD_mem (d:=[]) hlt
  have hmc:=hcb _ (getD_mem (d:=0) (show i<c.length by omega))
  have h3:=mixN_len (c:=c) hl i hi
  have hi2:i*(B+B)≤ls.length*(B+B):=Nat.mul_le_mul_right _ hi
  have k1:=v_Axpy (c.getD i 0) (ls.getD i []) (mixN c ls n i) (by rw[h3,hl _ hm]) (by rw[hl _ hm];omega) (fun k hk=>by
   rw[hl _ hm]at hk
   have h1:=mixN_fs hc hl hb hcb i hi k (by omega)
   have h2:=hb _ hm k (by omega)
   omega)
  (repeat((first|refine step_w1 rfl rfl ?_|refine step_i (by kernel_rfl) ?_|refine g_c (by assumption) ?_|refine g_o (op_indexN (α:=Rat) (d:=0) rfl (ev_ok rfl) (ev_ok rfl) (tgt rfl) rfl (tgt rfl) rfl (by omega)) ?_|refine g_o (op_loadA rfl (ev_ok rfl) (tgt rfl) rfl (Nat.succ_ne_zero _) rfl) ?_|refine g_o (op_indexN (α:=List Rat) (d:=[]) rfl (ev_ok rfl) (ev_ok rfl) (tgt rfl) rfl (tgt rfl) rfl (by omega)) ?_|rw[t1]|rw[t2]);conv=>whnf))
  exact⟨ls.length - (i+1),fun k=>k,[0,1,4,5,7,36,37],[],by omega,by kernel_rfl,i+1,rfl,hlt,rfl,rfl⟩
 ·have t1:=dge hlt
  have hI:i=ls.length:=by omega
  subst hI
  (repeat(first|(refine step_w2 rfl rfl ?_;conv=>whnf)|(rw[t1];conv=>whnf)));(first|exact Recast.refl _|exact Frz.recast (Recast.refl _) rfl|(refine Frz.one rfl rfl ?_;skip)|(refine Frz.tup ?_;skip))
end Go.Proofs.YtjofnbpcanhfhabGreatDoor
namespace Go.Proofs
open Go.Shelf
def Tryz.lays156_ren:Go.Shelf.Ren:=⟨fun|156=>89|165=>122|166=>123|169=>124|240=>146|241=>147|276=>161|277=>162|n=>n,fun|31=>124|9=>9|3=>3|4=>4|0=>0|20=>20|72=>160|76=>164|70=>157|37=>158|75=>163|127=>185|164=>198|5=>5|80=>166|n=>n,fun|n=>n⟩
theorem Tryz.lays156:Go.Proofs.Lays.n156 Tryz.prog Tryz.lays156_ren:={
 mixed:=by kernel_rfl
 f156:=Tryz.func89.trans (congrArg some (by kernel_rfl))
 f165:=Tryz.func122.trans (congrArg some (by kernel_rfl))
 f166:=Tryz.func123.trans (congrArg some (by kernel_rfl))
 f169:=Tryz.func124.trans (congrArg some (by kernel_rfl))
 f240:=Tryz.func146.trans (congrArg some (by kernel_rfl))
 f241:=Tryz.func147.trans (congrArg some (by kernel_rfl))
 f276:=Tryz.func161.trans (congrArg some (by kernel_rfl))
 f277:=Tryz.func162.trans (congrArg some (by kernel_rfl))
 t0:=Tryz.underlying0
 a0:=Tryz.isAgg0
 z0:=Tryz.sizeOf0
 v0:=Tryz.zeroValue0
 t3:=Tryz.underlying3
 a3:=Tryz.isAgg3
 z3:=Tryz.sizeOf3
 v3:=Tryz.zeroValue3
 t4:=Tryz.underlying4
 a4:=Tryz.isAgg4
 z4:=Tryz.sizeOf4
 v4:=Tryz.zeroValue4
 t9:=Tryz.underlying9
 a9:=Tryz.isAgg9
 z9:=Tryz.sizeOf9
 v9:=Tryz.zeroValue9
 t20:=Tryz.underlying20
 a20:=Tryz.isAgg20
 z20:=Tryz.sizeOf20
 v20:=Tryz.zeroValue20
 t31:=Tryz.underlying124
 a31:=Tryz.isAgg124
 z31:=Tryz.sizeOf124
 v31:=Tryz.zeroValue124
 t37:=Tryz.underlying158
 a37:=Tryz.isAgg158
 z37:=Tryz.sizeOf158
 v37:=Tryz.zeroValue158
 t70:=Tryz.underlying157
 a70:=Tryz.isAgg157
 z70:=Tryz.sizeOf157
 v70:=Tryz.zeroValue157
 t72:=Tryz.underlying160
 a72:=Tryz.isAgg160
 z72:=Tryz.sizeOf160
 v72:=Tryz.zeroValue160
 t75:=Tryz.underlying163
 a75:=Tryz.isAgg163
 z75:=Tryz.sizeOf163
 v75:=Tryz.zeroValue163
 t76:=Tryz.underlying164
 a76:=Tryz.isAgg164
 z76:=Tryz.sizeOf164
 v76:=Tryz.zeroValue164
 t127:=Tryz.underlying185
 a127:=Tryz.isAgg185
 z127:=Tryz.sizeOf185
 v127:=Tryz.zeroValue185
 t164:=Tryz.underlying198
 a164:=Tryz.isAgg198
 z164:=Tryz.sizeOf198
 v164:=Tryz.zeroValue198}
theorem Tryz.Builder_Extra_156:Builder.Extra Tryz.prog Tryz.lays156_ren:={
 sizeBuilder:=by kernel_rfl
 liesBuilder:=by kernel_rfl
 t5:=Tryz.underlying5
 a5:=Tryz.isAgg5
 z5:=Tryz.sizeOf5
 v5:=Tryz.zeroValue5
 infoByte:=by kernel_rfl
 cellsByte:=by kernel_rfl
 sizeByte:=by kernel_rfl
 neB5:=by decide}
open Go.RowKit in
theorem Tryz.strings_Join_none (a:Option Addr) (c:Nat) (sep:ByteArray) (w:World):
  Calls Tryz.prog 89 #[.slice a 0 c,.string sep] w fun e w'=>e= .returned (.string ⟨#[]⟩)∧w'=w:=Any.strings_Join_none Tryz.lays156 Tryz.Builder_Extra_156 a c sep w
open Go.RowKit in
/-- strings.Join: "Join concatenates the elements of its first argument to create a single string. The separator string sep is placed between elements in the resulting string.": HOWEVER MANY ELEMENTS. Below the heap's end the world is as it was. (LAID: no walk: one application.) -/
theorem Tryz.strings_Join (bk o c:Nat) (xs:List ByteArray) (sep:ByteArray) (w:World) (hcells:∀(j:Nat) x,xs[j]? =some x→w.cell? ⟨bk,o+j,none⟩=some (.string x)) (hbk:bk<w.heap.size) (hN:xs.length≤140737488355328) (hcap:xs.length≤c) (hlen:(Lib.join (xs.map (·.data.toList)) sep.data.toList).length≤140737488355328):
  Calls Tryz.prog 89 #[.slice (some ⟨bk,o,none⟩) xs.length c,.string sep] w fun e w'=>e= .returned (.string ⟨(Lib.join (xs.map (·.data.toList)) sep.data.toList).toArray⟩)∧Below w.heap.size w w':=Any.strings_Join Tryz.lays156 Tryz.Builder_Extra_156 bk o c xs sep w hcells hbk hN hcap hlen
def Tryz.lays283_ren:Go.Shelf.Ren:=⟨fun|283=>149|n=>n,fun|3=>3|9=>9|4=>4|n=>n,fun|n=>n⟩
theorem Tryz.lays283:Go.Proofs.Lays.n283 Tryz.prog Tryz.lays283_ren:={
 mixed:=by kernel_rfl
 f283:=Tryz.func149.trans (congrArg some (by kernel_rfl))
 t3:=Tryz.underlying3
 a3:=Tryz.isAgg3
 z3:=Tryz.sizeOf3
 v3:=Tryz.zeroValue3
 t4:=Tryz.underlying4
 a4:=Tryz.isAgg4
 z4:=Tryz.sizeOf4
 v4:=Tryz.zeroValue4
 t9:=Tryz.underlying9
 a9:=Tryz.isAgg9
 z9:=Tryz.sizeOf9
 v9:=Tryz.zeroValue9}
open Go.Lib in
/-- internal/strconv.small: "small returns the string for an i with 0 <= i < nSmalls.": i's decimal numeral. The world is as it was. (LAID: no walk: one application.) -/
theorem Tryz.internal_strconv_small (i:Nat) (h:i<100) (w:World):
  Calls Tryz.prog 149 #[.int .i64 i] w fun e w'=>e= .returned (.string ⟨(Lib.decDigits i).toArray⟩)∧w'=w:=Any.internal_strconv_small Tryz.lays283 i h w
def Tryz.laysM284_ren:Go.Shelf.Ren:=⟨fun|284=>150|129=>164|317=>163|318=>165|n=>n,fun|53=>36|3=>3|212=>203|0=>0|4=>4|46=>156|5=>5|9=>9|n=>n,fun|17=>1|n=>n⟩
theorem Tryz.laysM284:Go.Proofs.LaysM.n284 Tryz.prog Tryz.laysM284_ren:={
 mixed:=by kernel_rfl
 f129:=Tryz.func164.trans (congrArg some (by kernel_rfl))
 f284:=Tryz.func150.trans (congrArg some (by kernel_rfl))
 f317:=Tryz.func163.trans (congrArg some (by kernel_rfl))
 f318:=Tryz.func165.trans (congrArg some (by kernel_rfl))
 t0:=Tryz.underlying0
 a0:=Tryz.isAgg0
 z0:=Tryz.sizeOf0
 v0:=Tryz.zeroValue0
 t3:=Tryz.underlying3
 a3:=Tryz.isAgg3
 z3:=Tryz.sizeOf3
 v3:=Tryz.zeroValue3
 t4:=Tryz.underlying4
 a4:=Tryz.isAgg4
 z4:=Tryz.sizeOf4
 v4:=Tryz.zeroValue4
 t5:=Tryz.underlying5
 a5:=Tryz.isAgg5
 z5:=Tryz.sizeOf5
 v5:=Tryz.zeroValue5
 t9:=Tryz.underlying9
 a9:=Tryz.isAgg9
 z9:=Tryz.sizeOf9
 v9:=Tryz.zeroValue9
 t46:=Tryz.underlying156
 a46:=Tryz.isAgg156
 z46:=Tryz.sizeOf156
 v46:=Tryz.zeroValue156
 t53:=Tryz.underlying36
 a53:=Tryz.isAgg36
 z53:=Tryz.sizeOf36
 v53:=Tryz.zeroValue36
 t212:=Tryz.underlying203
 a212:=Tryz.isAgg203
 z212:=Tryz.sizeOf203
 v212:=Tryz.zeroValue203
 g17:=by kernel_rfl
 i0:=by kernel_rfl
 i3:=by kernel_rfl
 i4:=by kernel_rfl
 i5:=by kernel_rfl
 i9:=by kernel_rfl
 i46:=by kernel_rfl
 i53:=by kernel_rfl
 i212:=by kernel_rfl
 m17:=by kernel_rfl}
open Go.Lib in
theorem Tryz.internal_strconv_numDigits (u:Nat) (h1:1≤u) (h2:u<18446744073709551616) (w:World) (htab:Lib.TabIs Tryz.prog w "internal/strconv.uint64pow10" .u64 Lib.pow10Tab):
  Calls Tryz.prog 150 #[.int .u64 u] w fun e w'=>e= .returned (.int .i64 (Lib.nDigits u))∧w'=w:=Any.internal_strconv_numDigits Tryz.laysM284 u h1 h2 w htab
def Tryz.lays285_ren:Go.Shelf.Ren:=⟨fun|285=>151|n=>n,fun|37=>158|53=>36|3=>3|4=>4|51=>23|9=>9|5=>5|0=>0|n=>n,fun|n=>n⟩
theorem Tryz.lays285:Go.Proofs.Lays.n285 Tryz.prog Tryz.lays285_ren:={
 mixed:=by kernel_rfl
 f285:=Tryz.func151.trans (congrArg some (by kernel_rfl))
 t0:=Tryz.underlying0
 a0:=Tryz.isAgg0
 z0:=Tryz.sizeOf0
 v0:=Tryz.zeroValue0
 t3:=Tryz.underlying3
 a3:=Tryz.isAgg3
 z3:=Tryz.sizeOf3
 v3:=Tryz.zeroValue3
 t4:=Tryz.underlying4
 a4:=Tryz.isAgg4
 z4:=Tryz.sizeOf4
 v4:=Tryz.zeroValue4
 t5:=Tryz.underlying5
 a5:=Tryz.isAgg5
 z5:=Tryz.sizeOf5
 v5:=Tryz.zeroValue5
 t9:=Tryz.underlying9
 a9:=Tryz.isAgg9
 z9:=Tryz.sizeOf9
 v9:=Tryz.zeroValue9
 t37:=Tryz.underlying158
 a37:=Tryz.isAgg158
 z37:=Tryz.sizeOf158
 v37:=Tryz.zeroValue158
 t51:=Tryz.underlying23
 a51:=Tryz.isAgg23
 z51:=Tryz.sizeOf23
 v51:=Tryz.zeroValue23
 t53:=Tryz.underlying36
 a53:=Tryz.isAgg36
 z53:=Tryz.sizeOf36
 v53:=Tryz.zeroValue36}
open Go.RowKit Go.Sort Go.Lib in
/-- internal/strconv.formatBase10: "formatBase10 formats the decimal representation of u into a. The caller is responsible for ensuring that a is big enough to hold u. If a is too big, leading zeros will be filled in as needed.": THE ROW HOLDS u's DIGITS ('FmtInv .. 0 ..': every place t holds 'dg u (len - 1 - t)'); all else is as it was but for the count of draws. (LAID: no walk: one application.) -/
theorem Tryz.internal_strconv_formatBase10 (blk off cap:Nat) (u:Nat) (d:Array UInt8) (w:World) (hH:Holds (fun(b:UInt8)=>Value.int .u8 (b.toNat:Int)) w blk off d) (hu:u<10^d.size) (hu64:u<18446744073709551616) (hsz:d.size<4611686018427387904):
  Calls Tryz.prog 151 #[.slice (some ⟨blk,off,none⟩) d.size cap,.int .u64 u] w fun e w'=>
   e= .returned (.tuple #[])∧∃(n v':Nat) (dk:Array UInt8),w'=(putRow (fun(b:UInt8)=>Value.int .u8 (b.toNat:Int)) w blk off dk).drewN n∧FmtInv d.size u 0 v' dk:=Any.internal_strconv_formatBase10 Tryz.lays285 blk off cap u d w hH hu hu64 hsz
def Tryz.laysM171_ren:Go.Shelf.Ren:=⟨fun|171=>103|243=>135|246=>153|283=>149|284=>150|285=>151|286=>152|129=>164|317=>163|318=>165|319=>166|320=>167|337=>170|338=>171|n=>n,fun|3=>3|9=>9|2=>2|4=>4|171=>186|0=>0|53=>36|37=>158|5=>5|173=>189|212=>203|51=>23|20=>20|213=>204|46=>156|232=>207|233=>208|n=>n,fun|17=>1|18=>3|19=>4|n=>n⟩
theorem Tryz.laysM171:Go.Proofs.LaysM.n171 Tryz.prog Tryz.laysM171_ren:={
 mixed:=by kernel_rfl
 f129:=Tryz.func164.trans (congrArg some (by kernel_rfl))
 f171:=Tryz.func103.trans (congrArg some (by kernel_rfl))
 f243:=Tryz.func135.trans (congrArg some (by kernel_rfl))
 f246:=Tryz.func153.trans (congrArg some (by kernel_rfl))
 f283:=Tryz.func149.trans (congrArg some (by kernel_rfl))
 f284:=Tryz.func150.trans (congrArg some (by kernel_rfl))
 f285:=Tryz.func151.trans (congrArg some (by kernel_rfl))
 f286:=Tryz.func152.trans (congrArg some (by kernel_rfl))
 f317:=Tryz.func163.trans (congrArg some (by kernel_rfl))
 f318:=Tryz.func165.trans (congrArg some (by kernel_rfl))
 f319:=Tryz.func166.trans (congrArg some (by kernel_rfl))
 f320:=Tryz.func167.trans (congrArg some (by kernel_rfl))
 f337:=Tryz.func170.trans (congrArg some (by kernel_rfl))
 f338:=Tryz.func171.trans (congrArg some (by kernel_rfl))
 t0:=Tryz.underlying0
 a0:=Tryz.isAgg0
 z0:=Tryz.sizeOf0
 v0:=Tryz.zeroValue0
 t2:=Tryz.underlying2
 a2:=Tryz.isAgg2
 z2:=Tryz.sizeOf2
 v2:=Tryz.zeroValue2
 t3:=Tryz.underlying3
 a3:=Tryz.isAgg3
 z3:=Tryz.sizeOf3
 v3:=Tryz.zeroValue3
 t4:=Tryz.underlying4
 a4:=Tryz.isAgg4
 z4:=Tryz.sizeOf4
 v4:=Tryz.zeroValue4
 t5:=Tryz.underlying5
 a5:=Tryz.isAgg5
 z5:=Tryz.sizeOf5
 v5:=Tryz.zeroValue5
 t9:=Tryz.underlying9
 a9:=Tryz.isAgg9
 z9:=Tryz.sizeOf9
 v9:=Tryz.zeroValue9
 t20:=Tryz.underlying20
 a20:=Tryz.isAgg20
 z20:=Tryz.sizeOf20
 v20:=Tryz.zeroValue20
 t37:=Tryz.underlying158
 a37:=Tryz.isAgg158
 z37:=Tryz.sizeOf158
 v37:=Tryz.zeroValue158
 t46:=Tryz.underlying156
 a46:=Tryz.isAgg156
 z46:=Tryz.sizeOf156
 v46:=Tryz.zeroValue156
 t51:=Tryz.underlying23
 a51:=Tryz.isAgg23
 z51:=Tryz.sizeOf23
 v51:=Tryz.zeroValue23
 t53:=Tryz.underlying36
 a53:=Tryz.isAgg36
 z53:=Tryz.sizeOf36
 v53:=Tryz.zeroValue36
 t171:=Tryz.underlying186
 a171:=Tryz.isAgg186
 z171:=Tryz.sizeOf186
 v171:=Tryz.zeroValue186
 t173:=Tryz.underlying189
 a173:=Tryz.isAgg189
 z173:=Tryz.sizeOf189
 v173:=Tryz.zeroValue189
 t212:=Tryz.underlying203
 a212:=Tryz.isAgg203
 z212:=Tryz.sizeOf203
 v212:=Tryz.zeroValue203
 t213:=Tryz.underlying204
 a213:=Tryz.isAgg204
 z213:=Tryz.sizeOf204
 t232:=Tryz.underlying207
 a232:=Tryz.isAgg207
 z232:=Tryz.sizeOf207
 v232:=Tryz.zeroValue207
 t233:=Tryz.underlying208
 a233:=Tryz.isAgg208
 z233:=Tryz.sizeOf208
 v233:=Tryz.zeroValue208
 g17:=by kernel_rfl
 g18:=by kernel_rfl
 g19:=by kernel_rfl
 i0:=by kernel_rfl
 i2:=by kernel_rfl
 i3:=by kernel_rfl
 i4:=by kernel_rfl
 i5:=by kernel_rfl
 i9:=by kernel_rfl
 i20:=by kernel_rfl
 i37:=by kernel_rfl
 i46:=by kernel_rfl
 i51:=by kernel_rfl
 i53:=by kernel_rfl
 i171:=by kernel_rfl
 i173:=by kernel_rfl
 i212:=by kernel_rfl
 i232:=by kernel_rfl
 i233:=by kernel_rfl
 m17:=by kernel_rfl
 m18:=by kernel_rfl
 m19:=by kernel_rfl}
open Go.RowKit Go.Sort Go.Lib in
/-- strconv.Itoa: "Itoa is equivalent to FormatInt(int64(i), 10).": i's DECIMAL NUMERAL ('Lib.itoa': a '-' where i is negative, then the digits), FOR EVERY int. The world behind the call: the world before it, new blocks behind the heap (the library's 'var a [24]byte'), draws. (LAID: no walk: one application.) -/
theorem Tryz.strconv_Itoa (n:Int) (h0: -9223372036854775808≤n) (h1:n≤9223372036854775807) (w:World) (htab:Lib.TabIs Tryz.prog w "internal/strconv.uint64pow10" .u64 Lib.pow10Tab):
  Calls Tryz.prog 103 #[.int .i64 n] w fun e w'=>e= .returned (.string ⟨(Lib.itoa n).toArray⟩)∧∃k os,w'=grow (w.drewN k) os:=Any.strconv_Itoa Tryz.laysM171 n h0 h1 w htab
def Tryz.lays105_ren:Go.Shelf.Ren:=⟨fun|105=>104|212=>136|99=>137|165=>122|166=>123|170=>138|169=>124|263=>154|264=>118|206=>155|240=>146|241=>147|276=>161|277=>162|n=>n,fun|9=>9|3=>3|4=>4|20=>20|0=>0|46=>156|109=>176|5=>5|72=>160|76=>164|51=>23|146=>174|53=>36|148=>153|70=>157|37=>158|75=>163|127=>185|164=>198|80=>166|n=>n,fun|n=>n⟩
theorem Tryz.lays105:Go.Proofs.Lays.n105 Tryz.prog Tryz.lays105_ren:={
 mixed:=by kernel_rfl
 f99:=Tryz.func137.trans (congrArg some (by kernel_rfl))
 f105:=Tryz.func104.trans (congrArg some (by kernel_rfl))
 f165:=Tryz.func122.trans (congrArg some (by kernel_rfl))
 f166:=Tryz.func123.trans (congrArg some (by kernel_rfl))
 f169:=Tryz.func124.trans (congrArg some (by kernel_rfl))
 f170:=Tryz.func138.trans (congrArg some (by kernel_rfl))
 f206:=Tryz.func155.trans (congrArg some (by kernel_rfl))
 f212:=Tryz.func136.trans (congrArg some (by kernel_rfl))
 f240:=Tryz.func146.trans (congrArg some (by kernel_rfl))
 f241:=Tryz.func147.trans (congrArg some (by kernel_rfl))
 f263:=Tryz.func154.trans (congrArg some (by kernel_rfl))
 f264:=Tryz.func118.trans (congrArg some (by kernel_rfl))
 f276:=Tryz.func161.trans (congrArg some (by kernel_rfl))
 f277:=Tryz.func162.trans (congrArg some (by kernel_rfl))
 t0:=Tryz.underlying0
 a0:=Tryz.isAgg0
 z0:=Tryz.sizeOf0
 v0:=Tryz.zeroValue0
 t3:=Tryz.underlying3
 a3:=Tryz.isAgg3
 z3:=Tryz.sizeOf3
 v3:=Tryz.zeroValue3
 t4:=Tryz.underlying4
 a4:=Tryz.isAgg4
 z4:=Tryz.sizeOf4
 v4:=Tryz.zeroValue4
 t5:=Tryz.underlying5
 a5:=Tryz.isAgg5
 z5:=Tryz.sizeOf5
 v5:=Tryz.zeroValue5
 t9:=Tryz.underlying9
 a9:=Tryz.isAgg9
 z9:=Tryz.sizeOf9
 v9:=Tryz.zeroValue9
 t20:=Tryz.underlying20
 a20:=Tryz.isAgg20
 z20:=Tryz.sizeOf20
 v20:=Tryz.zeroValue20
 t37:=Tryz.underlying158
 a37:=Tryz.isAgg158
 z37:=Tryz.sizeOf158
 v37:=Tryz.zeroValue158
 t46:=Tryz.underlying156
 a46:=Tryz.isAgg156
 z46:=Tryz.sizeOf156
 v46:=Tryz.zeroValue156
 t51:=Tryz.underlying23
 a51:=Tryz.isAgg23
 z51:=Tryz.sizeOf23
 v51:=Tryz.zeroValue23
 t53:=Tryz.underlying36
 a53:=Tryz.isAgg36
 z53:=Tryz.sizeOf36
 v53:=Tryz.zeroValue36
 t70:=Tryz.underlying157
 a70:=Tryz.isAgg157
 z70:=Tryz.sizeOf157
 v70:=Tryz.zeroValue157
 t72:=Tryz.underlying160
 a72:=Tryz.isAgg160
 z72:=Tryz.sizeOf160
 v72:=Tryz.zeroValue160
 t75:=Tryz.underlying163
 a75:=Tryz.isAgg163
 z75:=Tryz.sizeOf163
 v75:=Tryz.zeroValue163
 t76:=Tryz.underlying164
 a76:=Tryz.isAgg164
 z76:=Tryz.sizeOf164
 v76:=Tryz.zeroValue164
 t109:=Tryz.underlying176
 a109:=Tryz.isAgg176
 z109:=Tryz.sizeOf176
 v109:=Tryz.zeroValue176
 t127:=Tryz.underlying185
 a127:=Tryz.isAgg185
 z127:=Tryz.sizeOf185
 v127:=Tryz.zeroValue185
 t146:=Tryz.underlying174
 a146:=Tryz.isAgg174
 z146:=Tryz.sizeOf174
 v146:=Tryz.zeroValue174
 t148:=Tryz.underlying153
 a148:=Tryz.isAgg153
 z148:=Tryz.sizeOf153
 v148:=Tryz.zeroValue153
 t164:=Tryz.underlying198
 a164:=Tryz.isAgg198
 z164:=Tryz.sizeOf198
 v164:=Tryz.zeroValue198}
theorem Tryz.Builder_Extra_105:Builder.Extra Tryz.prog Tryz.lays105_ren:={
 sizeBuilder:=by kernel_rfl
 liesBuilder:=by kernel_rfl
 t5:=Tryz.underlying5
 a5:=Tryz.isAgg5
 z5:=Tryz.sizeOf5
 v5:=Tryz.zeroValue5
 infoByte:=by kernel_rfl
 cellsByte:=by kernel_rfl
 sizeByte:=by kernel_rfl
 neB5:=by decide}
open Go.RowKit Go.Lib in
theorem Tryz.strings_Repeat (s:ByteArray) (c:Nat) (w:World) (hc:c≤9223372036854775807) (hlen:s.size*c≤140737488355328):
  Calls Tryz.prog 104 #[.string s,.int .i64 c] w fun e w'=>e= .returned (.string ⟨(Lib.repeatL s.data.toList c).toArray⟩)∧Below w.heap.size w w':=Any.strings_Repeat Tryz.lays105 Tryz.Builder_Extra_105 s c w hc hlen
end Go.Proofs
namespace Go.Proofs.YtjofnbpcanhfhabGreatDoor
open Go.Sx
set_option linter.unusedSimpArgs false
set_option linter.unusedVariables false
set_option maxRecDepth 100000
set_option maxHeartbeats 4000000
def decF:Nat→Nat→List UInt8
 |0,_=>[]
 |f+1,n=>if n<10 then[UInt8.ofNat (48+n)]else decF f (n/10)++[UInt8.ofNat (48+n % 10)]
theorem decF_eq:∀f n,n<f→decF f n=Lib.decDigits n
 |0,n,h=>by omega
 |f+1,n,h=>by
  rw[decF,Lib.decDigits]
  by_cases h1:n<10
  ·rw[if_pos h1,dif_pos h1]
  ·rw[if_neg h1,dif_neg h1,decF_eq f (n/10) (by omega)]
def tN (n:Nat):ByteArray:=⟨(decF (n+1) n).toArray⟩
theorem tN_eq (n:Nat):tN n=⟨(Lib.decDigits n).toArray⟩:=by rw[tN,decF_eq _ _ (Nat.lt_succ_self n)]
def tZ (z:Int):ByteArray:=if z<0 then "-".toUTF8++tN z.natAbs else tN z.natAbs
def tQ (q:Rat):ByteArray:=if q.den=1 then tZ q.num else tZ q.num++ "/".toUTF8++tN q.den
theorem t_small (i:Nat) (h:i<100):CallOK Tryz.prog 149 [.val (.int .i64 (i:Nat))] [] (.val (.string (tN i))) [] []:=
 call_vals' (vs:=[.int .i64 (i:Nat)]) ⟨Tryz.f149,Tryz.func149,rfl,by kernel_rfl⟩ rfl (fun w=>by rw[tN_eq];exact Tryz.internal_strconv_small i h w)
theorem t_iFormat (n:Nat) (h:n<100):CallOK Tryz.prog 133 [.val (.int .u64 (n:Nat)),.val (.int .i64 10)] [] (.val (.string (tN n))) [] []:=by
 have k1:=t_small n h
 have t1:decide ((n:Int)<100)=true:=decide_eq_true (by omega)
 have t2:IntKind.i64.wrap (n:Int)=n:=wrap_i64 (by omega) (by omega)
 refine callV (Z:=[]) tabOK mixedOK Tryz.func133 rfl (by kernel_rfl) rfl rfl (by kernel_rfl) rfl ?_
 intro W0 w0 ρ0 hE
 conv=>whnf
 (repeat((first|refine step_w1 rfl rfl ?_|refine g_c (by assumption) ?_|rw[beq_self_eq_true]|rw[t1]|rw[t2]);conv=>whnf));(first|exact Recast.refl _|exact Frz.recast (Recast.refl _) rfl|(refine Frz.one rfl rfl ?_;skip)|(refine Frz.tup ?_;skip))
theorem t_Format (n:Nat) (h:n<100):CallOK Tryz.prog 99 [.val (.int .u64 (n:Nat)),.val (.int .i64 10)] [] (.val (.string (tN n))) [] []:=by
 have k1:=t_iFormat n h
 refine callV (Z:=[]) tabOK mixedOK Tryz.func99 rfl (by kernel_rfl) rfl rfl (by kernel_rfl) rfl ?_
 intro W0 w0 ρ0 hE
 conv=>whnf
 (repeat(first|(refine g_c (by assumption) ?_;conv=>whnf)));(first|exact Recast.refl _|exact Frz.recast (Recast.refl _) rfl|(refine Frz.one rfl rfl ?_;skip)|(refine Frz.tup ?_;skip))
theorem t_Nat (n:Nat) (h:n<100):CallOK Tryz.prog 67 [.nat n] [] (.val (.string (tN n))) [] []:=by
 have k1:=t_Format n h
 have e1:low n=(n:Int):=low_small (by omega)
 have e2:((big n).toList==(ByteArray.mk #[]).toList)=true:=by rw[big_eq];exact decide_eq_true (by omega)
 refine callV (Z:=[]) tabOK mixedOK Tryz.func67 rfl (by kernel_rfl) rfl rfl (by kernel_rfl) rfl ?_
 intro W0 w0 ρ0 hE
 conv=>whnf
 (repeat((first|refine step_w1 rfl rfl ?_|refine g_c (by assumption) ?_|rw[e2]|rw[e1]);conv=>whnf));(first|exact Recast.refl _|exact Frz.recast (Recast.refl _) rfl|(refine Frz.one rfl rfl ?_;skip)|(refine Frz.tup ?_;skip))
theorem tN_size:∀n,n<100→(tN n).size≤2:=by
 intro n h
 rw[tN_eq]
 show(Lib.decDigits n).toArray.size≤2
 by_cases h1:n<10
 ·rw[Lib.decDigits_one h1];simp
 ·rw[Lib.decDigits_two h1 h];simp
theorem t_Int (z:Int) (h:z.natAbs<100):CallOK Tryz.prog 66 [.int z] [] (.val (.string (tZ z))) [] []:=by
 have k1:=t_Nat z.natAbs h
 have hs:=tN_size _ h
 have h1:(ByteArray.mk #[45]).size=1:=rfl
 have h2:(ByteArray.mk #[45]).size+(tN z.natAbs).size≤9223372036854775807:=by omega
 unfold tZ
 refine callV (Z:=[]) tabOK mixedOK Tryz.func66 rfl (by kernel_rfl) rfl rfl (by kernel_rfl) rfl ?_
 intro W0 w0 ρ0 hE
 conv=>whnf
 by_cases hz:z<0
 ·have t1:decide (z<0)=true:=decide_eq_true hz
  rw[if_pos hz]
  (repeat((first|refine step_w1 rfl rfl ?_|refine And.intro (by first|decide|omega|(simp only[tl0,dlen,List.length_replicate,List.length_set,List.length_map,List.length_zipWith,List.length_take,List.length_append,List.length_cons,List.length_nil];omega)) ?_|refine g_c (by assumption) ?_|rw[t1]);conv=>whnf));(first|exact Recast.refl _|exact Frz.recast (Recast.refl _) rfl|(refine Frz.one rfl rfl ?_;skip)|(refine Frz.tup ?_;skip))
 ·have t1:decide (z<0)=false:=decide_eq_false hz
  rw[if_neg hz]
  (repeat(first|(refine step_w2 rfl rfl ?_;conv=>whnf)|(refine g_c (by assumption) ?_;conv=>whnf)|(rw[t1];conv=>whnf)));(first|exact Recast.refl _|exact Frz.recast (Recast.refl _) rfl|(refine Frz.one rfl rfl ?_;skip)|(refine Frz.tup ?_;skip))
theorem tZ_size {z:Int} (h:z.natAbs<100):(tZ z).size≤3:=by
 have hs:=tN_size _ h
 unfold tZ
 split
 ·rw[ByteArray.size_append];have:("-".toUTF8).size=1:=rfl;omega
 ·omega
theorem t_Frac (q:Rat) (h:q.num.natAbs<100) (h':q.den<100):CallOK Tryz.prog 32 [.frac q] [] (.val (.string (tQ q))) [] []:=by
 have kw:=c_Whole q
 have k1:=t_Int q.num h
 have k2:=t_Nat q.den h'
 have k3:=c_den natBig q (Nat.le_trans (sz_le.2 (show q.den<2^64 by omega)) (by decide))
 have hs:=tZ_size h
 have hs2:=tN_size _ h'
 have h1:(ByteArray.mk #[47]).size=1:=rfl
 have h2:(tZ q.num).size+(ByteArray.mk #[47]).size≤9223372036854775807:=by omega
 have h3:(tZ q.num++(ByteArray.mk #[47])).size+(tN q.den).size≤9223372036854775807:=by rw[ByteArray.size_append];omega
 unfold tQ
 refine callV (Z:=[]) tabOK mixedOK Tryz.func32 rfl (by kernel_rfl) rfl rfl (by kernel_rfl) rfl ?_
 intro W0 w0 ρ0 hE
 conv=>whnf
 by_cases hd:q.den=1
 ·rw[decide_eq_true hd]at kw
  rw[if_pos hd]
  (repeat(first|(refine step_w1 rfl rfl ?_;conv=>whnf)|(refine g_c (by assumption) ?_;conv=>whnf)));(first|exact Recast.refl _|exact Frz.recast (Recast.refl _) rfl|(refine Frz.one rfl rfl ?_;skip)|(refine Frz.tup ?_;skip))
 ·rw[decide_eq_false hd]at kw
  rw[if_neg hd]
  (repeat((first|refine step_w2 rfl rfl ?_|refine step_i (by kernel_rfl) ?_|refine And.intro (by first|decide|omega|(simp only[tl0,dlen,List.length_replicate,List.length_set,List.length_map,List.length_zipWith,List.length_take,List.length_append,List.length_cons,List.length_nil];omega)) ?_|refine g_c (by assumption) ?_);conv=>whnf));(first|exact Recast.refl _|exact Frz.recast (Recast.refl _) rfl|(refine Frz.one rfl rfl ?_;skip)|(refine Frz.tup ?_;skip))
def tV (a:List Rat):ByteArray:= "[".toUTF8++⟨(Lib.join ((a.map tQ).map (·.data.toList)) [32]).toArray⟩++ "]".toUTF8
theorem t_Join (ss:List ByteArray) (hN:ss.length≤1099511627776) (hlen:(Lib.join (ss.map (·.data.toList)) [32]).length≤140737488355328):
  CallOK Tryz.prog 89 [mvec 1 sel ss,.val (.string ⟨#[32]⟩)] [] (.val (.string ⟨(Lib.join (ss.map (·.data.toList)) [32]).toArray⟩)) [] []:=by
 refine call_strs ⟨Tryz.f89,Tryz.func89,rfl,by kernel_rfl⟩ rfl ?_ ?_
 ·rintro rfl a w
  exact Tryz.strings_Join_none a 0 ⟨#[32]⟩ w
 ·intro bk o c w hc hb hcap
  exact Tryz.strings_Join bk o c ss ⟨#[32]⟩ w hc hb (by omega) hcap hlen
theorem t_Vec (a:List Rat) (hl:a.length≤2048) (h:∀i,i<a.length→(a.getD i 0).num.natAbs<100∧(a.getD i 0).den<100) (hJ:(Lib.join ((a.map tQ).map (·.data.toList)) [32]).length≤140737488355328):CallOK Tryz.prog 57 [fvec a] [] (.val (.string (tV a))) [] []:=by
 have hz:((a.map tQ).map sel).length=a.length:=by simp
 have hget:∀i,i<a.length→((a.map tQ).map sel).getD i .any= .val (.string (tQ (a.getD i 0))):=fun i hi=>by rw[map_get (d:=ByteArray.empty) (by simpa using hi),map_get (d:=0) hi];rfl
 have kj:=t_Join (a.map tQ) (by simp;omega) hJ
 refine callF (Z:=[]) tabOK mixedOK Tryz.func57 rfl (by kernel_rfl) (by first|rfl|(simp[keylessL,keyless,keylessL_map, *];done)) (by first|rfl|(simp[keylessL,keyless,keylessL_map, *];done)) (by kernel_rfl) rfl ?_
 intro w0 ρ0 hE
 conv=>whnf
 (repeat(first|(refine And.intro (by first|decide|omega|(simp only[tl0,dlen,List.length_replicate,List.length_set,List.length_map,List.length_zipWith,List.length_take,List.length_append,List.length_cons,List.length_nil];omega)) ?_;conv=>whnf)|(refine g_o (op_lenM rfl rfl rfl (ev_ok rfl) (tgt rfl) rfl) ?_;conv=>whnf)|(rw[Int.toNat_natCast];conv=>whnf)))
 refine SW_loopS hE (fun k=>k) [0,2,3,9,10,11] [8] (fun m fr hp=>∃i,m=a.length - i∧i≤a.length∧fr=[(0,fvec a),(2,.val (.string ⟨#[]⟩)),(3,.slc 8 1 0 a.length),(9,fvec a),(10,.val (.int .i64 (a.length:Nat))),(11,.val (.int .i64 (i:Nat)))]∧
  hp=[(8,⟨9,true,.seq 1 (((a.map tQ).map sel).take i++List.replicate (a.length - i) (.val (.string .empty)))⟩)]) a.length ?_ ?_ ?_
 ·kernel_rfl
 ·exact⟨0,rfl,Nat.zero_le _,rfl,rfl⟩
 rintro m _ _ ⟨i,rfl,hi,rfl,rfl⟩
 have hlen:=fill_len (d:=SV.val (.string .empty)) hi hz
 by_cases hlt:i<a.length
 ·have t1:=dlt hlt
  have t2:=winc (i:=i) (by omega)
  obtain⟨b1,b2⟩:=h i hlt
  have k1:=t_Frac (a.getD i 0) b1 b2
  refine SWx.of hE ?_
  conv=>whnf
  have e3:=fill_get (d:=SV.val (.string .empty)) (e:=SV.any) hlt hz
  (repeat((first|refine step_w1 rfl rfl ?_|refine And.intro (by first|decide|omega|(simp only[tl0,dlen,List.length_replicate,List.length_set,List.length_map,List.length_zipWith,List.length_take,List.length_append,List.length_cons,List.length_nil];omega)) ?_|refine g_c (by assumption) ?_|refine g_o (op_indexN (α:=Rat) (d:=0) rfl (ev_ok rfl) (ev_ok rfl) (tgt rfl) rfl (tgt rfl) rfl (by omega)) ?_|refine g_o (op_loadA rfl (ev_ok rfl) (tgt rfl) rfl (Nat.succ_ne_zero _) rfl) ?_|rw[t1]|rw[e3]|rw[t2]|rw[Int.toNat_natCast]|rw[Nat.zero_add]);conv=>whnf))
  refine⟨a.length - (i+1),fun k=>k,[0,2,3,9,10,11],[8],by omega,by kernel_rfl,i+1,rfl,hlt,rfl, ?_⟩
  rw[←fill_set (e:=.any) hlt hz,hget i hlt]
  rfl
 ·have t1:=dge hlt
  have hI:i=a.length:=by omega
  subst hI
  rw[fill_all hz]
  refine SWx_freezeM 3 8 (fun _ h=>h) (fun _=>rfl) rfl rfl (by simp) ?_
  refine SWx.of hE ?_
  conv=>whnf
  have h91:(ByteArray.mk #[91]).size=1:=rfl
  have h93:(ByteArray.mk #[93]).size=1:=rfl
  have hjs:(ByteArray.mk (Lib.join ((a.map tQ).map (·.data.toList)) [32]).toArray).size=(Lib.join ((a.map tQ).map (·.data.toList)) [32]).length:=by show(Lib.join ((a.map tQ).map (·.data.toList)) [32]).toArray.size=_;simp
  have o1:(ByteArray.mk #[91]).size+(ByteArray.mk (Lib.join ((a.map tQ).map (·.data.toList)) [32]).toArray).size≤9223372036854775807:=by omega
  have o2:(ByteArray.mk #[91]++ByteArray.mk (Lib.join ((a.map tQ).map (·.data.toList)) [32]).toArray).size+(ByteArray.mk #[93]).size≤9223372036854775807:=by rw[ByteArray.size_append];omega
  (repeat((first|refine step_w2 rfl rfl ?_|refine And.intro (by first|decide|omega|(simp only[tl0,dlen,List.length_replicate,List.length_set,List.length_map,List.length_zipWith,List.length_take,List.length_append,List.length_cons,List.length_nil];omega)) ?_|refine g_c (by assumption) ?_|rw[t1]);conv=>whnf));(first|exact Recast.refl _|exact Frz.recast (Recast.refl _) rfl|(refine Frz.one rfl rfl ?_;skip)|(refine Frz.tup ?_;skip))
end Go.Proofs.YtjofnbpcanhfhabGreatDoor
namespace Go.Proofs.YtjofnbpcanhfhabGreatDoor
open Go.Sx
set_option linter.unusedSimpArgs false
set_option linter.unusedVariables false
set_option maxRecDepth 100000
set_option maxHeartbeats 4000000
abbrev qA:Int×Int→SV:=ag2 (iel .i64) (iel .u32)
def qV (q:Int×Int):Rat:=(q.1:Rat)/((if q.2<1 then 1 else q.2:Int):Rat)
def qOK (q:Int×Int):Prop:=(-9223372036854775808≤q.1∧q.1<9223372036854775808)∧(0≤q.2∧q.2<4294967296)
theorem fs_qV {q:Int×Int} (h:qOK q):fs (qV q)≤130:=by
 have h1:=fs_div (q.1:Rat) ((if q.2<1 then 1 else q.2:Int):Rat)
 have h2:=fs_int h.1.1 h.1.2
 have h3:fs ((if q.2<1 then 1 else q.2:Int):Rat)≤65:=fs_int (by have:=h.2;split<;>omega) (by have:=h.2;split<;>omega)
 unfold qV
 omega
theorem c_QOf (q:Int×Int) (h:qOK q):CallOK Tryz.prog 21 [qA q] [] (.frac (qV q)) [] []:=by
 have hd:(if q.2<1 then 1 else q.2)≠0:=by have:=h.2;split<;>omega
 have e1:(if (1:Int)>q.2 then 1 else q.2)=(if q.2<1 then 1 else q.2):=rfl
 have e2:IntKind.i64.wrap (if (1:Int)>q.2 then 1 else q.2)=(if q.2<1 then 1 else q.2):=wrap_i64 (by have:=h.2;split<;>omega) (by have:=h.2;split<;>omega)
 have g2:=fs_int h.1.1 h.1.2
 have g3:fs ((if q.2<1 then 1 else q.2:Int):Rat)≤65:=fs_int (by have:=h.2;split<;>omega) (by have:=h.2;split<;>omega)
 have k1:=c_fOf natBig q.1 (if q.2<1 then 1 else q.2) (by unfold fs at g2 g3;omega) h.1.1 h.1.2 (by have:=h.2;split<;>omega) (by have:=h.2;split<;>omega) hd
 refine callV (Z:=[]) tabOK mixedOK Tryz.func21 rfl (by kernel_rfl) rfl rfl (by kernel_rfl) rfl ?_
 intro W0 w0 ρ0 hE
 conv=>whnf
 (repeat(first|(refine g_c (by assumption) ?_;conv=>whnf)|(rw[e2];conv=>whnf)));(first|exact Recast.refl _|exact Frz.recast (Recast.refl _) rfl|(refine Frz.one rfl rfl ?_;skip)|(refine Frz.tup ?_;skip))
theorem app_snoc {α:Type} {l:List α} {i:Nat} {d:α} (h:i<l.length):(l.take i).take i++(([l.getD i d]:List α).drop 0).take 1=l.take (i+1):=by
 have e:l.take (i+1)=l.take i++[l.getD i d]:=by rw[List.take_add_one,List.getD_eq_getElem?_getD,List.getElem?_eq_getElem h];rfl
 rw[List.take_take,Nat.min_self,e];rfl
theorem c_V (l:List (Int×Int)) (hl:l.length<1048576) (h:∀q∈l,qOK q):CallOK Tryz.prog 20 [mvec 2 qA l] [] (fvec (l.map qV)) [] []:=by
 have hz:(l.map qV).length=l.length:=by simp
 refine callF (Z:=[]) tabOK mixedOK Tryz.func20 rfl (by kernel_rfl) (by first|rfl|(simp[keylessL,keyless,keylessL_map, *];done)) (by first|rfl|(simp[keylessL,keyless,keylessL_map, *];done)) (by kernel_rfl) rfl ?_
 intro w0 ρ0 hE
 conv=>whnf
 skip
 refine SWx_adopt (t:=3) (k:=2001) (s:=5) (blk:=⟨44,true,.fracs []⟩) rfl rfl rfl ?_
 refine SW_loopN hE (fun k=>k) [0,2,3,4] [2001] (fun m fr hp=>∃i,m=l.length - i∧i≤l.length∧fr=[(0,mvec 2 qA l),(2,.val (.slice none 0 0)),(3,.slc 2001 5 0 i),(4,.val (.int .i64 (i:Nat)))]∧hp=[(2001,⟨44,true,.fracs ((l.map qV).take i)⟩)]) l.length ?_ ?_ ?_
 ·kernel_rfl
 ·exact⟨0,rfl,Nat.zero_le _,rfl,rfl⟩
 rintro m _ _ ⟨i,rfl,hi,rfl,rfl⟩
 have hlen:((l.map qV).take i).length=i:=by simp;omega
 conv=>whnf
 by_cases hlt:i<l.length
 ·have t1:=dlt hlt
  have t2:=winc (i:=i) (by omega)
  have k1:=c_QOf (l.getD i (0,0)) (h _ (getD_mem hlt))
  rw[←map_get (f:=qV) (e:=0) hlt]at k1
  (repeat((first|refine step_w1 rfl rfl ?_|refine And.intro (by first|decide|omega|(simp only[tl0,dlen,List.length_replicate,List.length_set,List.length_map,List.length_zipWith,List.length_take,List.length_append,List.length_cons,List.length_nil];omega)) ?_|refine g_c (by assumption) ?_|refine g_o (op_lenM rfl rfl rfl (ev_ok rfl) (tgt rfl) rfl) ?_|refine g_o (op_loadA rfl (ev_ok rfl) (tgt rfl) rfl (Nat.succ_ne_zero _) rfl) ?_|refine g_o (op_indexN (α:=Int×Int) (d:=(0,0)) rfl (ev_ok rfl) (ev_ok rfl) (tgt rfl) rfl (tgt rfl) rfl (by omega)) ?_|rw[t1]|rw[t2]);conv=>whnf))
  refine⟨l.length - (i+1),renBy [(18,2001)],[0,2,3,4],[18],by omega,by kernel_rfl,i+1,rfl,hlt,rfl, ?_⟩
  rw[←app_snoc (d:=0) (show i<(l.map qV).length by rw[hz];exact hlt)]
  rfl
 ·have t1:=dge hlt
  have hI:i=l.length:=by omega
  subst hI
  rw[List.take_of_length_le (by simp)]
  (repeat(first|(refine step_w2 rfl rfl ?_;conv=>whnf)|(refine g_o (op_lenM rfl rfl rfl (ev_ok rfl) (tgt rfl) rfl) ?_;conv=>whnf)|(rw[t1];conv=>whnf)));(first|exact Recast.refl _|exact Frz.recast (Recast.refl _) rfl|(refine Frz.one rfl rfl ?_;(repeat(first|(refine FrzC.fracs rfl ?_;(first|rfl|omega|(simp<;>fail)|(simp<;>omega))))))|(refine Frz.tup ?_;skip))
end Go.Proofs.YtjofnbpcanhfhabGreatDoor
namespace Go.Proofs.YtjofnbpcanhfhabGreatDoor
open Go.Sx
set_option linter.unusedSimpArgs false
set_option linter.unusedVariables false
def allN:Nat→(Nat→Bool)→Bool
 |0,_=>true
 |n+1,p=>allN n p&&p n
theorem allN_iff {p:Nat→Bool}:∀{n:Nat},allN n p=true↔∀i,i<n→p i=true
 |0=>⟨fun _ i hi=>by omega,fun _=>rfl⟩
 |n+1=>by
  rw[allN,Bool.and_eq_true,allN_iff]
  constructor
  ·rintro⟨h1,h2⟩ i hi
   by_cases h:i=n
   ·rw[h];exact h2
   ·exact h1 i (by omega)
  ·exact fun h=>⟨fun i hi=>h i (by omega),h n (by omega)⟩
def sumR:Nat→(Nat→Rat)→Rat
 |0,_=>0
 |n+1,f=>sumR n f+f n
theorem foldl_sum (l:List Rat):∀n,n≤l.length→(l.take n).foldl (·+·) 0=sumR n (fun i=>l.getD i 0)
 |0,_=>rfl
 |n+1,h=>by rw[foldl_take l n (by omega),foldl_sum l n (by omega),sumR]
theorem vdot_sum {a b:List Rat} {n:Nat} (ha:a.length=n) (hb:b.length=n):vdot a b=sumR n (fun i=>a.getD i 0*b.getD i 0):=by
 have hz:(vmul a b).length=n:=zip_len ha hb
 have h1:=foldl_sum (vmul a b) n (by omega)
 rw[List.take_of_length_le (by omega)]at h1
 rw[vdot,h1]
 clear h1
 have key:∀m,m≤n→sumR m (fun i=>(vmul a b).getD i 0)=sumR m (fun i=>a.getD i 0*b.getD i 0):=by
  intro m
  induction m with
  |zero=>intro _;rfl
  |succ m ih=>intro h;rw[sumR,sumR,ih (by omega),zip_get (d1:=0) (d2:=0) (by omega) (by omega)]
 exact key n (Nat.le_refl _)
section
variable (x y:Nat→Rat)
def lag:Nat→Rat
 |0=>0
 |n+1=>lag n+sumR n (fun k=>(x n*y k - x k*y n)*(x n*y k - x k*y n))
theorem row_sq (p q:Rat):∀n,sumR n (fun k=>(p*y k - x k*q)*(p*y k - x k*q))=p*p*sumR n (fun k=>y k*y k) - 2*p*q*sumR n (fun k=>x k*y k)+q*q*sumR n (fun k=>x k*x k)
 |0=>by simp only[sumR];grind
 |n+1=>by simp only[sumR];rw[row_sq p q n];grind
theorem lagrange:∀n,sumR n (fun k=>x k*x k)*sumR n (fun k=>y k*y k) - sumR n (fun k=>x k*y k)*sumR n (fun k=>x k*y k)=lag x y n
 |0=>by simp only[sumR,lag];grind
 |n+1=>by
  have h:=lagrange n
  have h2:=row_sq x y (x n) (y n) n
  simp only[sumR,lag]
  rw[h2,←h]
  grind
end
theorem sq_nonneg (q:Rat):0≤q*q:=by
 rcases Rat.le_total (a:=0) (b:=q)with h|h
 ·exact Rat.mul_nonneg h h
 ·have:0≤ -q:=by grind
  have:=Rat.mul_nonneg this this
  grind
theorem sq_zero {q:Rat} (h:q*q=0):q=0:=by
 rcases Rat.mul_eq_zero.1 h with h|h<;>exact h
theorem sum_nonneg {f:Nat→Rat} (h:∀i,0≤f i):∀n,0≤sumR n f
 |0=>Rat.le_refl
 |n+1=>by rw[sumR];have:=sum_nonneg h n;have:=h n;grind
theorem sum_zero {f:Nat→Rat} (h:∀i,0≤f i):∀n,sumR n f=0→∀i,i<n→f i=0
 |0,_,i,hi=>by omega
 |n+1,hs,i,hi=>by
  rw[sumR]at hs
  have h1:=sum_nonneg h n
  have h2:=h n
  by_cases hin:i=n
  ·rw[hin];grind
  ·exact sum_zero h n (by grind) i (by omega)
theorem sum_congr {f g:Nat→Rat}:∀n,(∀i,i<n→f i=g i)→sumR n f=sumR n g
 |0,_=>rfl
 |n+1,h=>by rw[sumR,sumR,sum_congr n (fun i hi=>h i (by omega)),h n (by omega)]
theorem sum_const_zero:∀n,sumR n (fun _=>0)=0
 |0=>rfl
 |n+1=>by rw[sumR,sum_const_zero n];grind
theorem lag_nonneg (x y:Nat→Rat):∀n,0≤lag x y n
 |0=>Rat.le_refl
 |n+1=>by rw[lag];have:=lag_nonneg x y n;have:=sum_nonneg (f:=fun k=>(x n*y k - x k*y n)*(x n*y k - x k*y n)) (fun i=>sq_nonneg _) n;grind
theorem lag_zero (x y:Nat→Rat):∀n,lag x y n=0↔∀i,i<n→∀k,k<i→x i*y k=x k*y i
 |0=>⟨fun _ i hi=>by omega,fun _=>rfl⟩
 |n+1=>by
  have h1:=lag_nonneg x y n
  have h2:=sum_nonneg (f:=fun k=>(x n*y k - x k*y n)*(x n*y k - x k*y n)) (fun i=>sq_nonneg _) n
  rw[lag]
  constructor
  ·intro h i hi k hk
   by_cases hin:i=n
   ·subst hin
    have:=sum_zero (f:=fun k=>(x i*y k - x k*y i)*(x i*y k - x k*y i)) (fun _=>sq_nonneg _) i (by grind) k hk
    have:=sq_zero this
    grind
   ·exact(lag_zero x y n).1 (by grind) i (by omega) k hk
  ·intro h
   rw[(lag_zero x y n).2 (fun i hi k hk=>h i (by omega) k hk),sum_congr n (g:=fun _=>0) (fun k hk=>by
    have:=h n (by omega) k hk
    show(x n*y k - x k*y n)*(x n*y k - x k*y n)=0
    rw[this];grind),sum_const_zero]
   grind
end Go.Proofs.YtjofnbpcanhfhabGreatDoor
namespace Go.Proofs.YtjofnbpcanhfhabGreatDoor
open Go.Sx
set_option linter.unusedSimpArgs false
set_option linter.unusedVariables false
set_option maxRecDepth 100000
set_option maxHeartbeats 4000000
theorem l_add (a b:List Rat) (hab:a.length=b.length) (hl:a.length≤2048) (h:Fit a b):CallOK Tryz.prog 39 [fvec a,fvec b] [] (fvec (vadd a b)) [] []:=by
 have k1:=v_Add a b hab hl h
 refine callV (Z:=[]) tabOK mixedOK Tryz.func39 rfl (by kernel_rfl) rfl rfl (by kernel_rfl) rfl ?_
 intro W0 w0 ρ0 hE
 conv=>whnf
 (repeat(first|(refine g_c (by assumption) ?_;conv=>whnf)));(first|exact Recast.refl _|exact Frz.recast (Recast.refl _) rfl|(refine Frz.one rfl rfl ?_;skip)|(refine Frz.tup ?_;skip))
theorem l_times (c:Rat) (a:List Rat) (hl:a.length≤2048) (h:∀i,i<a.length→fs c+fs (a.getD i 0)≤1073741824):CallOK Tryz.prog 40 [.frac c,fvec a] [] (fvec (vscale c a)) [] []:=by
 have k1:=v_Scale c a hl h
 refine callV (Z:=[]) tabOK mixedOK Tryz.func40 rfl (by kernel_rfl) rfl rfl (by kernel_rfl) rfl ?_
 intro W0 w0 ρ0 hE
 conv=>whnf
 (repeat(first|(refine g_c (by assumption) ?_;conv=>whnf)));(first|exact Recast.refl _|exact Frz.recast (Recast.refl _) rfl|(refine Frz.one rfl rfl ?_;skip)|(refine Frz.tup ?_;skip))
theorem l_dot (a b:List Rat) (hab:a.length=b.length) (hl:a.length≤2048) (h:Fit a b) (hs:fsL (vmul a b)+2≤1073741824):CallOK Tryz.prog 43 [fvec a,fvec b] [] (.frac (vdot a b)) [] []:=by
 have k1:=v_Dot a b hab hl h hs
 refine callV (Z:=[]) tabOK mixedOK Tryz.func43 rfl (by kernel_rfl) rfl rfl (by kernel_rfl) rfl ?_
 intro W0 w0 ρ0 hE
 conv=>whnf
 (repeat(first|(refine g_c (by assumption) ?_;conv=>whnf)));(first|exact Recast.refl _|exact Frz.recast (Recast.refl _) rfl|(refine Frz.one rfl rfl ?_;skip)|(refine Frz.tup ?_;skip))
theorem v_eachE (a b:List Rat) (g:FuncId) (ha:a.length<1099511627776) (hb:b.length<1099511627776) (h:alikeF [a,b]≠0):CallOK Tryz.prog 53 [fvec a,fvec b,.clo g [] []] [] (.tup [fvec [],.val (.int .i64 (alikeF [a,b]))]) [] []:=by
 have k1:=v_alike [a,b] (by simp) (by simp;omega)
 have t1:(alikeF [a,b] != 0)=true:=bne_iff_ne.2 h
 refine callF (Z:=[13]) tabOK mixedOK Tryz.func53 rfl (by kernel_rfl) (by first|rfl|(simp[keylessL,keyless,keylessL_map, *];done)) (by first|rfl|(simp[keylessL,keyless,keylessL_map, *];done)) (by kernel_rfl) rfl ?_
 intro w0 ρ0 hE
 conv=>whnf
 (repeat(first|(refine step_w1 rfl rfl ?_;conv=>whnf)|(refine g_c (by assumption) ?_;conv=>whnf)|(rw[t1];conv=>whnf)));(first|exact Recast.refl _|exact Frz.recast (Recast.refl _) rfl|(refine Frz.one rfl rfl ?_;skip)|(refine Frz.tup ?_;(repeat(first|exact FrzC.keyless rfl|exact FrzL.nil|refine FrzL.cons ?_ ?_|exact FrzC.nilS))))
theorem v_AddE (a b:List Rat) (ha:a.length<1099511627776) (hb:b.length<1099511627776) (h:alikeF [a,b]≠0):CallOK Tryz.prog 24 [fvec a,fvec b] [] (.tup [fvec [],.val (.int .i64 (alikeF [a,b]))]) [] []:=by
 have k1:=v_eachE a b 41 ha hb h
 refine callV (Z:=[]) tabOK mixedOK Tryz.func24 rfl (by kernel_rfl) rfl rfl (by kernel_rfl) rfl ?_
 intro W0 w0 ρ0 hE
 conv=>whnf
 (repeat(first|(refine g_c (by assumption) ?_;conv=>whnf)));(first|exact Recast.refl _|exact Frz.recast (Recast.refl _) rfl|(refine Frz.one rfl rfl ?_;skip)|(refine Frz.tup ?_;skip))
abbrev h12:Rat:=((1:Int):Rat)/((2:Int):Rat)
theorem l_works:CallOK Tryz.prog 18 [] [] (.val (.bool true)) [] []:=by
 have k1:=c_fOf natBig 1 2 (by decide+kernel) (by decide) (by decide) (by decide) (by decide) (by decide)
 have o1:=v_Of [1, -2] (by decide) (by decide)
 have o2:=v_Of [0,3] (by decide) (by decide)
 have o3:=v_Of [1,2,3] (by decide) (by decide)
 have o4:=v_Of [4,5,6] (by decide) (by decide)
 have o5:=v_Of [2,3] (by decide) (by decide)
 have o6:=v_Of [1,0] (by decide) (by decide)
 have o7:=v_Of [0,1] (by decide) (by decide)
 have o8:=v_Of [5,6,7] (by decide) (by decide)
 have o9:=v_Of [1] (by decide) (by decide)
 have o10:=v_Of [1,2] (by decide) (by decide)
 have o11:=v_Of [2, -7] (by decide) (by decide)
 have k2:=v_Axpy h12 (ofInts [1, -2]) (ofInts [0,3]) rfl (by decide) (by decide+kernel)
 have k3:=v_Dot (ofInts [1,2,3]) (ofInts [4,5,6]) rfl (by decide) (by unfold Fit;decide+kernel) (by decide+kernel)
 have k4:=v_Mix (ofInts [2,3]) [ofInts [1,0],ofInts [0,1]] 2 10 rfl (by decide) (by decide) (by decide) (by decide) (by decide+kernel) (by decide+kernel) (by decide)
 have k5:=v_Part (ofInts [5,6,7]) [2,0,2] (by decide) (by decide) (by decide)
 have k6:=v_AddE (ofInts [1]) (ofInts [1,2]) (by decide) (by decide) (by decide)
 have t1:=t_Vec (ofInts [1, -2]) (by decide) (by decide+kernel) (by decide+kernel)
 have t2:=t_Vec (vaxpy h12 (ofInts [1, -2]) (ofInts [0,3])) (by decide) (by decide+kernel) (by decide+kernel)
 have t3:=t_Vec (mixN (ofInts [2,3]) [ofInts [1,0],ofInts [0,1]] 2 [ofInts [1,0],ofInts [0,1]].length) (by decide) (by decide+kernel) (by decide+kernel)
 have t4:=t_Vec (vpart (ofInts [5,6,7]) [2,0,2]) (by decide) (by decide+kernel) (by decide+kernel)
 have t5:=(t_Vec [] (by decide) (by decide) (by decide)).nil1 (a:=none)
 have k7:=c_fInt 32 (by decide) (by decide)
 have k8:=c_fInt 7 (by decide) (by decide)
 have k9:=v_UnitI 2 2 (by decide) (by decide)
 have k10:=v_ZeroE (-1) (by decide)
 have k11:=v_ZeroE 2049 (by decide)
 have k12:=v_Max (ofInts [2, -7]) (by decide) 100 (by decide) (by decide) (by decide+kernel)
 have k13:=(v_Max [] (by decide) 100 (by decide) (by decide) (by decide)).nil1 (a:=none)
 have q1:(!(tV (ofInts [1, -2])).toList==(ByteArray.mk #[91,49,32,45,50,93]).toList)=false:=by decide+kernel
 have q2:(!(tV (vaxpy h12 (ofInts [1, -2]) (ofInts [0,3]))).toList==(ByteArray.mk #[91,49,47,50,32,50,93]).toList)=false:=by decide+kernel
 have q3:(!(tV (mixN (ofInts [2,3]) [ofInts [1,0],ofInts [0,1]] 2 [ofInts [1,0],ofInts [0,1]].length)).toList==(ByteArray.mk #[91,50,32,51,93]).toList)=false:=by decide+kernel
 have q4:(!(tV (vpart (ofInts [5,6,7]) [2,0,2])).toList==(ByteArray.mk #[91,55,32,53,32,55,93]).toList)=false:=by decide+kernel
 have q5:(!decide (vdot (ofInts [1,2,3]) (ofInts [4,5,6])=((32:Int):Rat)))=false:=by decide+kernel
 have q6:(alikeF [ofInts [1],ofInts [1,2]] != 1)=false:=by decide+kernel
 have q7:(decide (vmax (ofInts [2, -7])=((7:Int):Rat)))=true:=by decide+kernel
 have q8:(decide (vmax []=(0:Rat)))=true:=by decide+kernel
 have q9:((tV []).toList==(ByteArray.mk #[91,93]).toList)=true:=by decide+kernel
 refine callV (Z:=[24,29,35,37,43,45,47,49,54,56,61,63,134]) tabOK mixedOK Tryz.func18 rfl (by kernel_rfl) rfl rfl (by kernel_rfl) rfl ?_
 intro W0 w0 ρ0 hE
 conv=>whnf
 (repeat((first|refine step_w1 rfl rfl ?_|refine step_w2 rfl rfl ?_|refine step_i (by kernel_rfl) ?_|refine g_c (by assumption) ?_|refine g_o (op_pickT rfl (ev_ok rfl) (ev_ok rfl)) ?_|refine g_o (op_pickF rfl (ev_ok rfl) (ev_ok rfl)) ?_|rw[beq_self_eq_true]|rw[bne_self_eq_false]|refine⟨_,op_eqAgg tabOK goodOK rfl (ev_ok rfl) (ev_ok rfl) rfl rfl rfl rfl (q_same _ _) q_guard, ?_⟩|refine⟨_,op_neAgg tabOK goodOK rfl (ev_ok rfl) (ev_ok rfl) rfl rfl rfl rfl (q_same _ _) q_guard, ?_⟩|rw[q1]|rw[q2]|rw[q3]|rw[q4]|rw[q5]|rw[q6]|rw[q7]|rw[q9]);conv=>whnf));(first|exact Recast.refl _|exact Frz.recast (Recast.refl _) rfl|(refine Frz.one rfl rfl ?_;skip)|(refine Frz.tup ?_;skip))
end Go.Proofs.YtjofnbpcanhfhabGreatDoor
namespace Go.Proofs.YtjofnbpcanhfhabGreatDoor
open Go.Sx
set_option linter.unusedSimpArgs false
set_option linter.unusedVariables false
set_option maxRecDepth 100000
set_option maxHeartbeats 4000000
def Sm (B:Nat) (l:List Rat):Prop:=∀i,i<l.length→fs (l.getD i 0)≤B
theorem Sm_V {l:List (Int×Int)} (h:∀q∈l,qOK q):Sm 130 (l.map qV):=by
 intro i hi
 rw[List.length_map]at hi
 rw[map_get (f:=qV) (d:=(0,0)) hi]
 exact fs_qV (h _ (getD_mem hi))
theorem Sm_zip {op:Rat→Rat→Rat} {a b:List Rat} {A B:Nat} (hop:∀x y,fs (op x y)≤fs x+fs y) (ha:Sm A a) (hb:Sm B b) (hab:a.length=b.length):Sm (A+B) (List.zipWith op a b):=by
 intro i hi
 rw[List.length_zipWith]at hi
 rw[zip_get (d1:=0) (d2:=0) (by omega) (by omega)]
 have h1:=hop (a.getD i 0) (b.getD i 0)
 have h2:=ha i (by omega)
 have h3:=hb i (by omega)
 omega
theorem Sm_scale {c:Rat} {a:List Rat} {A C:Nat} (hc:fs c≤C) (ha:Sm A a):Sm (C+A) (vscale c a):=by
 intro i hi
 rw[List.length_zipWith]at hi
 rw[zip_get (d1:=0) (d2:=0) (by omega) (by omega)]
 have h1:=fs_mul c (a.getD i 0)
 have h2:=ha i (by omega)
 omega
theorem fsL_Sm:∀{l:List Rat} {B:Nat},Sm B l→fsL l≤l.length*B
 |[],_,_=>by simp[fsL]
 |q::l,B,h=>by
  have h1:=h 0 (by simp)
  have h2:=fsL_Sm (l:=l) (B:=B) (fun i hi=>h (i+1) (by simpa using hi))
  have e:fsL (q::l)=fs q+fsL l:=by simp[fsL]
  rw[e,List.length_cons,Nat.succ_mul]
  have:fs q≤B:=h1
  omega
theorem Fit_Sm {a b:List Rat} {A B:Nat} (ha:Sm A a) (hb:Sm B b) (hab:a.length=b.length) (h:A+B≤1073741824):Fit a b:=by
 intro i hi
 have h1:=ha i hi
 have h2:=hb i (by omega)
 omega
theorem fs_vdot {a b:List Rat} {A B n:Nat} (ha:Sm A a) (hb:Sm B b) (h1:a.length=n) (h2:b.length=n):fs (vdot a b)≤2+n*(A+B):=by
 have h:=fsL_Sm (Sm_zip fs_mul ha hb (h1.trans h2.symm))
 rw[zip_len h1 h2]at h
 have h3:=fs_sum (vmul a b) 0
 rw[fs_zero]at h3
 unfold vdot
 exact Nat.le_trans h3 (Nat.add_le_add_left h 2)
theorem s_dot {a b:List Rat} {A B n:Nat} (ha:Sm A a) (hb:Sm B b) (h1:a.length=n) (h2:b.length=n) (hn:n≤2048) (h:A+B+n*(A+B)+2≤1073741824):CallOK Tryz.prog 43 [fvec a,fvec b] [] (.frac (vdot a b)) [] []:=by
 have hs:fsL (vmul a b)≤_:=fsL_Sm (Sm_zip fs_mul ha hb (h1.trans h2.symm))
 rw[zip_len h1 h2]at hs
 exact l_dot a b (h1.trans h2.symm) (by omega) (Fit_Sm ha hb (h1.trans h2.symm) (by omega)) (by omega)
theorem s_dot20 {a b:List Rat} {A B n:Nat} (ha:Sm A a) (hb:Sm B b) (h1:a.length=n) (h2:b.length=n) (hn:n≤20) (h:A+B+20*(A+B)+2≤1073741824):CallOK Tryz.prog 43 [fvec a,fvec b] [] (.frac (vdot a b)) [] []:=
 s_dot ha hb h1 h2 (by omega) (by have:=Nat.mul_le_mul_right (A+B) hn;omega)
theorem fs_vdot20 {a b:List Rat} {A B n:Nat} (ha:Sm A a) (hb:Sm B b) (h1:a.length=n) (h2:b.length=n) (hn:n≤20):fs (vdot a b)≤2+20*(A+B):=by
 have:=fs_vdot ha hb h1 h2
 have:=Nat.mul_le_mul_right (A+B) hn
 omega
theorem s_add {a b:List Rat} {A B n:Nat} (ha:Sm A a) (hb:Sm B b) (h1:a.length=n) (h2:b.length=n) (hn:n≤2048) (h:A+B≤1073741824):CallOK Tryz.prog 39 [fvec a,fvec b] [] (fvec (vadd a b)) [] []:=
 l_add a b (h1.trans h2.symm) (by omega) (Fit_Sm ha hb (h1.trans h2.symm) h)
theorem s_times {c:Rat} {a:List Rat} {A C n:Nat} (hc:fs c≤C) (ha:Sm A a) (h1:a.length=n) (hn:n≤2048) (h:C+A≤1073741824):CallOK Tryz.prog 40 [.frac c,fvec a] [] (fvec (vscale c a)) [] []:=
 l_times c a (by omega) (fun i hi=>by have:=ha i hi;omega)
abbrev QWf (l:List (Int×Int)):Prop:=l.length≤maxLen∧∀x∈l,((Lit.int .i64 x.1).wf=true)∧((Lit.int .u32 x.2).wf=true)
theorem qOK_of {l:List (Int×Int)} (w:l.length≤maxLen∧∀x∈l,((Lit.int .i64 x.1).wf=true)∧((Lit.int .u32 x.2).wf=true)):∀q∈l,qOK q:=fun q hq=>⟨wf_i64 (w.2 q hq).1,wf_u32 (w.2 q hq).2⟩
theorem qOK_one {q:Int×Int} (w:((Lit.int .i64 q.1).wf=true)∧((Lit.int .u32 q.2).wf=true)):qOK q:=⟨wf_i64 w.1,wf_u32 w.2⟩
theorem Sm_take {l:List (Int×Int)} (h:∀q∈l,qOK q) (n:Nat):Sm 130 ((l.take n).map qV):=Sm_V (l:=l.take n) (fun q hq=>h q (List.mem_of_mem_take hq))
theorem len_take {l:List (Int×Int)} {n:Nat} (hn:n≤l.length):((l.take n).map qV).length=n:=by rw[List.length_map,List.length_take];omega
theorem c_Vt {l:List (Int×Int)} (h:∀q∈l,qOK q) {n:Nat} (hn:n≤2048):CallOK Tryz.prog 20 [mvec 2 qA (l.take n)] [] (fvec ((l.take n).map qV)) [] []:=
 c_V (l.take n) (by rw[List.length_take];omega) (fun q hq=>h q (List.mem_of_mem_take hq))
theorem Sm_zero (n:Nat):Sm 2 (List.replicate n 0):=by
 intro i hi
 rw[List.length_replicate]at hi
 simp[List.getD_eq_getElem?_getD,hi,fs_zero]
section
variable {a b z:List Rat} {n i:Nat} {c:Rat}
theorem vec_ext (ha:a.length=n) (hb:b.length=n) (h:∀i,i<n→a.getD i 0=b.getD i 0):a=b:=by
 refine List.ext_getElem (ha.trans hb.symm) fun i h1 h2=> ?_
 have:=h i (by omega)
 rwa [List.getD_eq_getElem?_getD,List.getD_eq_getElem?_getD,List.getElem?_eq_getElem h1,List.getElem?_eq_getElem h2]at this
theorem get_add (ha:a.length=n) (hb:b.length=n) (hi:i<n):(vadd a b).getD i 0=a.getD i 0+b.getD i 0:=zip_get (by omega) (by omega)
theorem get_sub (ha:a.length=n) (hb:b.length=n) (hi:i<n):(vsub a b).getD i 0=a.getD i 0 - b.getD i 0:=zip_get (by omega) (by omega)
theorem get_scale (ha:a.length=n) (hi:i<n):(vscale c a).getD i 0=c*a.getD i 0:=zip_get (d2:=0) (by omega) (by omega)
theorem get_zero (hi:i<n):(List.replicate n (0:Rat)).getD i 0=0:=by simp[List.getD_eq_getElem?_getD,hi]
theorem sum_add (f g:Nat→Rat):∀n,sumR n (fun i=>f i+g i)=sumR n f+sumR n g
 |0=>by simp only[sumR];grind
 |n+1=>by simp only[sumR];rw[sum_add f g n];grind
theorem sum_smul (c:Rat) (f:Nat→Rat):∀n,sumR n (fun i=>c*f i)=c*sumR n f
 |0=>by simp only[sumR];grind
 |n+1=>by simp only[sumR];rw[sum_smul c f n];grind
theorem dot_comm (ha:a.length=n) (hb:b.length=n):vdot a b=vdot b a:=by
 rw[vdot_sum ha hb,vdot_sum hb ha]
 exact sum_congr n fun i _=>Rat.mul_comm _ _
theorem dot_add (ha:a.length=n) (hb:b.length=n) (hz:z.length=n):vdot (vadd a b) z=vdot a z+vdot b z:=by
 rw[vdot_sum (zip_len ha hb) hz,vdot_sum ha hz,vdot_sum hb hz,←sum_add]
 exact sum_congr n fun i hi=>by rw[get_add ha hb hi];grind
theorem dot_scale (ha:a.length=n) (hz:z.length=n):vdot (vscale c a) z=c*vdot a z:=by
 rw[vdot_sum (zip_len ha ha) hz,vdot_sum ha hz,←sum_smul]
 exact sum_congr n fun i hi=>by rw[get_scale ha hi];grind
theorem s_same (ha:a.length=n) (hb:b.length=n) (hn:n≤2048) (h:a=b):CallOK Tryz.prog 36 [fvec a,fvec b] [] (.val (.bool true)) [] []:=by
 have:=v_Same a b (by omega) (by omega)
 rwa [decide_eq_true h]at this
end
theorem l_cut (a b:List (Int×Int)) (ha:a.length<1099511627776) (hb:b.length<1099511627776):CallOK Tryz.prog 19 [mvec 2 qA a,mvec 2 qA b] [] (.tup [mvec 2 qA (a.take (min a.length b.length)),mvec 2 qA (b.take (min a.length b.length))]) [] []:=by
 have e1:(if (b.length:Int)<(a.length:Int)then(b.length:Int)else(a.length:Int))=((min a.length b.length:Nat):Int):=by split<;>omega
 refine callV (Z:=[]) tabOK mixedOK Tryz.func19 rfl (by kernel_rfl) rfl rfl (by kernel_rfl) rfl ?_
 intro W0 w0 ρ0 hE
 conv=>whnf
 (repeat((first|refine step_i (by kernel_rfl) ?_|refine g_o (op_lenM rfl rfl rfl (ev_ok rfl) (tgt rfl) rfl) ?_|refine g_o (op_sliceM rfl (ev_ok rfl) (bound_spec rfl) (bound_spec rfl) (.inl rfl) (tgt rfl) rfl (tgt rfl) rfl (by omega)) ?_|rw[e1]|rw[Int.toNat_natCast]);conv=>whnf));(first|exact Recast.refl _|exact Frz.recast (Recast.refl _) rfl|(refine Frz.one rfl rfl ?_;skip)|(refine Frz.tup ?_;skip))
end Go.Proofs.YtjofnbpcanhfhabGreatDoor
