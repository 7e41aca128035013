/- The texts Ek, Em, Ga, Gb, Gc, Gd, Ge, Shelf, Ha, Pa, Hd, Ja, Na, Nb, Nc, Nd, Ne, Nf, Ng, Nh, Nk, Nl, Ma, Mb, Mc, Mi, Np, Ab, Ac, Jb, Ta, Tb, Tc, Ka. -/
import Derived.Shelf.Strings.Builder1
import Derived.Shelf.Strings.Builder2
import Derived.Shelf.Strings.OnBuilder
import Derived.Shelf.Small.Bits
import Derived.Shelf.Strings.BuilderF
import Derived.Shelf.Strings.Builder2Cap
import Derived.Shelf.Strconv.Itoa0
import Derived.Shelf.Strconv.Itoa1
import Derived.Shelf.LaysM
import Derived.Shelf.Strconv.Itoa2
import Derived.Shelf.Strconv.Itoa3
import Derived.Shelf.Strings.Prefix
import Derived.Shelf.Bits.Mul64
import Derived.Shelf.Strings.Repeat
import Derived.Ground.Names2Prog
import Derived.Shelf.Slices.ReverseS
import Derived.Shelf.Slices.Cells
import Derived.Test.YtfjhnollamkdcaaGreatDoorProg
import Derived.Lib.Walk
import Derived.Lib.ItoaMem
import Derived.Lib.AppendIntMem
import Derived.WalkKit
import Derived.BigCall
import Derived.BigGuard
import Derived.Test.YtfjhnollamkdcaaGreatDoorQsA4
namespace Go.Proofs.YtfjhnollamkdcaaGreatDoor
open Go.Sx
set_option linter.unusedSimpArgs false
set_option linter.unusedVariables false
set_option maxRecDepth 100000
set_option maxHeartbeats 8000000
theorem c_Div (a b:Nat) (ha:(wInts a).length<274877906944) (hb:(wInts b).length<274877906944) (h0:b≠0):
  CallOK Tryz.prog 152 [.nat a,.nat b] [] (.tup [.nat (a/b),.nat (a % b),.val (.bool true)]) [] []:=by
 by_cases hs:a<18446744073709551616∧b<18446744073709551616
 ·exact s_Div a b hs.1 hs.2 h0
 have kz:=c_nZero b
 rw[decide_eq_false h0]at kz
 have kc:=c_Cmp a b (by omega) (by omega)
 have kb:=c_words b 1002 (by omega)
 have ka:=c_words a 1001 (by omega)
 by_cases hlt:a<b
 ·have t1:Hid (decide (((a:Int) - b).sign<0)=true):=show decide (((a:Int) - b).sign<0)=true from decide_eq_true (Int.sign_neg_iff.2 (by omega))
  rw[Nat.div_eq_of_lt hlt,Nat.mod_eq_of_lt hlt]
  refine callV (Z:=[]) tabOK mixedOK Tryz.func152 rfl (by kernel_rfl) rfl rfl (by kernel_rfl) rfl ?_
  intro W0 w0 ρ0 hE
  conv=>whnf
  (repeat((first|refine step_w1 rfl rfl ?_|refine step_w2 rfl rfl ?_|refine step_i (by kernel_rfl) ?_|refine g_c (by assumption) ?_|rw[t1.out]);conv=>whnf));exact Recast.refl _
 have t1:Hid (decide (((a:Int) - b).sign<0)=false):=show decide (((a:Int) - b).sign<0)=false from decide_eq_false (by have:=Int.sign_nonneg_iff.2 (show 0≤(a:Int) - b by omega);omega)
 have hbig:¬a<18446744073709551616:=by omega
 have hlen:(wInts b).length≤(wInts a).length:=len_le_of (Nat.lt_of_le_of_lt (Nat.le_of_not_lt hlt) (lt_of_len a))
 have hA:wArr a=wInts a:=if_neg hbig
 rw[hA]at ka
 have htop:=wt_top b
 have hb0:(wInts b).length≠0:=(wInts_top h0).1
 have hval:=wInts_val a
 have hvb:=wArr_val b
 have hbl:=wArr_len b
 have hbl2:(wArr b).length<549755813888:=by
  have:=wArr_len2 b (M:=274877906944) (by omega) (by omega)
  omega
 by_cases hone:(wInts b).length=1
 ·rw[hone]at kb hvb htop
  obtain⟨y,hy⟩:=Int.eq_ofNat_of_zero_le (wArr_w32 b 0).1
  have hy2:=(wArr_w32 b 0).2
  have hyb:y=b:=by
   rw[valI,valI,Int.pow_zero,hy]at hvb
   omega
  subst hyb
  have ks:=c_short (wInts a) (wInts a).length (Nat.le_refl _) (by omega) (wInts_w32 a) y h0 (by omega) 1001 2001 (by decide) true a hval
  have hq:(valI (digs (a/y) (wInts a).length) (wInts a).length).toNat=a/y:=by
   rw[valI_digs,Nat.mod_eq_of_lt (Nat.lt_of_le_of_lt (Nat.div_le_self _ _) (lt_of_len a))];exact Int.toNat_natCast _
  have ko:=c_of (digs (a/y) (wInts a).length) (wInts a).length (by rw[digs_len];exact Nat.le_refl _) (by rw[digs_len];omega) (digs_w32 _ _) 2001 true
  rw[hq]at ko
  have hr:a % y<y:=Nat.mod_lt _ (by omega)
  have i1:Hid (IntKind.u64.wrap ((a % y:Nat):Int)=((a % y:Nat):Int)):=show IntKind.u64.wrap ((a % y:Nat):Int)=((a % y:Nat):Int)from wu64 (by omega)
  have i2:Hid ((wArr y).getD (0+Int.toNat 0) 0=(y:Int)):=show(wArr y).getD (0+Int.toNat 0) 0=(y:Int)from hy
  refine callV (Z:=[]) tabOK mixedOK Tryz.func152 rfl (by kernel_rfl) rfl rfl (by kernel_rfl) rfl ?_
  intro W0 w0 ρ0 hE
  conv=>whnf
  (repeat(first|(refine step_w2 rfl rfl ?_;conv=>whnf)|(refine g_c (by assumption) ?_;conv=>whnf)|(rw[t1.out];conv=>whnf)))
  rw[big_eq,decide_eq_false hbig]
  (repeat((first|refine step_w1 rfl rfl ?_|refine step_w2 rfl rfl ?_|refine step_i (by kernel_rfl) ?_|refine step_oL (by first|omega|decide|(simp only[tl0,dlen,List.length_replicate,List.length_set,List.length_map,List.length_zipWith,List.length_take,List.length_append,List.length_cons,List.length_nil];omega)) ?_|refine step_oA (by first|omega|decide|(simp only[tl0,dlen,List.length_replicate,List.length_set,List.length_map,List.length_zipWith,List.length_take,List.length_append,List.length_cons,List.length_nil];omega)) ?_|refine g_cn (by assumption) rfl ?_|refine g_c1 (by assumption) rfl ?_|refine g_c1n (by assumption) rfl rfl ?_|rw[i2.out]|rw[i1.out]);conv=>whnf))
  refine recast_tup3 (fun _ _ h=>h) rfl (hasC_nat ?_ rfl (by omega)) rfl (fun _ _ h=>h) rfl
  rfl
 ·have hn2:2≤(wInts b).length:=by omega
  have htop':(wArr b).getD ((wInts b).length - 1) 0≠0:=htop.resolve_left hb0
  have hbg:4294967296^((wInts b).length - 1)≤b:=by
   have:=valI_ge (wArr_w32 b) htop'
   rw[show(wInts b).length - 1+1=(wInts b).length from by omega,hvb,←natPowW]at this
   omega
  have hqb:a/b<4294967296^((wInts a).length+1 - (wInts b).length):=by
   refine Nat.div_lt_of_lt_mul (Nat.lt_of_lt_of_le (lt_of_len a) ?_)
   have e:4294967296^(wInts a).length=4294967296^((wInts b).length - 1)*4294967296^((wInts a).length+1 - (wInts b).length):=by rw[←Nat.pow_add];congr 1;omega
   rw[e]
   exact Nat.mul_le_mul_right _ hbg
  have hrb:a % b<4294967296^((wInts a).length+1):=Nat.lt_of_le_of_lt (Nat.mod_le _ _) (Nat.lt_of_lt_of_le (lt_of_len a) (Nat.pow_le_pow_right (by decide) (by omega)))
  have kl:=CallOK.anyWr (c_long (wInts a) (wArr b) (wInts a).length (wInts b).length a b (Nat.le_refl _) hbl (by omega) hbl2 (wInts_w32 a) (wArr_w32 b) hval hvb hn2 htop' hlen 1001 1002 2001 2002 (by decide) (by decide) (by decide)) (fk:=[(1001,⟨23,true,.ints .u32 (wInts a)⟩),(1002,⟨23,true,.ints .u32 (wArr b)⟩)])
  have ko1:=c_of (digs (a/b) ((wInts a).length+1 - (wInts b).length)) ((wInts a).length+1 - (wInts b).length) (by rw[digs_len];exact Nat.le_refl _) (by rw[digs_len];omega) (digs_w32 _ _) 2001 true
  have ko2:=c_of (digs (a % b) ((wInts a).length+1)) ((wInts a).length+1) (by rw[digs_len];exact Nat.le_refl _) (by rw[digs_len];omega) (digs_w32 _ _) 2002 true
  rw[valI_digs,Nat.mod_eq_of_lt hqb,Int.toNat_natCast]at ko1
  rw[valI_digs,Nat.mod_eq_of_lt hrb,Int.toNat_natCast]at ko2
  have t2:Hid ((((wInts b).length:Int)==1)=false):=show(((wInts b).length:Int)==1)=false from by simp;omega
  have t3:Hid (decide (((wInts b).length:Int)=1)=false):=show decide (((wInts b).length:Int)=1)=false from by simp;omega
  refine callV (Z:=[]) tabOK mixedOK Tryz.func152 rfl (by kernel_rfl) rfl rfl (by kernel_rfl) rfl ?_
  intro W0 w0 ρ0 hE
  conv=>whnf
  (repeat(first|(refine step_w2 rfl rfl ?_;conv=>whnf)|(refine g_c (by assumption) ?_;conv=>whnf)|(rw[t1.out];conv=>whnf)))
  rw[big_eq,decide_eq_false hbig]
  (repeat((first|refine step_w2 rfl rfl ?_|refine g_cn (by assumption) rfl ?_|refine g_c1 (by assumption) rfl ?_|refine⟨[_,_],_,[_,_],[],(by assumption),two_fk rfl rfl,two_new rfl rfl,nil_upd, ?_⟩|rw[t2.out]);conv=>whnf))
  exact Recast.refl _
theorem c_Gcd (a b:Nat) (ha:(wInts a).length<274877906944) (hb:(wInts b).length<274877906944):
  CallOK Tryz.prog 151 [.nat a,.nat b] [] (.nat (Nat.gcd a b)) [] []:=by
 refine callV (Z:=[]) tabOK mixedOK Tryz.func151 rfl (by kernel_rfl) rfl rfl (by kernel_rfl) rfl ?_
 intro W0 w0 ρ0 hE
 conv=>whnf
 refine SW_loopN hE (fun k=>k) [2,3,4] [2,3,4] (fun m fr hp=>∃x,(wInts x).length<274877906944∧(wInts m).length<274877906944∧Nat.gcd x m=Nat.gcd a b∧fr=[(2,.ptr 2 0 0 0),(3,.ptr 3 0 0 0),(4,.ptr 4 0 0 0)]∧hp=[(2,⟨43,true,.one [.nat x]⟩),(3,⟨43,true,.one [.nat m]⟩),(4,⟨43,true,.one [.nat 0]⟩)]) b ?_ ?_ ?_
 ·kernel_rfl
 ·exact⟨a,ha,hb,rfl,rfl,rfl⟩
 rintro m _ _ ⟨x,hx,hm,hg,rfl,rfl⟩
 have kz:=c_nZero m
 by_cases h0:m=0
 ·rw[decide_eq_true h0]at kz
  subst h0
  rw[←hg,Nat.gcd_zero_right]
  conv=>whnf
  (repeat(first|(refine step_w2 rfl rfl ?_;conv=>whnf)|(refine g_c (by assumption) ?_;conv=>whnf)));exact Recast.refl _
 ·rw[decide_eq_false h0]at kz
  have kd:=c_Div x m hx hm h0
  have hlt:=Nat.mod_lt x (Nat.pos_of_ne_zero h0)
  conv=>whnf
  (repeat(first|(refine step_w1 rfl rfl ?_;conv=>whnf)|(refine step_i (by kernel_rfl) ?_;conv=>whnf)|(refine g_c (by assumption) ?_;conv=>whnf)))
  refine⟨x % m,fun k=>k,[2,3,4],[2,3,4],hlt,by kernel_rfl,m,hm, ?_, ?_,rfl,rfl⟩
  ·exact Nat.lt_of_le_of_lt (len_le_of (Nat.lt_trans hlt (lt_of_len m))) hm
  ·rw[←hg,Nat.gcd_comm m,←Nat.gcd_rec,Nat.gcd_comm]
end Go.Proofs.YtfjhnollamkdcaaGreatDoor
namespace Go.Proofs.YtfjhnollamkdcaaGreatDoor
open Go.Sx
set_option linter.unusedSimpArgs false
set_option linter.unusedVariables false
theorem len_sz {n:Nat} (h:sz n≤1073741824):(wInts n).length<274877906944:=by
 have:=wlen_sz (n:=n) (M:=33554432) (by omega)
 omega
theorem natBig:NatOK 1073741824 where
 big:=by decide
 cmp a b ha hb:=c_Cmp a b (by have:=len_sz ha;omega) (by have:=len_sz hb;omega)
 add a b h:=n_Add a b (by have:=len_sz (n:=a) (Nat.le_trans (sz_mono (by omega)) h);omega) (by have:=len_sz (n:=b) (Nat.le_trans (sz_mono (by omega)) h);omega)
 sub a b ha h:=n_Sub a b (by have:=len_sz ha;omega) h
 subF a b hb h:=c_SubF a b (by have:=len_sz hb;have:=len_le_of (Nat.lt_trans h (lt_of_len b));omega) (by have:=len_sz hb;omega) h
 mul a b h:=n_Mul a b (len_sz (by omega)) (len_sz (by omega))
 div a b ha hb h0:=c_Div a b (len_sz ha) (len_sz hb) h0
 divZ a:=c_DivZ a
 gcd a b ha hb:=c_Gcd a b (len_sz ha) (len_sz hb)
end Go.Proofs.YtfjhnollamkdcaaGreatDoor
namespace Go.Proofs.YtfjhnollamkdcaaGreatDoor
open Go.Sx
set_option linter.unusedSimpArgs false
set_option linter.unusedVariables false
set_option maxRecDepth 100000
set_option maxHeartbeats 4000000
def fs (q:Rat):Nat:=fsz q+1
theorem fs_add (a b:Rat):fs (a+b)≤fs a+fs b:=by have:=@fsz_add a b;unfold fs;omega
theorem fs_sub (a b:Rat):fs (a - b)≤fs a+fs b:=by have:=@fsz_sub a b;unfold fs;omega
theorem fs_mul (a b:Rat):fs (a*b)≤fs a+fs b:=by have:=@fsz_mul a b;unfold fs;omega
theorem fs_neg (a:Rat):fs (-a)=fs a:=by unfold fs;rw[fsz_neg]
theorem fs_inv (a:Rat):fs a⁻¹≤fs a:=by have:=fsz_inv a;unfold fs;omega
theorem fs_div (a b:Rat):fs (a/b)≤fs a+fs b:=by rw[Rat.div_def];have h1:=fs_mul a b⁻¹;have h2:=fs_inv b;omega
theorem fs_zero:fs 0=2:=by decide+kernel
theorem fs_one:fs 1=2:=by decide+kernel
theorem fs_two (q:Rat):2≤fs q:=by have:=fsz_den q;have:=sz_one_le q.den q.den_nz;unfold fs;omega
theorem fs_int {n:Int} (h0: -9223372036854775808≤n) (h1:n<9223372036854775808):fs (n:Rat)≤65:=by
 have:=fsz_int (n:=n) (k:=64) (sz_i64 h0 h1) (by decide);unfold fs;omega
theorem f_Add (a b:Rat) (h:fs a+fs b≤1073741824):CallOK Tryz.prog 37 [.frac a,.frac b] [] (.frac (a+b)) [] []:=c_fAdd natBig a b (by unfold fs at h;omega)
theorem f_Mul (a b:Rat) (h:fs a+fs b≤1073741824):CallOK Tryz.prog 32 [.frac a,.frac b] [] (.frac (a*b)) [] []:=c_fMul natBig a b (by unfold fs at h;omega)
theorem c_iCmp (a b:Int) (ha:sz a.natAbs<1073741824) (hb:sz b.natAbs<1073741824):CallOK Tryz.prog 95 [.int a,.int b] [] (.val (.int .i64 (a - b).sign)) [] []:=by
 have k1:=c_iSub natBig a b ha hb
 have k2:=c_Sign (a - b)
 refine callV (Z:=[]) tabOK mixedOK Tryz.func95 rfl (by kernel_rfl) rfl rfl (by kernel_rfl) rfl ?_
 intro W0 w0 ρ0 hE
 conv=>whnf
 (repeat(first|(refine g_c (by assumption) ?_;conv=>whnf)));(first|exact Recast.refl _|exact Frz.recast (Recast.refl _) rfl|(refine Frz.one rfl rfl ?_;skip)|(refine Frz.tup ?_;skip))
end Go.Proofs.YtfjhnollamkdcaaGreatDoor
namespace Go.Proofs.YtfjhnollamkdcaaGreatDoor
open Go.Sx
set_option linter.unusedSimpArgs false
set_option linter.unusedVariables false
set_option maxRecDepth 100000
set_option maxHeartbeats 4000000
def alikeF (ls:List (List Rat)):Int:=if ls.any (fun v=>decide (2048<v.length))then 3 else if ls.all (fun v=>v.length==(ls.headD []).length)then 0 else 1
theorem v_alike (ls:List (List Rat)) (hn:ls.length<1099511627776) (hl:∀v∈ls,v.length<1099511627776):CallOK Tryz.prog 162 [mvec 1 fvec ls] [] (.val (.int .i64 (alikeF ls))) [] []:=by
 refine callV (Z:=[]) tabOK mixedOK Tryz.func162 rfl (by kernel_rfl) rfl rfl (by kernel_rfl) rfl ?_
 intro W0 w0 ρ0 hE
 conv=>whnf
 (repeat(first|(refine g_o (op_lenM rfl rfl rfl (ev_ok rfl) (tgt rfl) rfl) ?_;conv=>whnf)))
 refine SW_loopN hE (fun k=>k) [0,2,7,8,9] [] (fun m fr hp=>∃i,m=ls.length - i∧i≤ls.length∧(∀j,j<i→decide (2048<(ls.getD j []).length)=false)∧fr=[(0,mvec 1 fvec ls),(2,.val (.int .i64 0)),(7,mvec 1 fvec ls),(8,.val (.int .i64 (ls.length:Nat))),(9,.val (.int .i64 (i:Nat)))]∧hp=[]) ls.length ?_ ?_ ?_
 ·kernel_rfl
 ·exact⟨0,rfl,Nat.zero_le _,(fun j hj=>by omega),rfl,rfl⟩
 rintro m _ _ ⟨i,rfl,hi,hs,rfl,rfl⟩
 conv=>whnf
 by_cases hlt:i<ls.length
 ·have t1:=dlt hlt
  have t2:=winc (i:=i) (by omega)
  by_cases hL:2048<(ls.getD i []).length
  ·have t3:decide (((ls.getD i []).length:Int)>2048)=true:=decide_eq_true (by omega)
   have e:alikeF ls=3:=by rw[alikeF,if_pos (any_at (d:=[]) hlt (decide_eq_true hL))]
   rw[e]
   (repeat((first|refine step_w1 rfl rfl ?_|refine g_o (op_lenM rfl rfl rfl (ev_ok rfl) (tgt rfl) rfl) ?_|refine g_o (op_loadA rfl (ev_ok rfl) (tgt rfl) rfl (Nat.succ_ne_zero _) rfl) ?_|refine g_o (op_indexN (α:=List Rat) (d:=[]) rfl (ev_ok rfl) (ev_ok rfl) (tgt rfl) rfl (tgt rfl) rfl (by omega)) ?_|rw[t1]|rw[t3]);conv=>whnf));(first|exact Recast.refl _|exact Frz.recast (Recast.refl _) rfl|(refine Frz.one rfl rfl ?_;skip)|(refine Frz.tup ?_;skip))
  ·have t3:decide (((ls.getD i []).length:Int)>2048)=false:=decide_eq_false (by omega)
   (repeat((first|refine step_w1 rfl rfl ?_|refine step_w2 rfl rfl ?_|refine g_o (op_lenM rfl rfl rfl (ev_ok rfl) (tgt rfl) rfl) ?_|refine g_o (op_loadA rfl (ev_ok rfl) (tgt rfl) rfl (Nat.succ_ne_zero _) rfl) ?_|refine g_o (op_indexN (α:=List Rat) (d:=[]) rfl (ev_ok rfl) (ev_ok rfl) (tgt rfl) rfl (tgt rfl) rfl (by omega)) ?_|rw[t1]|rw[t3]|rw[t2]);conv=>whnf))
   refine⟨ls.length - (i+1),fun k=>k,[0,2,7,8,9],[],by omega,by kernel_rfl,i+1,rfl,hlt, ?_,rfl,rfl⟩
   intro j hj
   by_cases hji:j=i
   ·rw[hji];exact decide_eq_false hL
   ·exact hs j (by omega)
 ·have t1:=dge hlt
  have hI:i=ls.length:=by omega
  subst hI
  have hshort:ls.any (fun v=>decide (2048<v.length))=false:=any_no [] hs
  (repeat(first|(refine step_w2 rfl rfl ?_;conv=>whnf)|(refine g_o (op_lenM rfl rfl rfl (ev_ok rfl) (tgt rfl) rfl) ?_;conv=>whnf)|(rw[t1];conv=>whnf)))
  refine SW_loopN hE (fun k=>k) [0,2,17,18,19] [] (fun m fr hp=>∃i,m=ls.length - i∧i≤ls.length∧(∀j,j<i→((ls.getD j []).length==(ls.headD []).length)=true)∧fr=[(0,mvec 1 fvec ls),(2,.val (.int .i64 0)),(17,mvec 1 fvec ls),(18,.val (.int .i64 (ls.length:Nat))),(19,.val (.int .i64 (i:Nat)))]∧hp=[]) ls.length ?_ ?_ ?_
  ·kernel_rfl
  ·exact⟨0,rfl,Nat.zero_le _,(fun j hj=>by omega),rfl,rfl⟩
  rintro m _ _ ⟨i,rfl,hi,hs,rfl,rfl⟩
  conv=>whnf
  by_cases hlt:i<ls.length
  ·have t1:=dlt hlt
   have t2:=winc (i:=i) (by omega)
   have h0:0<ls.length:=by omega
   have hh:ls.getD 0 []=ls.headD []:=by cases ls<;>rfl
   by_cases hL:(ls.getD i []).length=(ls.getD 0 []).length
   ·have t3:(((ls.getD i []).length:Int) != ((ls.getD 0 []).length:Int))=false:=by rw[hL];exact bne_self_eq_false _
    (repeat((first|refine step_w1 rfl rfl ?_|refine step_w2 rfl rfl ?_|refine g_o (op_lenM rfl rfl rfl (ev_ok rfl) (tgt rfl) rfl) ?_|refine g_o (op_loadA rfl (ev_ok rfl) (tgt rfl) rfl (Nat.succ_ne_zero _) rfl) ?_|refine g_o (op_indexN (α:=List Rat) (d:=[]) rfl (ev_ok rfl) (ev_ok rfl) (tgt rfl) rfl (tgt rfl) rfl (by omega)) ?_|rw[t1]|rw[t3]|rw[t2]);conv=>whnf))
    refine⟨ls.length - (i+1),fun k=>k,[0,2,17,18,19],[],by omega,by kernel_rfl,i+1,rfl,hlt, ?_,rfl,rfl⟩
    intro j hj
    by_cases hji:j=i
    ·rw[hji,hL,hh];exact beq_self_eq_true _
    ·exact hs j (by omega)
   ·have t3:(((ls.getD i []).length:Int) != ((ls.getD 0 []).length:Int))=true:=bne_iff_ne.2 (by omega)
    have e:alikeF ls=1:=by
     rw[alikeF,if_neg (by rw[hshort];exact Bool.false_ne_true),if_neg]
     rw[all_no (d:=[]) hlt (by rw[←hh];exact beq_false_of_ne hL)]
     exact Bool.false_ne_true
    rw[e]
    (repeat((first|refine step_w1 rfl rfl ?_|refine g_o (op_lenM rfl rfl rfl (ev_ok rfl) (tgt rfl) rfl) ?_|refine g_o (op_loadA rfl (ev_ok rfl) (tgt rfl) rfl (Nat.succ_ne_zero _) rfl) ?_|refine g_o (op_indexN (α:=List Rat) (d:=[]) rfl (ev_ok rfl) (ev_ok rfl) (tgt rfl) rfl (tgt rfl) rfl (by omega)) ?_|rw[t1]|rw[t3]);conv=>whnf));(first|exact Recast.refl _|exact Frz.recast (Recast.refl _) rfl|(refine Frz.one rfl rfl ?_;skip)|(refine Frz.tup ?_;skip))
  ·have t1:=dge hlt
   have hI:i=ls.length:=by omega
   subst hI
   have e:alikeF ls=0:=by
    rw[alikeF,if_neg (by rw[hshort];exact Bool.false_ne_true),if_pos (all_at [] hs)]
   rw[e]
   (repeat(first|(refine step_w2 rfl rfl ?_;conv=>whnf)|(rw[t1];conv=>whnf)));(first|exact Recast.refl _|exact Frz.recast (Recast.refl _) rfl|(refine Frz.one rfl rfl ?_;skip)|(refine Frz.tup ?_;skip))
theorem alike_two (a b:List Rat):alikeF [a,b]=if 2048<a.length∨2048<b.length then 3 else if a.length=b.length then 0 else 1:=by
 simp only[alikeF,List.any_cons,List.any_nil,Bool.or_false,Bool.or_eq_true,decide_eq_true_eq,List.all_cons,List.all_nil,Bool.and_true,List.headD_cons,beq_self_eq_true,Bool.true_and,beq_iff_eq]
 split
 ·rfl
 ·split
  ·rename_i h;rw[if_pos h.symm]
  ·rename_i h;rw[if_neg (fun h'=>h h'.symm)]
theorem v_each0 (F:Rat→Rat→Rat) (g:FuncId) (a b:List Rat) (hab:a.length=b.length) (hl:a.length≤2048)
  (hf:∀i,i<a.length→CallOK Tryz.prog g ([]++([.frac (a.getD i 0),.frac (b.getD i 0)]++[])) [] (.frac (F (a.getD i 0) (b.getD i 0))) [] []):
  CallOK Tryz.prog 112 [fvec a,fvec b,.clo g [] []] [] (.tup [fvec (List.zipWith F a b),.val (.int .i64 0)]) [] []:=by
 have k1:=v_alike [a,b] (by simp) (by simp;omega)
 rw[alike_two,if_neg (by omega),if_pos hab]at k1
 refine callF (Z:=[13]) tabOK mixedOK Tryz.func112 rfl (by kernel_rfl) (by first|rfl|(simp[keylessL,keyless,keylessL_map, *];done)) (by first|rfl|(simp[keylessL,keyless,keylessL_map, *];done)) (by kernel_rfl) rfl ?_
 intro w0 ρ0 hE
 conv=>whnf
 (repeat((first|refine step_w2 rfl rfl ?_|refine And.intro (by first|decide|omega|(simp only[tl0,dlen,List.length_replicate,List.length_set,List.length_map,List.length_zipWith,List.length_take,List.length_append,List.length_cons,List.length_nil];omega)) ?_|refine g_c (by assumption) ?_|rw[bne_self_eq_false]|refine g_o (op_lenM rfl rfl rfl (ev_ok rfl) (tgt rfl) rfl) ?_|rw[Int.toNat_natCast]);conv=>whnf))
 have hz:=zip_len (f:=F) rfl hab.symm
 refine SW_loopN hE (fun k=>k) [0,1,2,6,7,9,22,23] [20] (fun m fr hp=>∃i,m=a.length - i∧i≤a.length∧fr=[(0,fvec a),(1,fvec b),(2,.clo g [] []),(6,.val (.slice none 0 0)),(7,.val (.int .i64 0)),(9,.slc 20 5 0 a.length),(22,.val (.int .i64 (a.length:Nat))),(23,.val (.int .i64 (i:Nat)))]∧
  hp=[(20,⟨49,true,.fracs ((List.zipWith F a b).take i++List.replicate (a.length - i) 0)⟩)]) a.length ?_ ?_ ?_
 ·kernel_rfl
 ·exact⟨0,rfl,Nat.zero_le _,rfl,rfl⟩
 rintro m _ _ ⟨i,rfl,hi,rfl,rfl⟩
 conv=>whnf
 have hlen:=fill_len (d:=(0:Rat)) hi hz
 by_cases hlt:i<a.length
 ·have t1:=dlt hlt
  have t2:=winc (i:=i) (by omega)
  have k2:=hf i hlt
  rw[←zip_get (f:=F) (d3:=0) hlt (by omega)]at k2
  (repeat((first|refine step_w1 rfl rfl ?_|refine step_i (by kernel_rfl) ?_|refine And.intro (by first|decide|omega|(simp only[tl0,dlen,List.length_replicate,List.length_set,List.length_map,List.length_zipWith,List.length_take,List.length_append,List.length_cons,List.length_nil];omega)) ?_|refine g_c (by assumption) ?_|refine g_o (op_indexN (α:=Rat) (d:=0) rfl (ev_ok rfl) (ev_ok rfl) (tgt rfl) rfl (tgt rfl) rfl (by omega)) ?_|refine g_o (op_loadA rfl (ev_ok rfl) (tgt rfl) rfl (Nat.succ_ne_zero _) rfl) ?_|rw[t1]|rw[t2]|rw[Int.toNat_natCast]|rw[Nat.zero_add]);conv=>whnf))
  refine⟨a.length - (i+1),fun k=>k,[0,1,2,6,7,9,22,23],[20],by omega,by kernel_rfl,i+1,rfl,hlt,rfl, ?_⟩
  rw[←fill_set (e:=0) hlt hz]
  rfl
 ·have t1:=dge hlt
  have hI:i=a.length:=by omega
  subst hI
  rw[fill_all hz]
  (repeat(first|(refine step_w2 rfl rfl ?_;conv=>whnf)|(rw[t1];conv=>whnf)))
  (first|exact Recast.refl _|exact Frz.recast (Recast.refl _) rfl|(refine Frz.one rfl rfl ?_;skip)|(refine Frz.tup ?_;(repeat(first|exact FrzC.keyless rfl|exact FrzL.nil|refine FrzL.cons ?_ ?_|(refine FrzC.fracs rfl ?_;(first|rfl|omega|(simp<;>fail)|(simp<;>omega)))))))
end Go.Proofs.YtfjhnollamkdcaaGreatDoor
namespace Go.Proofs.YtfjhnollamkdcaaGreatDoor
open Go.Sx
set_option linter.unusedSimpArgs false
set_option linter.unusedVariables false
set_option maxRecDepth 100000
set_option maxHeartbeats 4000000
def fsL (l:List Rat):Nat:=(l.map fs).sum
theorem fs_sum (l:List Rat) (s:Rat):fs (l.foldl (·+·) s)≤fs s+fsL l:=by
 induction l generalizing s with
 |nil=>simp[fsL]
 |cons q l ih=>
  have:=ih (s+q)
  have:=fs_add s q
  simp only[List.foldl_cons,fsL,List.map_cons,List.sum_cons]at*
  omega
theorem f_totalAdd (s q:Rat) (h:fs s+fs q≤1073741824) (K:Nat):
  CallOK Tryz.prog 214 [.ptr K 0 0 0,.frac q] [(K,⟨267,true,.one [.frac s]⟩)] (.tup []) [] [(K,⟨267,true,.one [.frac (s+q)]⟩)]:=by
 have k1:=f_Add s q h
 refine callK (Z:=[]) tabOK mixedOK Tryz.func214 rfl (by kernel_rfl) (args:=[.ptr 0 0 0 0,.frac q]) (fk:=[(0,⟨267,true,.one [.frac s]⟩)]) (c:=.tup []) (new:=[]) (upd:=[(0,⟨267,true,.one [.frac (s+q)]⟩)]) (ShapeOK.of rfl rfl rfl rfl rfl rfl rfl rfl rfl rfl rfl) rfl (fun _=>K) NamesOK.upd ?_
 intro W0 w0 ρ0 hE
 conv=>whnf
 (repeat(first|(refine step_i (by kernel_rfl) ?_;conv=>whnf)|(refine g_c (by assumption) ?_;conv=>whnf)))
 exact⟨Recast.refl _,(fun _ _ h=>by cases h),fun k b hm=>by simp only[List.mem_singleton,Prod.mk.injEq]at hm;obtain⟨rfl,rfl⟩:=hm;rfl⟩
theorem take_snoc (l:List Rat) (i:Nat) (hi:i<l.length):l.take (i+1)=l.take i++[l.getD i 0]:=by rw[List.take_add_one,List.getD_eq_getElem?_getD,List.getElem?_eq_getElem hi];rfl
theorem foldl_take (l:List Rat) (i:Nat) (hi:i<l.length) (s:Rat):(l.take (i+1)).foldl (·+·) s=(l.take i).foldl (·+·) s+l.getD i 0:=by
 rw[take_snoc l i hi,List.foldl_append];rfl
theorem fsL_append (a b:List Rat):fsL (a++b)=fsL a+fsL b:=by unfold fsL;rw[List.map_append,List.sum_append]
theorem fsL_one (q:Rat):fsL [q]=fs q:=by simp[fsL]
theorem fsL_take (l:List Rat) (i:Nat) (hi:i<l.length):fsL (l.take i)+fs (l.getD i 0)≤fsL l:=by
 have h1:fsL (l.take (i+1))=fsL (l.take i)+fs (l.getD i 0):=by rw[take_snoc l i hi,fsL_append,fsL_one]
 have h3:fsL l=fsL (l.take (i+1))+fsL (l.drop (i+1)):=by rw[←fsL_append,List.take_append_drop]
 rw[h3,h1]
 exact Nat.le_add_right _ _
theorem f_each (l:List Rat) (s:Rat) (hn:l.length<1099511627776) (h:fs s+fsL l≤1073741824) (K:Nat):
  CallOK Tryz.prog 213 [.clo 214 [.ptr K 0 0 0] [],fvec l] [(K,⟨267,true,.one [.frac s]⟩)] (.tup []) [] [(K,⟨267,true,.one [.frac (l.foldl (·+·) s)]⟩)]:=by
 refine callK (Z:=[]) tabOK mixedOK Tryz.func213 rfl (by kernel_rfl) (args:=[.clo 214 [.ptr 1001 0 0 0] [],fvec l]) (fk:=[(1001,⟨267,true,.one [.frac s]⟩)]) (c:=.tup []) (new:=[]) (upd:=[(1001,⟨267,true,.one [.frac (l.foldl (·+·) s)]⟩)]) (ShapeOK.of rfl rfl rfl rfl rfl rfl rfl rfl rfl rfl rfl) rfl (fun _=>K) NamesOK.upd ?_
 intro W0 w0 ρ0 hE
 conv=>whnf
 (repeat(first|(refine g_o (op_lenM rfl rfl rfl (ev_ok rfl) (tgt rfl) rfl) ?_;conv=>whnf)))
 refine SW_loopN hE (fun k=>k) [0,1,6,7,8] [1001] (fun m fr hp=>∃i,m=l.length - i∧i≤l.length∧fr=[(0,.clo 214 [.ptr 1001 0 0 0] []),(1,fvec l),(6,fvec l),(7,.val (.int .i64 (l.length:Nat))),(8,.val (.int .i64 (i:Nat)))]∧
  hp=[(1001,⟨267,true,.one [.frac ((l.take i).foldl (·+·) s)]⟩)]) l.length ?_ ?_ ?_
 ·kernel_rfl
 ·exact⟨0,rfl,Nat.zero_le _,rfl,rfl⟩
 rintro m _ _ ⟨i,rfl,hi,rfl,rfl⟩
 conv=>whnf
 by_cases hlt:i<l.length
 ·have t1:=dlt hlt
  have t2:=winc (i:=i) (by omega)
  have hs:=fs_sum (l.take i) s
  have hs2:=fsL_take l i hlt
  have k1:=f_totalAdd ((l.take i).foldl (·+·) s) (l.getD i 0) (by omega) 1001
  rw[←foldl_take l i hlt s]at k1
  (repeat((first|refine step_w1 rfl rfl ?_|refine g_c1u (by assumption) rfl rfl ?_|refine g_o (op_indexN (α:=Rat) (d:=0) rfl (ev_ok rfl) (ev_ok rfl) (tgt rfl) rfl (tgt rfl) rfl (by omega)) ?_|refine g_o (op_loadA rfl (ev_ok rfl) (tgt rfl) rfl (Nat.succ_ne_zero _) rfl) ?_|rw[t1]|rw[t2]);conv=>whnf))
  exact⟨l.length - (i+1),fun k=>k,[0,1,6,7,8],[1001],by omega,by kernel_rfl,i+1,rfl,hlt,rfl,rfl⟩
 ·have t1:=dge hlt
  have hI:i=l.length:=by omega
  subst hI
  rw[List.take_length]
  (repeat(first|(refine step_w2 rfl rfl ?_;conv=>whnf)|(rw[t1];conv=>whnf)))
  exact⟨Recast.refl _,(fun _ _ h=>by cases h),fun k b hm=>by simp only[List.mem_singleton,Prod.mk.injEq]at hm;obtain⟨rfl,rfl⟩:=hm;rfl⟩
theorem f_Sum (l:List Rat) (hn:l.length<1099511627776) (h:fsL l+2≤1073741824):CallOK Tryz.prog 189 [fvec l] [] (.frac (l.foldl (·+·) 0)) [] []:=by
 have k1:=f_each l 0 hn (by rw[fs_zero];omega) 3
 refine callV (Z:=[]) tabOK mixedOK Tryz.func189 rfl (by kernel_rfl) rfl rfl (by kernel_rfl) rfl ?_
 intro W0 w0 ρ0 hE
 conv=>whnf
 (repeat(first|(refine g_c1u (by assumption) rfl rfl ?_;conv=>whnf)|(refine g_o (op_makeFunc rfl rfl rfl) ?_;conv=>whnf)));(first|exact Recast.refl _|exact Frz.recast (Recast.refl _) rfl|(refine Frz.one rfl rfl ?_;skip)|(refine Frz.tup ?_;skip))
end Go.Proofs.YtfjhnollamkdcaaGreatDoor
namespace Go.Proofs.YtfjhnollamkdcaaGreatDoor
open Go.Sx
set_option linter.unusedSimpArgs false
set_option linter.unusedVariables false
set_option maxRecDepth 100000
set_option maxHeartbeats 4000000
def Fit (a b:List Rat):Prop:=∀i,i<a.length→fs (a.getD i 0)+fs (b.getD i 0)≤1073741824
abbrev vmul (a b:List Rat):List Rat:=List.zipWith (·*·) a b
def vdot (a b:List Rat):Rat:=(vmul a b).foldl (·+·) 0
theorem v_Dot (a b:List Rat) (hab:a.length=b.length) (hl:a.length≤2048) (h:Fit a b) (hs:fsL (vmul a b)+2≤1073741824):CallOK Tryz.prog 143 [fvec a,fvec b] [] (.tup [.frac (vdot a b),.val (.int .i64 0)]) [] []:=by
 have k1:=v_each0 (·*·) 32 a b hab hl (fun i hi=>f_Mul _ _ (h i hi))
 have k2:=f_Sum (vmul a b) (by simp;omega) hs
 refine callV (Z:=[]) tabOK mixedOK Tryz.func143 rfl (by kernel_rfl) rfl rfl (by kernel_rfl) rfl ?_
 intro W0 w0 ρ0 hE
 conv=>whnf
 (repeat(first|(refine g_c (by assumption) ?_;conv=>whnf)));(first|exact Recast.refl _|exact Frz.recast (Recast.refl _) rfl|(refine Frz.one rfl rfl ?_;skip)|(refine Frz.tup ?_;skip))
theorem q_guard:Tryz.prog.eqGuardType Tryz.prog.depth 49=false:=by kernel_rfl
theorem q_same (a b:Rat):eqTy tab good 10 49 (fracCells a) (fracCells b)=some (decide (a=b)):=by
 have e:eqTy tab good 10 49 (fracCells a) (fracCells b)=some (((((low a.num.natAbs==low b.num.natAbs)&&(((big a.num.natAbs).toList==(big b.num.natAbs).toList)&&true))&&true)&&((decide (a.num<0)==decide (b.num<0))&&true))&&
  (((low (a.den - 1)==low (b.den - 1))&&(((big (a.den - 1)).toList==(big (b.den - 1)).toList)&&true))&&true)):=rfl
 rw[e]
 simp only[Bool.and_true]
 rw[nat_eq_iff,nat_eq_iff]
 congr 1
 rw[Bool.eq_iff_iff]
 simp only[Bool.and_eq_true,decide_eq_true_eq,beq_iff_eq,decide_eq_decide]
 have h1:=a.den_pos
 have h2:=b.den_pos
 constructor
 ·rintro⟨⟨h3,h4⟩,h5⟩
  exact Rat.ext (by omega) (by omega)
 ·rintro rfl
  exact⟨⟨rfl,Iff.rfl⟩,rfl⟩
end Go.Proofs.YtfjhnollamkdcaaGreatDoor
namespace Go.Proofs.YtfjhnollamkdcaaGreatDoor
open Go.Sx
set_option linter.unusedSimpArgs false
set_option linter.unusedVariables false
set_option maxRecDepth 100000
set_option maxHeartbeats 4000000
def ofInts (l:List Int):List Rat:=l.map fun(n:Int)=>((n:Int):Rat)
theorem map_get {α β:Type} {f:α→β} {l:List α} {i:Nat} {d:α} {e:β} (h:i<l.length):(l.map f).getD i e=f (l.getD i d):=by
 simp[List.getD_eq_getElem?_getD,List.getElem?_eq_getElem h]
theorem v_Of (l:List Int) (hl:l.length<1099511627776) (h:∀i,i<l.length→ -9223372036854775808≤l.getD i 0∧l.getD i 0<9223372036854775808):CallOK Tryz.prog 54 [ivec .i64 l] [] (fvec (ofInts l)) [] []:=by
 refine callF (Z:=[]) tabOK mixedOK Tryz.func54 rfl (by kernel_rfl) (by first|rfl|(simp[keylessL,keyless,keylessL_map, *];done)) (by first|rfl|(simp[keylessL,keyless,keylessL_map, *];done)) (by kernel_rfl) rfl ?_
 intro w0 ρ0 hE
 conv=>whnf
 (repeat(first|(refine And.intro (by first|decide|omega|(simp only[tl0,dlen,List.length_replicate,List.length_set,List.length_map,List.length_zipWith,List.length_take,List.length_append,List.length_cons,List.length_nil];omega)) ?_;conv=>whnf)|(refine g_o (op_lenM rfl rfl rfl (ev_ok rfl) (tgt rfl) rfl) ?_;conv=>whnf)|(rw[Int.toNat_natCast];conv=>whnf)))
 have hz:(ofInts l).length=l.length:=by simp[ofInts]
 refine SW_loopN hE (fun k=>k) [0,2,3,9,10] [7] (fun m fr hp=>∃i,m=l.length - i∧i≤l.length∧fr=[(0,ivec .i64 l),(2,.val (.slice none 0 0)),(3,.slc 7 5 0 l.length),(9,.val (.int .i64 (l.length:Nat))),(10,.val (.int .i64 (i:Nat)))]∧
  hp=[(7,⟨49,true,.fracs ((ofInts l).take i++List.replicate (l.length - i) 0)⟩)]) l.length ?_ ?_ ?_
 ·kernel_rfl
 ·exact⟨0,rfl,Nat.zero_le _,rfl,rfl⟩
 rintro m _ _ ⟨i,rfl,hi,rfl,rfl⟩
 conv=>whnf
 have hlen:=fill_len (d:=(0:Rat)) hi hz
 by_cases hlt:i<l.length
 ·have t1:=dlt hlt
  have t2:=winc (i:=i) (by omega)
  obtain⟨b1,b2⟩:=h i hlt
  have k1:=c_fInt (l.getD i 0) b1 b2
  rw[←map_get (f:=fun(n:Int)=>((n:Int):Rat)) (e:=0) hlt]at k1
  (repeat((first|refine step_w1 rfl rfl ?_|refine And.intro (by first|decide|omega|(simp only[tl0,dlen,List.length_replicate,List.length_set,List.length_map,List.length_zipWith,List.length_take,List.length_append,List.length_cons,List.length_nil];omega)) ?_|refine g_c (by assumption) ?_|refine g_o (op_loadA rfl (ev_ok rfl) (tgt rfl) rfl (Nat.succ_ne_zero _) rfl) ?_|refine g_o (op_indexN (α:=Int) (d:=0) rfl (ev_ok rfl) (ev_ok rfl) (tgt rfl) rfl (tgt rfl) rfl (by omega)) ?_|rw[t1]|rw[t2]|rw[Int.toNat_natCast]|rw[Nat.zero_add]);conv=>whnf))
  refine⟨l.length - (i+1),fun k=>k,[0,2,3,9,10],[7],by omega,by kernel_rfl,i+1,rfl,hlt,rfl, ?_⟩
  rw[←fill_set (e:=0) hlt hz]
  rfl
 ·have t1:=dge hlt
  have hI:i=l.length:=by omega
  subst hI
  rw[fill_all hz]
  (repeat(first|(refine step_w2 rfl rfl ?_;conv=>whnf)|(rw[t1];conv=>whnf)));(first|exact Recast.refl _|exact Frz.recast (Recast.refl _) rfl|(refine Frz.one rfl rfl ?_;(repeat(first|(refine FrzC.fracs rfl ?_;(first|rfl|omega|(simp<;>fail)|(simp<;>omega))))))|(refine Frz.tup ?_;skip))
end Go.Proofs.YtfjhnollamkdcaaGreatDoor
namespace Go.Proofs
open Go.Shelf
def Tryz.lays156_ren:Go.Shelf.Ren:=⟨fun|156=>119|165=>167|166=>168|169=>169|240=>203|241=>204|276=>221|277=>222|n=>n,fun|31=>168|9=>9|3=>3|4=>4|0=>0|20=>20|72=>220|76=>224|70=>217|37=>218|75=>223|127=>260|164=>275|5=>5|80=>226|n=>n,fun|n=>n⟩
theorem Tryz.lays156:Go.Proofs.Lays.n156 Tryz.prog Tryz.lays156_ren:={
 mixed:=by kernel_rfl
 f156:=Tryz.func119.trans (congrArg some (by kernel_rfl))
 f165:=Tryz.func167.trans (congrArg some (by kernel_rfl))
 f166:=Tryz.func168.trans (congrArg some (by kernel_rfl))
 f169:=Tryz.func169.trans (congrArg some (by kernel_rfl))
 f240:=Tryz.func203.trans (congrArg some (by kernel_rfl))
 f241:=Tryz.func204.trans (congrArg some (by kernel_rfl))
 f276:=Tryz.func221.trans (congrArg some (by kernel_rfl))
 f277:=Tryz.func222.trans (congrArg some (by kernel_rfl))
 t0:=Tryz.underlying0
 a0:=Tryz.isAgg0
 z0:=Tryz.sizeOf0
 v0:=Tryz.zeroValue0
 t3:=Tryz.underlying3
 a3:=Tryz.isAgg3
 z3:=Tryz.sizeOf3
 v3:=Tryz.zeroValue3
 t4:=Tryz.underlying4
 a4:=Tryz.isAgg4
 z4:=Tryz.sizeOf4
 v4:=Tryz.zeroValue4
 t9:=Tryz.underlying9
 a9:=Tryz.isAgg9
 z9:=Tryz.sizeOf9
 v9:=Tryz.zeroValue9
 t20:=Tryz.underlying20
 a20:=Tryz.isAgg20
 z20:=Tryz.sizeOf20
 v20:=Tryz.zeroValue20
 t31:=Tryz.underlying168
 a31:=Tryz.isAgg168
 z31:=Tryz.sizeOf168
 v31:=Tryz.zeroValue168
 t37:=Tryz.underlying218
 a37:=Tryz.isAgg218
 z37:=Tryz.sizeOf218
 v37:=Tryz.zeroValue218
 t70:=Tryz.underlying217
 a70:=Tryz.isAgg217
 z70:=Tryz.sizeOf217
 v70:=Tryz.zeroValue217
 t72:=Tryz.underlying220
 a72:=Tryz.isAgg220
 z72:=Tryz.sizeOf220
 v72:=Tryz.zeroValue220
 t75:=Tryz.underlying223
 a75:=Tryz.isAgg223
 z75:=Tryz.sizeOf223
 v75:=Tryz.zeroValue223
 t76:=Tryz.underlying224
 a76:=Tryz.isAgg224
 z76:=Tryz.sizeOf224
 v76:=Tryz.zeroValue224
 t127:=Tryz.underlying260
 a127:=Tryz.isAgg260
 z127:=Tryz.sizeOf260
 v127:=Tryz.zeroValue260
 t164:=Tryz.underlying275
 a164:=Tryz.isAgg275
 z164:=Tryz.sizeOf275
 v164:=Tryz.zeroValue275}
theorem Tryz.Builder_Extra_156:Builder.Extra Tryz.prog Tryz.lays156_ren:={
 sizeBuilder:=by kernel_rfl
 liesBuilder:=by kernel_rfl
 t5:=Tryz.underlying5
 a5:=Tryz.isAgg5
 z5:=Tryz.sizeOf5
 v5:=Tryz.zeroValue5
 infoByte:=by kernel_rfl
 cellsByte:=by kernel_rfl
 sizeByte:=by kernel_rfl
 neB5:=by decide}
open Go.RowKit in
theorem Tryz.strings_Join_none (a:Option Addr) (c:Nat) (sep:ByteArray) (w:World):
  Calls Tryz.prog 119 #[.slice a 0 c,.string sep] w fun e w'=>e= .returned (.string ⟨#[]⟩)∧w'=w:=Any.strings_Join_none Tryz.lays156 Tryz.Builder_Extra_156 a c sep w
open Go.RowKit in
/-- strings.Join: "Join concatenates the elements of its first argument to create a single string. The separator string sep is placed between elements in the resulting string.": HOWEVER MANY ELEMENTS. Below the heap's end the world is as it was. (LAID: no walk: one application.) -/
theorem Tryz.strings_Join (bk o c:Nat) (xs:List ByteArray) (sep:ByteArray) (w:World) (hcells:∀(j:Nat) x,xs[j]? =some x→w.cell? ⟨bk,o+j,none⟩=some (.string x)) (hbk:bk<w.heap.size) (hN:xs.length≤140737488355328) (hcap:xs.length≤c) (hlen:(Lib.join (xs.map (·.data.toList)) sep.data.toList).length≤140737488355328):
  Calls Tryz.prog 119 #[.slice (some ⟨bk,o,none⟩) xs.length c,.string sep] w fun e w'=>e= .returned (.string ⟨(Lib.join (xs.map (·.data.toList)) sep.data.toList).toArray⟩)∧Below w.heap.size w w':=Any.strings_Join Tryz.lays156 Tryz.Builder_Extra_156 bk o c xs sep w hcells hbk hN hcap hlen
def Tryz.lays283_ren:Go.Shelf.Ren:=⟨fun|283=>223|n=>n,fun|3=>3|9=>9|4=>4|n=>n,fun|n=>n⟩
theorem Tryz.lays283:Go.Proofs.Lays.n283 Tryz.prog Tryz.lays283_ren:={
 mixed:=by kernel_rfl
 f283:=Tryz.func223.trans (congrArg some (by kernel_rfl))
 t3:=Tryz.underlying3
 a3:=Tryz.isAgg3
 z3:=Tryz.sizeOf3
 v3:=Tryz.zeroValue3
 t4:=Tryz.underlying4
 a4:=Tryz.isAgg4
 z4:=Tryz.sizeOf4
 v4:=Tryz.zeroValue4
 t9:=Tryz.underlying9
 a9:=Tryz.isAgg9
 z9:=Tryz.sizeOf9
 v9:=Tryz.zeroValue9}
open Go.Lib in
/-- internal/strconv.small: "small returns the string for an i with 0 <= i < nSmalls.": i's decimal numeral. The world is as it was. (LAID: no walk: one application.) -/
theorem Tryz.internal_strconv_small (i:Nat) (h:i<100) (w:World):
  Calls Tryz.prog 223 #[.int .i64 i] w fun e w'=>e= .returned (.string ⟨(Lib.decDigits i).toArray⟩)∧w'=w:=Any.internal_strconv_small Tryz.lays283 i h w
def Tryz.laysM284_ren:Go.Shelf.Ren:=⟨fun|284=>224|129=>232|317=>231|318=>233|n=>n,fun|53=>41|3=>3|212=>288|0=>0|4=>4|46=>200|5=>5|9=>9|n=>n,fun|17=>2|n=>n⟩
theorem Tryz.laysM284:Go.Proofs.LaysM.n284 Tryz.prog Tryz.laysM284_ren:={
 mixed:=by kernel_rfl
 f129:=Tryz.func232.trans (congrArg some (by kernel_rfl))
 f284:=Tryz.func224.trans (congrArg some (by kernel_rfl))
 f317:=Tryz.func231.trans (congrArg some (by kernel_rfl))
 f318:=Tryz.func233.trans (congrArg some (by kernel_rfl))
 t0:=Tryz.underlying0
 a0:=Tryz.isAgg0
 z0:=Tryz.sizeOf0
 v0:=Tryz.zeroValue0
 t3:=Tryz.underlying3
 a3:=Tryz.isAgg3
 z3:=Tryz.sizeOf3
 v3:=Tryz.zeroValue3
 t4:=Tryz.underlying4
 a4:=Tryz.isAgg4
 z4:=Tryz.sizeOf4
 v4:=Tryz.zeroValue4
 t5:=Tryz.underlying5
 a5:=Tryz.isAgg5
 z5:=Tryz.sizeOf5
 v5:=Tryz.zeroValue5
 t9:=Tryz.underlying9
 a9:=Tryz.isAgg9
 z9:=Tryz.sizeOf9
 v9:=Tryz.zeroValue9
 t46:=Tryz.underlying200
 a46:=Tryz.isAgg200
 z46:=Tryz.sizeOf200
 v46:=Tryz.zeroValue200
 t53:=Tryz.underlying41
 a53:=Tryz.isAgg41
 z53:=Tryz.sizeOf41
 v53:=Tryz.zeroValue41
 t212:=Tryz.underlying288
 a212:=Tryz.isAgg288
 z212:=Tryz.sizeOf288
 v212:=Tryz.zeroValue288
 g17:=by kernel_rfl
 i0:=by kernel_rfl
 i3:=by kernel_rfl
 i4:=by kernel_rfl
 i5:=by kernel_rfl
 i9:=by kernel_rfl
 i46:=by kernel_rfl
 i53:=by kernel_rfl
 i212:=by kernel_rfl
 m17:=by kernel_rfl}
open Go.Lib in
theorem Tryz.internal_strconv_numDigits (u:Nat) (h1:1≤u) (h2:u<18446744073709551616) (w:World) (htab:Lib.TabIs Tryz.prog w "internal/strconv.uint64pow10" .u64 Lib.pow10Tab):
  Calls Tryz.prog 224 #[.int .u64 u] w fun e w'=>e= .returned (.int .i64 (Lib.nDigits u))∧w'=w:=Any.internal_strconv_numDigits Tryz.laysM284 u h1 h2 w htab
def Tryz.lays285_ren:Go.Shelf.Ren:=⟨fun|285=>225|n=>n,fun|37=>218|53=>41|3=>3|4=>4|51=>23|9=>9|5=>5|0=>0|n=>n,fun|n=>n⟩
theorem Tryz.lays285:Go.Proofs.Lays.n285 Tryz.prog Tryz.lays285_ren:={
 mixed:=by kernel_rfl
 f285:=Tryz.func225.trans (congrArg some (by kernel_rfl))
 t0:=Tryz.underlying0
 a0:=Tryz.isAgg0
 z0:=Tryz.sizeOf0
 v0:=Tryz.zeroValue0
 t3:=Tryz.underlying3
 a3:=Tryz.isAgg3
 z3:=Tryz.sizeOf3
 v3:=Tryz.zeroValue3
 t4:=Tryz.underlying4
 a4:=Tryz.isAgg4
 z4:=Tryz.sizeOf4
 v4:=Tryz.zeroValue4
 t5:=Tryz.underlying5
 a5:=Tryz.isAgg5
 z5:=Tryz.sizeOf5
 v5:=Tryz.zeroValue5
 t9:=Tryz.underlying9
 a9:=Tryz.isAgg9
 z9:=Tryz.sizeOf9
 v9:=Tryz.zeroValue9
 t37:=Tryz.underlying218
 a37:=Tryz.isAgg218
 z37:=Tryz.sizeOf218
 v37:=Tryz.zeroValue218
 t51:=Tryz.underlying23
 a51:=Tryz.isAgg23
 z51:=Tryz.sizeOf23
 v51:=Tryz.zeroValue23
 t53:=Tryz.underlying41
 a53:=Tryz.isAgg41
 z53:=Tryz.sizeOf41
 v53:=Tryz.zeroValue41}
open Go.RowKit Go.Sort Go.Lib in
/-- internal/strconv.formatBase10: "formatBase10 formats the decimal representation of u into a. The caller is responsible for ensuring that a is big enough to hold u. If a is too big, leading zeros will be filled in as needed.": THE ROW HOLDS u's DIGITS ('FmtInv .. 0 ..': every place t holds 'dg u (len - 1 - t)'); all else is as it was but for the count of draws. (LAID: no walk: one application.) -/
theorem Tryz.internal_strconv_formatBase10 (blk off cap:Nat) (u:Nat) (d:Array UInt8) (w:World) (hH:Holds (fun(b:UInt8)=>Value.int .u8 (b.toNat:Int)) w blk off d) (hu:u<10^d.size) (hu64:u<18446744073709551616) (hsz:d.size<4611686018427387904):
  Calls Tryz.prog 225 #[.slice (some ⟨blk,off,none⟩) d.size cap,.int .u64 u] w fun e w'=>
   e= .returned (.tuple #[])∧∃(n v':Nat) (dk:Array UInt8),w'=(putRow (fun(b:UInt8)=>Value.int .u8 (b.toNat:Int)) w blk off dk).drewN n∧FmtInv d.size u 0 v' dk:=Any.internal_strconv_formatBase10 Tryz.lays285 blk off cap u d w hH hu hu64 hsz
def Tryz.laysM171_ren:Go.Shelf.Ren:=⟨fun|171=>175|243=>207|246=>227|283=>223|284=>224|285=>225|286=>226|129=>232|317=>231|318=>233|319=>234|320=>235|337=>236|338=>237|n=>n,fun|3=>3|9=>9|2=>2|4=>4|171=>278|0=>0|53=>41|37=>218|5=>5|173=>281|212=>288|51=>23|20=>20|213=>289|46=>200|232=>291|233=>292|n=>n,fun|17=>2|18=>3|19=>4|n=>n⟩
theorem Tryz.laysM171:Go.Proofs.LaysM.n171 Tryz.prog Tryz.laysM171_ren:={
 mixed:=by kernel_rfl
 f129:=Tryz.func232.trans (congrArg some (by kernel_rfl))
 f171:=Tryz.func175.trans (congrArg some (by kernel_rfl))
 f243:=Tryz.func207.trans (congrArg some (by kernel_rfl))
 f246:=Tryz.func227.trans (congrArg some (by kernel_rfl))
 f283:=Tryz.func223.trans (congrArg some (by kernel_rfl))
 f284:=Tryz.func224.trans (congrArg some (by kernel_rfl))
 f285:=Tryz.func225.trans (congrArg some (by kernel_rfl))
 f286:=Tryz.func226.trans (congrArg some (by kernel_rfl))
 f317:=Tryz.func231.trans (congrArg some (by kernel_rfl))
 f318:=Tryz.func233.trans (congrArg some (by kernel_rfl))
 f319:=Tryz.func234.trans (congrArg some (by kernel_rfl))
 f320:=Tryz.func235.trans (congrArg some (by kernel_rfl))
 f337:=Tryz.func236.trans (congrArg some (by kernel_rfl))
 f338:=Tryz.func237.trans (congrArg some (by kernel_rfl))
 t0:=Tryz.underlying0
 a0:=Tryz.isAgg0
 z0:=Tryz.sizeOf0
 v0:=Tryz.zeroValue0
 t2:=Tryz.underlying2
 a2:=Tryz.isAgg2
 z2:=Tryz.sizeOf2
 v2:=Tryz.zeroValue2
 t3:=Tryz.underlying3
 a3:=Tryz.isAgg3
 z3:=Tryz.sizeOf3
 v3:=Tryz.zeroValue3
 t4:=Tryz.underlying4
 a4:=Tryz.isAgg4
 z4:=Tryz.sizeOf4
 v4:=Tryz.zeroValue4
 t5:=Tryz.underlying5
 a5:=Tryz.isAgg5
 z5:=Tryz.sizeOf5
 v5:=Tryz.zeroValue5
 t9:=Tryz.underlying9
 a9:=Tryz.isAgg9
 z9:=Tryz.sizeOf9
 v9:=Tryz.zeroValue9
 t20:=Tryz.underlying20
 a20:=Tryz.isAgg20
 z20:=Tryz.sizeOf20
 v20:=Tryz.zeroValue20
 t37:=Tryz.underlying218
 a37:=Tryz.isAgg218
 z37:=Tryz.sizeOf218
 v37:=Tryz.zeroValue218
 t46:=Tryz.underlying200
 a46:=Tryz.isAgg200
 z46:=Tryz.sizeOf200
 v46:=Tryz.zeroValue200
 t51:=Tryz.underlying23
 a51:=Tryz.isAgg23
 z51:=Tryz.sizeOf23
 v51:=Tryz.zeroValue23
 t53:=Tryz.underlying41
 a53:=Tryz.isAgg41
 z53:=Tryz.sizeOf41
 v53:=Tryz.zeroValue41
 t171:=Tryz.underlying278
 a171:=Tryz.isAgg278
 z171:=Tryz.sizeOf278
 v171:=Tryz.zeroValue278
 t173:=Tryz.underlying281
 a173:=Tryz.isAgg281
 z173:=Tryz.sizeOf281
 v173:=Tryz.zeroValue281
 t212:=Tryz.underlying288
 a212:=Tryz.isAgg288
 z212:=Tryz.sizeOf288
 v212:=Tryz.zeroValue288
 t213:=Tryz.underlying289
 a213:=Tryz.isAgg289
 z213:=Tryz.sizeOf289
 t232:=Tryz.underlying291
 a232:=Tryz.isAgg291
 z232:=Tryz.sizeOf291
 v232:=Tryz.zeroValue291
 t233:=Tryz.underlying292
 a233:=Tryz.isAgg292
 z233:=Tryz.sizeOf292
 v233:=Tryz.zeroValue292
 g17:=by kernel_rfl
 g18:=by kernel_rfl
 g19:=by kernel_rfl
 i0:=by kernel_rfl
 i2:=by kernel_rfl
 i3:=by kernel_rfl
 i4:=by kernel_rfl
 i5:=by kernel_rfl
 i9:=by kernel_rfl
 i20:=by kernel_rfl
 i37:=by kernel_rfl
 i46:=by kernel_rfl
 i51:=by kernel_rfl
 i53:=by kernel_rfl
 i171:=by kernel_rfl
 i173:=by kernel_rfl
 i212:=by kernel_rfl
 i232:=by kernel_rfl
 i233:=by kernel_rfl
 m17:=by kernel_rfl
 m18:=by kernel_rfl
 m19:=by kernel_rfl}
open Go.RowKit Go.Sort Go.Lib in
/-- strconv.Itoa: "Itoa is equivalent to FormatInt(int64(i), 10).": i's DECIMAL NUMERAL ('Lib.itoa': a '-' where i is negative, then the digits), FOR EVERY int. The world behind the call: the world before it, new blocks behind the heap (the library's 'var a [24]byte'), draws. (LAID: no walk: one application.) -/
theorem Tryz.strconv_Itoa (n:Int) (h0: -9223372036854775808≤n) (h1:n≤9223372036854775807) (w:World) (htab:Lib.TabIs Tryz.prog w "internal/strconv.uint64pow10" .u64 Lib.pow10Tab):
  Calls Tryz.prog 175 #[.int .i64 n] w fun e w'=>e= .returned (.string ⟨(Lib.itoa n).toArray⟩)∧∃k os,w'=grow (w.drewN k) os:=Any.strconv_Itoa Tryz.laysM171 n h0 h1 w htab
def Tryz.lays105_ren:Go.Shelf.Ren:=⟨fun|105=>176|212=>208|99=>209|165=>167|166=>168|170=>210|169=>169|263=>228|264=>154|206=>229|240=>203|241=>204|276=>221|277=>222|n=>n,fun|9=>9|3=>3|4=>4|20=>20|0=>0|46=>200|109=>261|5=>5|72=>220|76=>224|51=>23|146=>251|53=>41|148=>206|70=>217|37=>218|75=>223|127=>260|164=>275|80=>226|n=>n,fun|n=>n⟩
theorem Tryz.lays105:Go.Proofs.Lays.n105 Tryz.prog Tryz.lays105_ren:={
 mixed:=by kernel_rfl
 f99:=Tryz.func209.trans (congrArg some (by kernel_rfl))
 f105:=Tryz.func176.trans (congrArg some (by kernel_rfl))
 f165:=Tryz.func167.trans (congrArg some (by kernel_rfl))
 f166:=Tryz.func168.trans (congrArg some (by kernel_rfl))
 f169:=Tryz.func169.trans (congrArg some (by kernel_rfl))
 f170:=Tryz.func210.trans (congrArg some (by kernel_rfl))
 f206:=Tryz.func229.trans (congrArg some (by kernel_rfl))
 f212:=Tryz.func208.trans (congrArg some (by kernel_rfl))
 f240:=Tryz.func203.trans (congrArg some (by kernel_rfl))
 f241:=Tryz.func204.trans (congrArg some (by kernel_rfl))
 f263:=Tryz.func228.trans (congrArg some (by kernel_rfl))
 f264:=Tryz.func154.trans (congrArg some (by kernel_rfl))
 f276:=Tryz.func221.trans (congrArg some (by kernel_rfl))
 f277:=Tryz.func222.trans (congrArg some (by kernel_rfl))
 t0:=Tryz.underlying0
 a0:=Tryz.isAgg0
 z0:=Tryz.sizeOf0
 v0:=Tryz.zeroValue0
 t3:=Tryz.underlying3
 a3:=Tryz.isAgg3
 z3:=Tryz.sizeOf3
 v3:=Tryz.zeroValue3
 t4:=Tryz.underlying4
 a4:=Tryz.isAgg4
 z4:=Tryz.sizeOf4
 v4:=Tryz.zeroValue4
 t5:=Tryz.underlying5
 a5:=Tryz.isAgg5
 z5:=Tryz.sizeOf5
 v5:=Tryz.zeroValue5
 t9:=Tryz.underlying9
 a9:=Tryz.isAgg9
 z9:=Tryz.sizeOf9
 v9:=Tryz.zeroValue9
 t20:=Tryz.underlying20
 a20:=Tryz.isAgg20
 z20:=Tryz.sizeOf20
 v20:=Tryz.zeroValue20
 t37:=Tryz.underlying218
 a37:=Tryz.isAgg218
 z37:=Tryz.sizeOf218
 v37:=Tryz.zeroValue218
 t46:=Tryz.underlying200
 a46:=Tryz.isAgg200
 z46:=Tryz.sizeOf200
 v46:=Tryz.zeroValue200
 t51:=Tryz.underlying23
 a51:=Tryz.isAgg23
 z51:=Tryz.sizeOf23
 v51:=Tryz.zeroValue23
 t53:=Tryz.underlying41
 a53:=Tryz.isAgg41
 z53:=Tryz.sizeOf41
 v53:=Tryz.zeroValue41
 t70:=Tryz.underlying217
 a70:=Tryz.isAgg217
 z70:=Tryz.sizeOf217
 v70:=Tryz.zeroValue217
 t72:=Tryz.underlying220
 a72:=Tryz.isAgg220
 z72:=Tryz.sizeOf220
 v72:=Tryz.zeroValue220
 t75:=Tryz.underlying223
 a75:=Tryz.isAgg223
 z75:=Tryz.sizeOf223
 v75:=Tryz.zeroValue223
 t76:=Tryz.underlying224
 a76:=Tryz.isAgg224
 z76:=Tryz.sizeOf224
 v76:=Tryz.zeroValue224
 t109:=Tryz.underlying261
 a109:=Tryz.isAgg261
 z109:=Tryz.sizeOf261
 v109:=Tryz.zeroValue261
 t127:=Tryz.underlying260
 a127:=Tryz.isAgg260
 z127:=Tryz.sizeOf260
 v127:=Tryz.zeroValue260
 t146:=Tryz.underlying251
 a146:=Tryz.isAgg251
 z146:=Tryz.sizeOf251
 v146:=Tryz.zeroValue251
 t148:=Tryz.underlying206
 a148:=Tryz.isAgg206
 z148:=Tryz.sizeOf206
 v148:=Tryz.zeroValue206
 t164:=Tryz.underlying275
 a164:=Tryz.isAgg275
 z164:=Tryz.sizeOf275
 v164:=Tryz.zeroValue275}
theorem Tryz.Builder_Extra_105:Builder.Extra Tryz.prog Tryz.lays105_ren:={
 sizeBuilder:=by kernel_rfl
 liesBuilder:=by kernel_rfl
 t5:=Tryz.underlying5
 a5:=Tryz.isAgg5
 z5:=Tryz.sizeOf5
 v5:=Tryz.zeroValue5
 infoByte:=by kernel_rfl
 cellsByte:=by kernel_rfl
 sizeByte:=by kernel_rfl
 neB5:=by decide}
open Go.RowKit Go.Lib in
theorem Tryz.strings_Repeat (s:ByteArray) (c:Nat) (w:World) (hc:c≤9223372036854775807) (hlen:s.size*c≤140737488355328):
  Calls Tryz.prog 176 #[.string s,.int .i64 c] w fun e w'=>e= .returned (.string ⟨(Lib.repeatL s.data.toList c).toArray⟩)∧Below w.heap.size w w':=Any.strings_Repeat Tryz.lays105 Tryz.Builder_Extra_105 s c w hc hlen
end Go.Proofs
namespace Go.Proofs.YtfjhnollamkdcaaGreatDoor
open Go.Sx
set_option linter.unusedSimpArgs false
set_option linter.unusedVariables false
set_option maxRecDepth 100000
set_option maxHeartbeats 4000000
def decF:Nat→Nat→List UInt8
 |0,_=>[]
 |f+1,n=>if n<10 then[UInt8.ofNat (48+n)]else decF f (n/10)++[UInt8.ofNat (48+n % 10)]
theorem decF_eq:∀f n,n<f→decF f n=Lib.decDigits n
 |0,n,h=>by omega
 |f+1,n,h=>by
  rw[decF,Lib.decDigits]
  by_cases h1:n<10
  ·rw[if_pos h1,dif_pos h1]
  ·rw[if_neg h1,dif_neg h1,decF_eq f (n/10) (by omega)]
def tN (n:Nat):ByteArray:=⟨(decF (n+1) n).toArray⟩
theorem tN_eq (n:Nat):tN n=⟨(Lib.decDigits n).toArray⟩:=by rw[tN,decF_eq _ _ (Nat.lt_succ_self n)]
def tZ (z:Int):ByteArray:=if z<0 then "-".toUTF8++tN z.natAbs else tN z.natAbs
def tQ (q:Rat):ByteArray:=if q.den=1 then tZ q.num else tZ q.num++ "/".toUTF8++tN q.den
theorem t_small (i:Nat) (h:i<100):CallOK Tryz.prog 223 [.val (.int .i64 (i:Nat))] [] (.val (.string (tN i))) [] []:=
 call_vals' (vs:=[.int .i64 (i:Nat)]) ⟨Tryz.f223,Tryz.func223,rfl,by kernel_rfl⟩ rfl (fun w=>by rw[tN_eq];exact Tryz.internal_strconv_small i h w)
theorem t_iFormat (n:Nat) (h:n<100):CallOK Tryz.prog 205 [.val (.int .u64 (n:Nat)),.val (.int .i64 10)] [] (.val (.string (tN n))) [] []:=by
 have k1:=t_small n h
 have t1:decide ((n:Int)<100)=true:=decide_eq_true (by omega)
 have t2:IntKind.i64.wrap (n:Int)=n:=wrap_i64 (by omega) (by omega)
 refine callV (Z:=[]) tabOK mixedOK Tryz.func205 rfl (by kernel_rfl) rfl rfl (by kernel_rfl) rfl ?_
 intro W0 w0 ρ0 hE
 conv=>whnf
 (repeat((first|refine step_w1 rfl rfl ?_|refine g_c (by assumption) ?_|rw[beq_self_eq_true]|rw[t1]|rw[t2]);conv=>whnf));(first|exact Recast.refl _|exact Frz.recast (Recast.refl _) rfl|(refine Frz.one rfl rfl ?_;skip)|(refine Frz.tup ?_;skip))
theorem t_Format (n:Nat) (h:n<100):CallOK Tryz.prog 172 [.val (.int .u64 (n:Nat)),.val (.int .i64 10)] [] (.val (.string (tN n))) [] []:=by
 have k1:=t_iFormat n h
 refine callV (Z:=[]) tabOK mixedOK Tryz.func172 rfl (by kernel_rfl) rfl rfl (by kernel_rfl) rfl ?_
 intro W0 w0 ρ0 hE
 conv=>whnf
 (repeat(first|(refine g_c (by assumption) ?_;conv=>whnf)));(first|exact Recast.refl _|exact Frz.recast (Recast.refl _) rfl|(refine Frz.one rfl rfl ?_;skip)|(refine Frz.tup ?_;skip))
def tV (a:List Rat):ByteArray:= "[".toUTF8++⟨(Lib.join ((a.map tQ).map (·.data.toList)) [32]).toArray⟩++ "]".toUTF8
theorem t_Join (ss:List ByteArray) (hN:ss.length≤1099511627776) (hlen:(Lib.join (ss.map (·.data.toList)) [32]).length≤140737488355328):
  CallOK Tryz.prog 119 [mvec 1 sel ss,.val (.string ⟨#[32]⟩)] [] (.val (.string ⟨(Lib.join (ss.map (·.data.toList)) [32]).toArray⟩)) [] []:=by
 refine call_strs ⟨Tryz.f119,Tryz.func119,rfl,by kernel_rfl⟩ rfl ?_ ?_
 ·rintro rfl a w
  exact Tryz.strings_Join_none a 0 ⟨#[32]⟩ w
 ·intro bk o c w hc hb hcap
  exact Tryz.strings_Join bk o c ss ⟨#[32]⟩ w hc hb (by omega) hcap hlen
end Go.Proofs.YtfjhnollamkdcaaGreatDoor
namespace Go.Proofs.YtfjhnollamkdcaaGreatDoor
open Go.Sx
set_option linter.unusedSimpArgs false
set_option linter.unusedVariables false
def sumR:Nat→(Nat→Rat)→Rat
 |0,_=>0
 |n+1,f=>sumR n f+f n
theorem foldl_sum (l:List Rat):∀n,n≤l.length→(l.take n).foldl (·+·) 0=sumR n (fun i=>l.getD i 0)
 |0,_=>rfl
 |n+1,h=>by rw[foldl_take l n (by omega),foldl_sum l n (by omega),sumR]
theorem vdot_sum {a b:List Rat} {n:Nat} (ha:a.length=n) (hb:b.length=n):vdot a b=sumR n (fun i=>a.getD i 0*b.getD i 0):=by
 have hz:(vmul a b).length=n:=zip_len ha hb
 have h1:=foldl_sum (vmul a b) n (by omega)
 rw[List.take_of_length_le (by omega)]at h1
 rw[vdot,h1]
 clear h1
 have key:∀m,m≤n→sumR m (fun i=>(vmul a b).getD i 0)=sumR m (fun i=>a.getD i 0*b.getD i 0):=by
  intro m
  induction m with
  |zero=>intro _;rfl
  |succ m ih=>intro h;rw[sumR,sumR,ih (by omega),zip_get (d1:=0) (d2:=0) (by omega) (by omega)]
 exact key n (Nat.le_refl _)
section
variable (x y:Nat→Rat)
end
theorem sum_congr {f g:Nat→Rat}:∀n,(∀i,i<n→f i=g i)→sumR n f=sumR n g
 |0,_=>rfl
 |n+1,h=>by rw[sumR,sumR,sum_congr n (fun i hi=>h i (by omega)),h n (by omega)]
theorem sum_const_zero:∀n,sumR n (fun _=>0)=0
 |0=>rfl
 |n+1=>by rw[sumR,sum_const_zero n];grind
end Go.Proofs.YtfjhnollamkdcaaGreatDoor
namespace Go.Proofs.YtfjhnollamkdcaaGreatDoor
open Go.Sx
set_option linter.unusedSimpArgs false
set_option linter.unusedVariables false
set_option maxRecDepth 100000
set_option maxHeartbeats 4000000
def Sm (B:Nat) (l:List Rat):Prop:=∀i,i<l.length→fs (l.getD i 0)≤B
theorem Sm_zip {op:Rat→Rat→Rat} {a b:List Rat} {A B:Nat} (hop:∀x y,fs (op x y)≤fs x+fs y) (ha:Sm A a) (hb:Sm B b) (hab:a.length=b.length):Sm (A+B) (List.zipWith op a b):=by
 intro i hi
 rw[List.length_zipWith]at hi
 rw[zip_get (d1:=0) (d2:=0) (by omega) (by omega)]
 have h1:=hop (a.getD i 0) (b.getD i 0)
 have h2:=ha i (by omega)
 have h3:=hb i (by omega)
 omega
theorem fsL_Sm:∀{l:List Rat} {B:Nat},Sm B l→fsL l≤l.length*B
 |[],_,_=>by simp[fsL]
 |q::l,B,h=>by
  have h1:=h 0 (by simp)
  have h2:=fsL_Sm (l:=l) (B:=B) (fun i hi=>h (i+1) (by simpa using hi))
  have e:fsL (q::l)=fs q+fsL l:=by simp[fsL]
  rw[e,List.length_cons,Nat.succ_mul]
  have:fs q≤B:=h1
  omega
theorem Fit_Sm {a b:List Rat} {A B:Nat} (ha:Sm A a) (hb:Sm B b) (hab:a.length=b.length) (h:A+B≤1073741824):Fit a b:=by
 intro i hi
 have h1:=ha i hi
 have h2:=hb i (by omega)
 omega
theorem fs_vdot {a b:List Rat} {A B n:Nat} (ha:Sm A a) (hb:Sm B b) (h1:a.length=n) (h2:b.length=n):fs (vdot a b)≤2+n*(A+B):=by
 have h:=fsL_Sm (Sm_zip fs_mul ha hb (h1.trans h2.symm))
 rw[zip_len h1 h2]at h
 have h3:=fs_sum (vmul a b) 0
 rw[fs_zero]at h3
 unfold vdot
 exact Nat.le_trans h3 (Nat.add_le_add_left h 2)
theorem Sm_zero (n:Nat):Sm 2 (List.replicate n 0):=by
 intro i hi
 rw[List.length_replicate]at hi
 simp[List.getD_eq_getElem?_getD,hi,fs_zero]
section
variable {a b z:List Rat} {n i:Nat} {c:Rat}
theorem vec_ext (ha:a.length=n) (hb:b.length=n) (h:∀i,i<n→a.getD i 0=b.getD i 0):a=b:=by
 refine List.ext_getElem (ha.trans hb.symm) fun i h1 h2=> ?_
 have:=h i (by omega)
 rwa [List.getD_eq_getElem?_getD,List.getD_eq_getElem?_getD,List.getElem?_eq_getElem h1,List.getElem?_eq_getElem h2]at this
theorem sum_add (f g:Nat→Rat):∀n,sumR n (fun i=>f i+g i)=sumR n f+sumR n g
 |0=>by simp only[sumR];grind
 |n+1=>by simp only[sumR];rw[sum_add f g n];grind
theorem sum_smul (c:Rat) (f:Nat→Rat):∀n,sumR n (fun i=>c*f i)=c*sumR n f
 |0=>by simp only[sumR];grind
 |n+1=>by simp only[sumR];rw[sum_smul c f n];grind
end
end Go.Proofs.YtfjhnollamkdcaaGreatDoor
namespace Go.Proofs.YtfjhnollamkdcaaGreatDoor
open Go.Sx
set_option linter.unusedSimpArgs false
set_option linter.unusedVariables false
set_option maxRecDepth 100000
set_option maxHeartbeats 4000000
def mk (r c:Nat) (f:Nat→Nat→Rat):List Rat:=(List.range (r*c)).map fun p=>f (p/c) (p % c)
abbrev el (a:List Rat) (c i k:Nat):Rat:=a.getD (i*c+k) 0
theorem mk_len (r c:Nat) (f:Nat→Nat→Rat):(mk r c f).length=r*c:=by simp[mk]
theorem idx_lt {r c i k:Nat} (hi:i<r) (hk:k<c):i*c+k<r*c:=by
 have:=Nat.mul_le_mul_right c (show i+1≤r from hi)
 rw[Nat.succ_mul]at this;omega
theorem idx_div {c i k:Nat} (hk:k<c):(i*c+k)/c=i:=by
 rw[Nat.mul_comm,Nat.mul_add_div (by omega),Nat.div_eq_of_lt hk,Nat.add_zero]
theorem idx_mod {c i k:Nat} (hk:k<c):(i*c+k) % c=k:=by
 rw[Nat.mul_comm,Nat.mul_add_mod,Nat.mod_eq_of_lt hk]
theorem mk_at {r c:Nat} {f:Nat→Nat→Rat} {p:Nat} (hp:p<r*c):(mk r c f).getD p 0=f (p/c) (p % c):=by
 simp[mk,List.getD_eq_getElem?_getD,hp]
theorem mk_el {r c i k:Nat} {f:Nat→Nat→Rat} (hi:i<r) (hk:k<c):el (mk r c f) c i k=f i k:=by
 rw[el,mk_at (idx_lt hi hk),idx_div hk,idx_mod hk]
theorem idx_split {r c p:Nat} (hp:p<r*c):p/c<r∧p % c<c∧p/c*c+p % c=p:=by
 have hc:0<c:=by rcases Nat.eq_zero_or_pos c with h|h
                 ·subst h;omega
                 ·exact h
 refine⟨(Nat.div_lt_iff_lt_mul hc).2 hp,Nat.mod_lt _ hc, ?_⟩
 rw[Nat.mul_comm];exact Nat.div_add_mod p c
theorem mat_ext {a b:List Rat} {r c:Nat} (ha:a.length=r*c) (hb:b.length=r*c) (h:∀i k,i<r→k<c→el a c i k=el b c i k):a=b:=by
 refine vec_ext ha hb fun p hp=> ?_
 obtain⟨h1,h2,h3⟩:=idx_split hp
 have:=h _ _ h1 h2
 rwa [el,el,h3]at this
theorem mk_ext {a:List Rat} {r c:Nat} {f:Nat→Nat→Rat} (ha:a.length=r*c) (h:∀i k,i<r→k<c→f i k=el a c i k):mk r c f=a:=
 mat_ext (mk_len ..) ha fun i k hi hk=>by rw[mk_el hi hk,h i k hi hk]
theorem Sm_mk {r c B:Nat} {f:Nat→Nat→Rat} (h:∀i k,i<r→k<c→fs (f i k)≤B):Sm B (mk r c f):=by
 intro p hp
 rw[mk_len]at hp
 obtain⟨h1,h2,_⟩:=idx_split hp
 rw[mk_at hp];exact h _ _ h1 h2
theorem el_sm {a:List Rat} {r c B i k:Nat} (h:Sm B a) (ha:a.length=r*c) (hi:i<r) (hk:k<c):fs (el a c i k)≤B:=h _ (by rw[ha];exact idx_lt hi hk)
theorem sum_swap (f:Nat→Nat→Rat) (m:Nat):∀n,sumR n (fun i=>sumR m (f i))=sumR m (fun k=>sumR n (fun i=>f i k))
 |0=>by
  rw[sumR]
  have:sumR m (fun _=>(0:Rat))=0:=by induction m with
   |zero=>rfl
   |succ m ih=>rw[sumR,ih];grind
  exact(show sumR m (fun k=>sumR 0 (fun i=>f i k))=0 from this).symm
 |n+1=>by rw[sumR,sum_swap f m n,←sum_add];exact sum_congr m fun k _=>rfl
theorem sum_mul (c:Rat) (f:Nat→Rat) (n:Nat):sumR n (fun i=>f i*c)=sumR n f*c:=by
 rw[Rat.mul_comm,←sum_smul]
 exact sum_congr n fun i _=>Rat.mul_comm _ _
def delta (i k:Nat):Rat:=if i=k then 1 else 0
theorem sum_deltaL {f:Nat→Rat} {i:Nat}:∀n,sumR n (fun j=>delta i j*f j)=if i<n then f i else 0
 |0=>by simp[sumR]
 |n+1=>by
  rw[sumR,sum_deltaL n,delta]
  by_cases h:i=n
  ·subst h;simp;grind
  ·by_cases h2:i<n
   ·simp[h,h2,show i<n+1 by omega];grind
   ·simp[h,h2,show ¬i<n+1 by omega];grind
theorem delta_comm (i k:Nat):delta i k=delta k i:=by unfold delta;by_cases h:i=k<;>simp[h,eq_comm]
theorem sum_deltaR {f:Nat→Rat} {i n:Nat}:sumR n (fun j=>f j*delta j i)=if i<n then f i else 0:=by
 rw[←sum_deltaL n];exact sum_congr n fun j _=>by rw[delta_comm,Rat.mul_comm]
abbrev mturn (r c:Nat) (a:List Rat):List Rat:=mk c r fun i k=>el a c k i
abbrev mone (n:Nat):List Rat:=mk n n delta
abbrev mapply (r c:Nat) (a v:List Rat):List Rat:=(List.range r).map fun i=>sumR c fun p=>el a c i p*v.getD p 0
theorem mapply_len {r c:Nat} {a v:List Rat}:(mapply r c a v).length=r:=by simp
theorem mapply_get {r c i:Nat} {a v:List Rat} (hi:i<r):(mapply r c a v).getD i 0=sumR c fun p=>el a c i p*v.getD p 0:=by
 simp[List.getD_eq_getElem?_getD,hi]
theorem sum_mulL {f:Nat→Rat} (c:Rat) (n:Nat):c*sumR n f=sumR n fun i=>c*f i:=(sum_smul c f n).symm
theorem sum_mulR {f:Nat→Rat} (c:Rat) (n:Nat):sumR n f*c=sumR n fun i=>f i*c:=(sum_mul c f n).symm
end Go.Proofs.YtfjhnollamkdcaaGreatDoor
namespace Go.Proofs.YtfjhnollamkdcaaGreatDoor
open Go.Sx
set_option linter.unusedSimpArgs false
set_option linter.unusedVariables false
set_option maxRecDepth 100000
set_option maxHeartbeats 4000000
theorem sum_shift (f:Nat→Rat):∀n,sumR (n+1) f=f 0+sumR n (fun i=>f (i+1))
 |0=>by simp only[sumR];grind
 |n+1=>by rw[sumR,sum_shift f n,sumR];grind
theorem sum_zeros {f:Nat→Rat} {n:Nat} (h:∀i,i<n→f i=0):sumR n f=0:=by
 rw[sum_congr n h,sum_const_zero]
theorem sum_one {f:Nat→Rat} {j:Nat}:∀n,j<n→(∀i,i<n→i≠j→f i=0)→sumR n f=f j
 |0,h,_=>by omega
 |n+1,hj,h=>by
  rw[sumR]
  by_cases e:j=n
  ·subst e;rw[sum_zeros fun i hi=>h i (by omega) (by omega)];grind
  ·rw[sum_one n (by omega) (fun i hi hn=>h i (by omega) hn),h n (by omega) (fun g=>e g.symm)];grind
theorem sum_two {f:Nat→Rat} {j:Nat} {n:Nat} (hj:j+1<n) (h:∀i,i<n→i≠j→i≠j+1→f i=0) (h2:f j+f (j+1)=0):sumR n f=0:=by
 have e:sumR n f=sumR n (fun i=>(if i=j then f j else 0)+(if i=j+1 then f (j+1)else 0)):=sum_congr n fun i hi=>by
  by_cases h1:i=j
  ·subst h1;simp;grind
  ·by_cases h3:i=j+1
   ·subst h3;simp;grind
   ·rw[h i hi h1 h3,if_neg h1,if_neg h3];grind
 rw[e,sum_add,sum_one (f:=fun i=>if i=j then f j else 0) (j:=j) n (by omega) (fun i _ hn=>if_neg hn),sum_one (f:=fun i=>if i=j+1 then f (j+1)else 0) (j:=j+1) n hj (fun i _ hn=>if_neg hn)]
 simp[h2]
abbrev Mx:=Nat→Nat→Rat
def sg:Nat→Rat
 |0=>1
 |n+1=> - sg n
theorem sg_add (m:Nat):∀n,sg (m+n)=sg m*sg n
 |0=>by rw[sg,Nat.add_zero];grind
 |n+1=>by rw[←Nat.add_assoc,sg,sg,sg_add m n];grind
theorem sg_sq (n:Nat):sg n*sg n=1:=by
 induction n with
 |zero=>rw[sg];grind
 |succ n ih=>rw[sg];grind
def sk (k j:Nat):Nat:=if j<k then j else j+1
theorem sk_ne (k j:Nat):sk k j≠k:=by unfold sk;split<;>omega
theorem sk_lt {n k j:Nat} (hj:j<n):sk k j<n+1:=by unfold sk;split<;>omega
theorem sk_le {k j:Nat} (h:j<k):sk k j=j:=if_pos h
theorem sk_ge {k j:Nat} (h:k≤j):sk k j=j+1:=if_neg (by omega)
theorem sk_sk {k l j:Nat} (h:l≤k):sk (k+1) (sk l j)=sk l (sk k j):=by
 unfold sk
 by_cases h1:j<l
 ·simp[h1,show j<k by omega,show j<k+1 by omega]
 ·by_cases h2:j<k
  ·simp[h1,h2]
  ·simp[h1,h2,show ¬j+1<l by omega]
def mn (A:Mx) (k:Nat):Mx:=fun i j=>A (i+1) (sk k j)
def det:Nat→Mx→Rat
 |0,_=>1
 |n+1,A=>sumR (n+1) fun k=>sg k*A 0 k*det n (mn A k)
theorem det_succ (n:Nat) (A:Mx):det (n+1) A=sumR (n+1) fun k=>sg k*A 0 k*det n (mn A k):=rfl
theorem det_congr:∀{n:Nat} {A B:Mx},(∀i k,i<n→k<n→A i k=B i k)→det n A=det n B
 |0,_,_,_=>rfl
 |n+1,A,B,h=>by
  rw[det_succ,det_succ]
  refine sum_congr _ fun k hk=> ?_
  rw[h 0 k (by omega) hk,det_congr (n:=n) (A:=mn A k) (B:=mn B k) (fun i j hi hj=>h _ _ (by omega) (sk_lt hj))]
def setRow (A:Mx) (i:Nat) (x:Nat→Rat):Mx:=fun p q=>if p=i then x q else A p q
theorem setRow_at (A:Mx) (i:Nat) (x:Nat→Rat):setRow A i x i=x:=by funext q;simp[setRow]
theorem setRow_ne (A:Mx) {i p:Nat} (x:Nat→Rat) (h:p≠i):setRow A i x p=A p:=by funext q;simp[setRow,h]
theorem setRow_self (A:Mx) (i:Nat):setRow A i (A i)=A:=by
 funext p q
 by_cases h:p=i
 ·subst h;rw[setRow_at]
 ·rw[setRow_ne _ _ h]
theorem setRow_two (A:Mx) (i:Nat) (x y:Nat→Rat):setRow (setRow A i x) i y=setRow A i y:=by
 funext p q;unfold setRow;split<;>rfl
theorem setRow_comm (A:Mx) {i j:Nat} (x y:Nat→Rat) (h:i≠j):setRow (setRow A i x) j y=setRow (setRow A j y) i x:=by
 funext p q;unfold setRow
 by_cases h1:p=i
 ·subst h1;simp[h]
 ·simp[h1]
structure Alt (n:Nat) (F:Mx→Rat):Prop where
 congr:∀A B,(∀i k,i<n→k<n→A i k=B i k)→F A=F B
 lin:∀A i x c y,i<n→F (setRow A i fun k=>x k+c*y k)=F (setRow A i x)+c*F (setRow A i y)
 alt:∀A i,i+1<n→(∀k,k<n→A i k=A (i+1) k)→F A=0
theorem mn_set0 (A:Mx) (x:Nat→Rat) (k:Nat):mn (setRow A 0 x) k=mn A k:=by
 funext i j;rw[mn,setRow_ne _ _ (by omega)];rfl
theorem mn_set (A:Mx) (x:Nat→Rat) (k i:Nat):mn (setRow A (i+1) x) k=setRow (mn A k) i fun j=>x (sk k j):=by
 funext p q
 by_cases h:p=i
 ·subst h;rw[setRow_at,mn,setRow_at]
 ·rw[setRow_ne _ _ h,mn,setRow_ne _ _ (by omega)];rfl
theorem det_lin:∀(n:Nat) (A:Mx) (i:Nat) (x:Nat→Rat) (c:Rat) (y:Nat→Rat),i<n→det n (setRow A i fun k=>x k+c*y k)=det n (setRow A i x)+c*det n (setRow A i y)
 |0,_,_,_,_,_,h=>by omega
 |n+1,A,0,x,c,y,_=>by
  rw[det_succ,det_succ,det_succ,sum_mulL,←sum_add]
  refine sum_congr _ fun k _=> ?_
  rw[setRow_at,setRow_at,setRow_at,mn_set0,mn_set0,mn_set0]
  grind
 |n+1,A,i+1,x,c,y,h=>by
  rw[det_succ,det_succ,det_succ,sum_mulL,←sum_add]
  refine sum_congr _ fun k _=> ?_
  rw[setRow_ne _ _ (by omega),setRow_ne _ _ (by omega),setRow_ne _ _ (by omega),mn_set,mn_set,mn_set,det_lin n _ _ _ _ _ (by omega)]
  grind
theorem sum_anti (n:Nat) (T:Nat→Nat→Rat) (h:∀k l,l≤k→k<n→T (k+1) l= - T l k):sumR (n+1) (fun k=>sumR n (T k))=0:=by
 have e1:sumR (n+1) (fun k=>sumR n (T k))=sumR (n+1) (fun k=>sumR n fun l=>if l<k then T k l else 0)+sumR (n+1) (fun k=>sumR n fun l=>if l<k then 0 else T k l):=by
  rw[←sum_add]
  refine sum_congr _ fun k _=> ?_
  rw[←sum_add]
  exact sum_congr _ fun l _=>by split<;>grind
 have e2:sumR (n+1) (fun k=>sumR n fun l=>if l<k then T k l else 0)=sumR n fun k=>sumR n fun l=>if l<k+1 then T (k+1) l else 0:=by
  rw[sum_shift,sum_zeros fun l _=>if_neg (by omega)];grind
 have e3:sumR (n+1) (fun k=>sumR n fun l=>if l<k then 0 else T k l)=sumR n fun k=>sumR n fun l=>if k<l then 0 else T l k:=by
  rw[sumR,sum_zeros (f:=fun l=>if l<n then 0 else T n l) fun l hl=>if_pos hl,sum_swap];grind
 rw[e1,e2,e3,←sum_add]
 refine sum_zeros fun k hk=> ?_
 rw[←sum_add]
 refine sum_zeros fun l hl=> ?_
 by_cases h1:l≤k
 ·rw[if_pos (by omega),if_neg (by omega),h k l h1 hk];grind
 ·rw[if_neg (by omega),if_pos (by omega)];grind
theorem det_alt0:∀(n:Nat) (A:Mx) (i:Nat),i+1<n→(∀k,k<n→A i k=A (i+1) k)→det n A=0
 |0,_,_,h,_=>by omega
 |1,_,_,h,_=>by omega
 |n+2,A,0,_,h=>by
  rw[det_succ]
  have e:∀k,k<n+2→sg k*A 0 k*det (n+1) (mn A k)=sumR (n+1) fun l=>sg k*A 0 k*(sg l*A 1 (sk k l)*det n (mn (mn A k) l)):=fun k _=>by
   rw[det_succ,sum_mulL];rfl
  rw[sum_congr _ e]
  refine sum_anti (n+1) (fun k l=>sg k*A 0 k*(sg l*A 1 (sk k l)*det n (mn (mn A k) l))) fun k l hl hk=> ?_
  have e1:mn (mn A (k+1)) l=mn (mn A l) k:=by
   funext i j
   rw[mn,mn,mn,mn,sk_sk hl]
  show sg (k+1)*A 0 (k+1)*(sg l*A 1 (sk (k+1) l)*det n (mn (mn A (k+1)) l))= - (sg l*A 0 l*(sg k*A 1 (sk l k)*det n (mn (mn A l) k)))
  rw[e1,sk_le (by omega),sk_ge hl,h (k+1) (by omega),h l (by omega),sg]
  grind
 |n+2,A,i+1,hi,h=>by
  rw[det_succ]
  refine sum_zeros fun k _=> ?_
  rw[det_alt0 (n+1) (mn A k) i (by omega) (fun j hj=>h _ (sk_lt hj))];grind
theorem det_Alt (n:Nat):Alt n (det n):=⟨fun _ _=>det_congr,fun A i x c y=>det_lin n A i x c y,fun A i=>det_alt0 n A i⟩
section
variable {n:Nat} {F:Mx→Rat} (hF:Alt n F)
include hF
theorem Alt.add (A:Mx) {i:Nat} (x y:Nat→Rat) (hi:i<n):F (setRow A i fun k=>x k+y k)=F (setRow A i x)+F (setRow A i y):=by
 have:=hF.lin A i x 1 y hi
 rw[show(fun k=>x k+1*y k)=fun k=>x k+y k from by funext k;grind]at this
 rw[this];grind
theorem Alt.zero (A:Mx) {i:Nat} (hi:i<n):F (setRow A i fun _=>0)=0:=by
 have:=hF.add A (fun _=>0) (fun _=>0) hi
 rw[show(fun _:Nat=>(0:Rat)+0)=fun _=>0 from by funext k;grind]at this
 grind
theorem Alt.smul (A:Mx) {i:Nat} (c:Rat) (x:Nat→Rat) (hi:i<n):F (setRow A i fun k=>c*x k)=c*F (setRow A i x):=by
 have:=hF.lin A i (fun _=>0) c x hi
 rw[hF.zero A hi,show(fun k=>(0:Rat)+c*x k)=fun k=>c*x k from by funext k;grind]at this
 rw[this];grind
theorem Alt.sum (A:Mx) {i:Nat} (hi:i<n) (a:Nat→Rat) (e:Nat→Nat→Rat):∀m,F (setRow A i fun k=>sumR m fun p=>a p*e p k)=sumR m fun p=>a p*F (setRow A i (e p))
 |0=>by simp only[sumR];exact hF.zero A hi
 |m+1=>by
  simp only[sumR]
  rw[hF.lin A i (fun k=>sumR m fun p=>a p*e p k) (a m) (e m) hi,Alt.sum A hi a e m]
def swapRow (A:Mx) (i j:Nat):Mx:=fun p=>if p=i then A j else if p=j then A i else A p
omit hF in
theorem swap_set (A:Mx) {i j:Nat} (h:i≠j):swapRow A i j=setRow (setRow A i (A j)) j (A i):=by
 funext p q
 unfold swapRow
 by_cases h1:p=i
 ·subst h1;rw[if_pos rfl,setRow_ne _ _ h,setRow_at]
 ·by_cases h2:p=j
  ·subst h2;rw[if_neg h1,if_pos rfl,setRow_at]
  ·rw[if_neg h1,if_neg h2,setRow_ne _ _ h2,setRow_ne _ _ h1]
theorem Alt.swap_of (A:Mx) {i j:Nat} (hi:i<n) (hj:j<n) (hne:i≠j) (h0:∀x,F (setRow (setRow A i x) j x)=0):F (swapRow A i j)= - F A:=by
 have h1:=h0 (fun k=>A i k+A j k)
 rw[hF.add _ _ _ hj,setRow_comm _ _ _ hne,hF.add _ _ _ hi,setRow_comm _ _ _ hne,hF.add _ _ _ hi,
  setRow_comm _ _ _ hne.symm,h0,setRow_comm _ _ _ hne.symm,setRow_comm _ _ _ hne.symm,setRow_comm _ _ _ hne.symm,h0]at h1
 have e1:setRow (setRow A i (A i)) j (A j)=A:=by rw[setRow_self,setRow_self]
 rw[←swap_set A hne]at h1
 rw[e1]at h1
 grind
theorem Alt.swap1 (A:Mx) {i:Nat} (hi:i+1<n):F (swapRow A i (i+1))= - F A:=
 hF.swap_of A (by omega) hi (by omega) fun x=>hF.alt _ i hi fun k _=>by rw[setRow_ne _ _ (by omega),setRow_at,setRow_at]
theorem Alt.same (d:Nat):∀(A:Mx) (i:Nat),i+d+1<n→(∀k,k<n→A i k=A (i+d+1) k)→F A=0:=by
 induction d with
 |zero=>exact fun A i hi h=>hF.alt A i hi h
 |succ d ih=>
  intro A i hi h
  have h1:=ih (swapRow A (i+d+1) (i+d+1+1)) i (by omega) fun k hk=>by
   unfold swapRow
   rw[if_neg (by omega),if_neg (by omega),if_pos rfl];exact h k hk
  rw[hF.swap1 A (by omega)]at h1
  grind
theorem Alt.eq (A:Mx) {i j:Nat} (hi:i<n) (hj:j<n) (hne:i≠j) (h:∀k,k<n→A i k=A j k):F A=0:=by
 rcases Nat.lt_or_gt_of_ne hne with g|g
 ·exact hF.same (j - i - 1) A i (by omega) fun k hk=>by rw[show i+(j - i - 1)+1=j by omega];exact h k hk
 ·exact hF.same (i - j - 1) A j (by omega) fun k hk=>by rw[show j+(i - j - 1)+1=i by omega];exact(h k hk).symm
theorem Alt.swap (A:Mx) {i j:Nat} (hi:i<n) (hj:j<n) (hne:i≠j):F (swapRow A i j)= - F A:=
 hF.swap_of A hi hj hne fun x=>hF.eq _ hi hj hne fun k _=>by rw[setRow_ne _ _ hne,setRow_at,setRow_at]
theorem Alt.addrow (A:Mx) {i j:Nat} (c:Rat) (hi:i<n) (hj:j<n) (hne:i≠j):F (setRow A i fun k=>A i k+c*A j k)=F A:=by
 rw[hF.lin A i (A i) c (A j) hi,setRow_self,hF.eq (setRow A i (A j)) hi hj hne fun k _=>by rw[setRow_at,setRow_ne _ _ (fun h=>hne h.symm)]]
 grind
def rowTop (k:Nat) (A:Mx):Mx:=fun i=>if i=0 then A k else if i≤k then A (i - 1)else A i
theorem Alt.top:∀(k:Nat) (A:Mx),k<n→F (rowTop k A)=sg k*F A
 |0,A,_=>by
  rw[show rowTop 0 A=A from by
   funext i;unfold rowTop
   by_cases h:i=0
   ·rw[if_pos h,h]
   ·rw[if_neg h,if_neg (by omega)],sg]
  grind
 |k+1,A,h=>by
  have e:rowTop (k+1) A=rowTop k (swapRow A k (k+1)):=by
   funext i;unfold rowTop swapRow
   by_cases h1:i=0
   ·rw[if_pos h1,if_pos h1,if_pos rfl]
   ·rw[if_neg h1,if_neg h1]
    by_cases h2:i≤k
    ·rw[if_pos (by omega),if_pos h2,if_neg (by omega),if_neg (by omega)]
    ·rw[if_neg h2]
     by_cases h3:i=k+1
     ·subst h3;rw[if_pos (by omega),if_neg (by omega),if_pos rfl];rfl
     ·rw[if_neg (by omega),if_neg (by omega),if_neg h3]
  rw[e,Alt.top k _ (by omega),hF.swap1 A h,sg]
  grind
end
def un (k q:Nat):Nat:=if q<k then q else q - 1
theorem un_sk (k j:Nat):un k (sk k j)=j:=by
 unfold un sk
 by_cases h:j<k
 ·rw[if_pos h,if_pos h]
 ·rw[if_neg h,if_neg (by omega)];rfl
theorem sk_un {k q:Nat} (h:q≠k):sk k (un k q)=q:=by
 unfold un sk
 by_cases h1:q<k
 ·rw[if_pos h1,if_pos h1]
 ·rw[if_neg h1,if_neg (by omega)];omega
theorem un_lt {n k q:Nat} (hq:q<n+1) (hk:k<n+1) (h:q≠k):un k q<n:=by unfold un;split<;>omega
def bord (k:Nat) (B:Mx):Mx:=fun i q=>if i=0 then delta k q else if q=k then 0 else B (i - 1) (un k q)
theorem bord_set (k:Nat) (B:Mx) (i:Nat) (x:Nat→Rat):bord k (setRow B i x)=setRow (bord k B) (i+1) fun q=>if q=k then 0 else x (un k q):=by
 funext p q
 by_cases h:p=i+1
 ·subst h
  rw[setRow_at,bord,if_neg (by omega),show i+1 - 1=i by omega,setRow_at]
 ·rw[setRow_ne _ _ h,bord,bord]
  by_cases h0:p=0
  ·rw[if_pos h0,if_pos h0]
  ·rw[if_neg h0,if_neg h0,setRow_ne _ _ (by omega)]
theorem Alt.bord {n:Nat} {F:Mx→Rat} (hF:Alt (n+1) F) {k:Nat} (hk:k<n+1):Alt n fun B=>F (bord k B) where
 congr:=fun A B h=>hF.congr _ _ fun i q hi hq=>by
  unfold Go.Proofs.YtfjhnollamkdcaaGreatDoor.bord
  by_cases h0:i=0
  ·rw[if_pos h0,if_pos h0]
  ·rw[if_neg h0,if_neg h0]
   by_cases h1:q=k
   ·rw[if_pos h1,if_pos h1]
   ·rw[if_neg h1,if_neg h1];exact h _ _ (by omega) (un_lt hq hk h1)
 lin:=fun A i x c y hi=>by
  show F _=F _+c*F _
  rw[bord_set,bord_set,bord_set,←hF.lin _ _ _ _ _ (by omega)]
  congr 2
  funext q
  by_cases h:q=k
  ·rw[if_pos h,if_pos h,if_pos h];grind
  ·rw[if_neg h,if_neg h,if_neg h]
 alt:=fun A i hi h=>hF.alt _ (i+1) (by omega) fun q hq=>by
  unfold Go.Proofs.YtfjhnollamkdcaaGreatDoor.bord
  rw[if_neg (show ¬i+1=0 by omega),if_neg (show ¬i+1+1=0 by omega)]
  by_cases h1:q=k
  ·rw[if_pos h1,if_pos h1]
  ·rw[if_neg h1,if_neg h1];exact h _ (un_lt hq hk h1)
theorem alt_unique:∀(n:Nat) (F:Mx→Rat),Alt n F→∀A,F A=F delta*det n A
 |0,F,hF,A=>by rw[hF.congr A delta fun i k hi=>by omega,det];grind
 |n+1,F,hF,A=>by
  have e0:F A=sumR (n+1) fun k=>A 0 k*F (setRow A 0 (delta k)):=by
   rw[←hF.sum A (by omega) (A 0) delta (n+1)]
   refine hF.congr _ _ fun i q hi hq=> ?_
   by_cases h:i=0
   ·subst h;rw[setRow_at,sum_deltaR,if_pos hq]
   ·rw[setRow_ne _ _ h]
  rw[e0,det_succ,sum_mulL]
  refine sum_congr _ fun k hk=> ?_
  have e1:∀m,m≤n→F (setRow A 0 (delta k))=F (fun i q=>if i=0 then delta k q else if i≤m∧q=k then 0 else A i q):=by
   intro m
   induction m with
   |zero=>
    intro _
    refine hF.congr _ _ fun i q _ _=> ?_
    by_cases h:i=0
    ·subst h;rw[setRow_at,if_pos rfl]
    ·rw[setRow_ne _ _ h,if_neg h,if_neg (by omega)]
   |succ m ih=>
    intro hm
    rw[ih (by omega),←hF.addrow (i:=m+1) (j:=0) (fun i q=>if i=0 then delta k q else if i≤m∧q=k then 0 else A i q) (- A (m+1) k) (by omega) (by omega) (by omega)]
    refine hF.congr _ _ fun i q _ _=> ?_
    by_cases h:i=m+1
    ·subst h
     rw[setRow_at,if_neg (by omega),if_neg (by omega),if_pos rfl,if_neg (by omega)]
     by_cases hq:q=k
     ·subst hq;rw[if_pos ⟨Nat.le_refl _,rfl⟩];simp[delta];grind
     ·rw[if_neg (fun g=>hq g.2),delta,if_neg (fun g=>hq g.symm)];grind
    ·rw[setRow_ne _ _ h]
     by_cases h0:i=0
     ·rw[if_pos h0,if_pos h0]
     ·rw[if_neg h0,if_neg h0]
      by_cases g:i≤m∧q=k
      ·rw[if_pos g,if_pos ⟨by omega,g.2⟩]
      ·rw[if_neg g,if_neg (fun g2=>g ⟨by omega,g2.2⟩)]
  have e2:F (setRow A 0 (delta k))=F (bord k (mn A k)):=by
   rw[e1 n (Nat.le_refl _)]
   refine hF.congr _ _ fun i q hi _=> ?_
   unfold bord
   by_cases h0:i=0
   ·rw[if_pos h0,if_pos h0]
   ·rw[if_neg h0,if_neg h0]
    by_cases hq:q=k
    ·rw[if_pos ⟨by omega,hq⟩,if_pos hq]
    ·rw[if_neg (fun g=>hq g.2),if_neg hq,mn,sk_un hq,show i - 1+1=i by omega]
  have e3:F (bord k delta)=sg k*F delta:=by
   rw[←hF.top k delta hk]
   refine hF.congr _ _ fun i q hi _=> ?_
   unfold bord rowTop
   by_cases h0:i=0
   ·rw[if_pos h0,if_pos h0]
   ·rw[if_neg h0,if_neg h0]
    by_cases hq:q=k
    ·rw[if_pos hq,hq]
     by_cases h1:i≤k
     ·rw[if_pos h1,delta,if_neg (by omega)]
     ·rw[if_neg h1,delta,if_neg (by omega)]
    ·rw[if_neg hq]
     unfold un delta
     by_cases h1:i≤k
     ·rw[if_pos h1]
      by_cases h2:q<k
      ·rw[if_pos h2]
      ·rw[if_neg h2,if_neg (by omega),if_neg (by omega)]
     ·rw[if_neg h1]
      by_cases h2:q<k
      ·rw[if_pos h2,if_neg (by omega),if_neg (by omega)]
      ·rw[if_neg h2]
       by_cases h3:i=q
       ·rw[if_pos (by omega),if_pos h3]
       ·rw[if_neg (by omega),if_neg h3]
  rw[e2,alt_unique n _ (hF.bord hk) (mn A k),e3]
  grind
end Go.Proofs.YtfjhnollamkdcaaGreatDoor
namespace Go.Proofs.YtfjhnollamkdcaaGreatDoor
open Go.Sx
set_option linter.unusedSimpArgs false
set_option linter.unusedVariables false
set_option maxRecDepth 100000
set_option maxHeartbeats 4000000
theorem det_one:∀n,det n delta=1
 |0=>rfl
 |n+1=>by
  rw[det_succ,sum_one (j:=0) (n+1) (by omega) fun i _ hi=>by rw[delta,if_neg fun h=>hi h.symm];grind]
  rw[sg,det_congr (A:=mn delta 0) (B:=delta) fun i k _ _=>by
   show delta (i+1) (sk 0 k)=_
   rw[sk_ge (by omega)];unfold delta
   by_cases h:i=k
   ·rw[if_pos (by omega),if_pos h]
   ·rw[if_neg (by omega),if_neg h],det_one n]
  simp[delta]
def pr (n:Nat) (A B:Mx):Mx:=fun i k=>sumR n fun p=>A i p*B p k
theorem det_mul (n:Nat) (A B:Mx):det n (pr n A B)=det n A*det n B:=by
 have h:Alt n fun A=>det n (pr n A B):={
  congr:=fun A A' h=>det_congr fun i k hi hk=>sum_congr n fun p hp=>by rw[h i p hi hp]
  lin:=fun A i x c y hi=>by
   have e:∀z,pr n (setRow A i z) B=setRow (pr n A B) i fun k=>sumR n fun p=>z p*B p k:=fun z=>by
    funext p q
    by_cases h:p=i
    ·subst h;rw[setRow_at,pr];simp only[setRow_at]
    ·rw[setRow_ne _ _ h];unfold pr;simp only[setRow_ne _ _ h]
   show det n _=det n _+c*det n _
   rw[e,e,e,←det_lin n _ _ _ _ _ hi]
   congr 2
   funext k
   rw[sum_mulL,←sum_add]
   exact sum_congr n fun p _=>by grind
  alt:=fun A i hi h=>det_alt0 n _ i hi fun k _=>sum_congr n fun p hp=>by rw[h p hp]}
 rw[alt_unique n _ h A]
 show det n (pr n delta B)*det n A=_
 rw[det_congr (A:=pr n delta B) (B:=B) fun i k hi _=>by rw[pr,sum_deltaL,if_pos hi]]
 grind
def setCol (A:Mx) (j:Nat) (x:Nat→Rat):Mx:=fun p q=>if q=j then x p else A p q
theorem mn_setCol_eq (A:Mx) (x:Nat→Rat) (k:Nat):mn (setCol A k x) k=mn A k:=by
 funext i j;rw[mn,setCol,if_neg (sk_ne _ _)];rfl
theorem mn_setCol (A:Mx) (x:Nat→Rat) {j k:Nat} (h:j≠k):mn (setCol A j x) k=setCol (mn A k) (un k j) fun p=>x (p+1):=by
 funext p q
 unfold mn setCol
 by_cases e:sk k q=j
 ·rw[if_pos e,if_pos (by rw[←e,un_sk])]
 ·rw[if_neg e,if_neg fun g=>e (by rw[g,sk_un h])]
theorem det_collin:∀(n:Nat) (A:Mx) (j:Nat) (x:Nat→Rat) (c:Rat) (y:Nat→Rat),j<n→det n (setCol A j fun k=>x k+c*y k)=det n (setCol A j x)+c*det n (setCol A j y)
 |0,_,_,_,_,_,h=>by omega
 |n+1,A,j,x,c,y,hj=>by
  rw[det_succ,det_succ,det_succ,sum_mulL,←sum_add]
  refine sum_congr _ fun k hk=> ?_
  by_cases h:j=k
  ·subst h
   rw[mn_setCol_eq,mn_setCol_eq,mn_setCol_eq]
   simp only[setCol,if_true]
   grind
  ·rw[mn_setCol _ _ h,mn_setCol _ _ h,mn_setCol _ _ h,det_collin n _ _ _ _ _ (un_lt hj hk h)]
   simp only[setCol,if_neg fun g=>h (Eq.symm g)]
   grind
theorem det_colalt:∀(n:Nat) (A:Mx) (j:Nat),j+1<n→(∀i,i<n→A i j=A i (j+1))→det n A=0
 |0,_,_,h,_=>by omega
 |n+1,A,j,hj,h=>by
  rw[det_succ]
  refine sum_two hj (fun k hk h1 h2=> ?_) ?_
  ·have:det n (mn A k)=0:=by
    rcases Nat.lt_or_gt_of_ne h1 with g|g
    ·refine det_colalt n _ (j - 1) (by omega) fun i hi=> ?_
     show A (i+1) (sk k (j - 1))=A (i+1) (sk k (j - 1+1))
     rw[sk_ge (by omega),sk_ge (by omega),show j - 1+1=j by omega]
     exact h _ (by omega)
    ·refine det_colalt n _ j (by omega) fun i hi=> ?_
     show A (i+1) (sk k j)=A (i+1) (sk k (j+1))
     rw[sk_le (by omega),sk_le (by omega)]
     exact h _ (by omega)
   rw[this];grind
  ·have:det n (mn A j)=det n (mn A (j+1)):=det_congr fun i q hi _=>by
    unfold mn
    by_cases e:q=j
    ·subst e;rw[sk_ge (Nat.le_refl _),sk_le (Nat.lt_succ_self _)];exact(h _ (by omega)).symm
    ·by_cases g:q<j
     ·rw[sk_le g,sk_le (by omega)]
     ·rw[sk_ge (by omega),sk_ge (by omega)]
   rw[this,h 0 (by omega),sg];grind
def tr (A:Mx):Mx:=fun i k=>A k i
theorem det_turn (n:Nat) (A:Mx):det n (tr A)=det n A:=by
 have h:Alt n fun A=>det n (tr A):={
  congr:=fun A A' h=>det_congr fun i k hi hk=>h k i hk hi
  lin:=fun A i x c y hi=>det_collin n (tr A) i x c y hi
  alt:=fun A i hi h=>det_colalt n (tr A) i hi h}
 rw[alt_unique n _ h A]
 show det n (tr delta)*det n A=_
 rw[det_congr (A:=tr delta) (B:=delta) fun i k _ _=>delta_comm k i,det_one];grind
def mnr (A:Mx) (r k:Nat):Mx:=fun i j=>A (sk r i) (sk k j)
theorem laplace (n:Nat) (A:Mx) {r:Nat} (hr:r<n+1):det (n+1) A=sumR (n+1) fun k=>sg (r+k)*A r k*det n (mnr A r k):=by
 have h:=(det_Alt (n+1)).top r A hr
 have h2:det (n+1) A=sg r*det (n+1) (rowTop r A):=by rw[h,←Rat.mul_assoc,sg_sq];grind
 rw[h2,det_succ,sum_mulL]
 refine sum_congr _ fun k _=> ?_
 have e:mn (rowTop r A) k=mnr A r k:=by
  funext i j
  unfold mn mnr rowTop
  rw[if_neg (by omega)]
  by_cases g:i<r
  ·rw[if_pos (by omega),sk_le g];rfl
  ·rw[if_neg (by omega),sk_ge (k:=r) (by omega)]
 rw[e,sg_add,show rowTop r A 0=A r from rfl];grind
theorem mnr_tr (A:Mx) (r k:Nat):mnr (tr A) r k=tr (mnr A k r):=rfl
def adj (n:Nat) (A:Mx):Mx:=fun i k=>sg (i+k)*det (n - 1) (mnr A k i)
theorem adj_tr (n:Nat) (A:Mx) (i k:Nat):adj n (tr A) i k=adj n A k i:=by
 rw[adj,adj,mnr_tr,det_turn,Nat.add_comm]
theorem mnr_set (A:Mx) (r k:Nat) (x:Nat→Rat):mnr (setRow A r x) r k=mnr A r k:=by
 funext i j;rw[mnr,setRow_ne _ _ (sk_ne _ _)];rfl
theorem mul_adj {n:Nat} (A:Mx) {i k:Nat} (hi:i<n) (hk:k<n):pr n A (adj n A) i k=if i=k then det n A else 0:=by
 obtain⟨m,rfl⟩:∃m,n=m+1:=⟨n - 1,by omega⟩
 have h:pr (m+1) A (adj (m+1) A) i k=det (m+1) (setRow A k (A i)):=by
  rw[laplace m _ hk]
  refine sum_congr _ fun p _=> ?_
  rw[mnr_set,setRow_at,adj,Nat.add_comm k p,show m+1 - 1=m from rfl];grind
 rw[h]
 by_cases e:i=k
 ·subst e;rw[setRow_self,if_pos rfl]
 ·rw[if_neg e,(det_Alt (m+1)).eq _ hi hk e fun q _=>by rw[setRow_ne _ _ e,setRow_at]]
theorem adj_mul {n:Nat} (A:Mx) {i k:Nat} (hi:i<n) (hk:k<n):pr n (adj n A) A i k=if i=k then det n A else 0:=by
 have h:=mul_adj (tr A) hk hi
 rw[det_turn]at h
 have e:pr n (adj n A) A i k=pr n (tr A) (adj n (tr A)) k i:=sum_congr _ fun p _=>by rw[adj_tr,Rat.mul_comm];rfl
 rw[e,h]
 by_cases g:i=k
 ·rw[if_pos g,if_pos g.symm]
 ·rw[if_neg g,if_neg (fun h=>g h.symm)]
def pev:List Rat→Rat→Rat
 |[],_=>0
 |a::l,t=>a+t*pev l t
def Pol (f:Rat→Rat):Prop:=∃l,∀t,f t=pev l t
theorem Pol.const (c:Rat):Pol fun _=>c:=⟨[c],fun t=>by simp only[pev];grind⟩
theorem Pol.id:Pol fun t=>t:=⟨[0,1],fun t=>by simp only[pev];grind⟩
def addL:List Rat→List Rat→List Rat
 |[],l=>l
 |l,[]=>l
 |a::l,b::m=>(a+b)::addL l m
theorem pev_addL:∀(l m:List Rat) (t:Rat),pev (addL l m) t=pev l t+pev m t
 |[],m,t=>by rw[addL,pev];grind
 |a::l,[],t=>by rw[addL];simp only[pev];grind;simp
 |a::l,b::m,t=>by rw[addL];simp only[pev];rw[pev_addL l m t];grind
theorem addL_len:∀(l m:List Rat) (d:Nat),l.length≤d→m.length≤d→(addL l m).length≤d
 |[],m,d,_,h=>by rw[addL];exact h
 |a::l,[],d,h,_=>by rw[addL];exact h;simp
 |a::l,b::m,0,h,_=>by simp at h
 |a::l,b::m,d+1,h1,h2=>by rw[addL,List.length_cons];have:=addL_len l m d (by simpa using h1) (by simpa using h2);omega
theorem pev_map (c:Rat):∀(l:List Rat) (t:Rat),pev (l.map (c*·)) t=c*pev l t
 |[],t=>by simp only[List.map_nil,pev];grind
 |a::l,t=>by simp only[List.map_cons,pev];rw[pev_map c l t];grind
theorem Pol.add {f g:Rat→Rat} (hf:Pol f) (hg:Pol g):Pol fun t=>f t+g t:=by
 obtain⟨l,hl⟩:=hf;obtain⟨m,hm⟩:=hg
 exact⟨addL l m,fun t=>by show f t+g t=_;rw[pev_addL,hl,hm]⟩
theorem Pol.smul {f:Rat→Rat} (c:Rat) (hf:Pol f):Pol fun t=>c*f t:=by
 obtain⟨l,hl⟩:=hf
 exact⟨l.map (c*·),fun t=>by show c*f t=_;rw[pev_map,hl]⟩
theorem Pol.x {f:Rat→Rat} (hf:Pol f):Pol fun t=>t*f t:=by
 obtain⟨l,hl⟩:=hf
 exact⟨0::l,fun t=>by show t*f t=_;rw[pev,hl];grind⟩
theorem Pol.mul {f g:Rat→Rat} (hf:Pol f) (hg:Pol g):Pol fun t=>f t*g t:=by
 obtain⟨l,hl⟩:=hf
 have:∀l:List Rat,Pol fun t=>pev l t*g t:=by
  intro l
  induction l with
  |nil=>exact⟨[],fun t=>by simp only[pev];grind⟩
  |cons a l ih=>
   obtain⟨m,hm⟩:=(hg.smul a).add ih.x
   exact⟨m,fun t=>by rw[←hm t];simp only[pev];grind⟩
 obtain⟨m,hm⟩:=this l
 exact⟨m,fun t=>by show f t*g t=_;rw[hl];exact hm t⟩
theorem Pol.sub {f g:Rat→Rat} (hf:Pol f) (hg:Pol g):Pol fun t=>f t - g t:=by
 obtain⟨m,hm⟩:=hf.add (hg.smul (-1))
 exact⟨m,fun t=>by rw[←hm t];grind⟩
theorem Pol.sum {f:Nat→Rat→Rat}:∀n,(∀i,i<n→Pol (f i))→Pol fun t=>sumR n fun i=>f i t
 |0,_=>⟨[],fun t=>by simp only[sumR,pev]⟩
 |n+1,h=>(Pol.sum n fun i hi=>h i (by omega)).add (h n (by omega))
theorem Pol.det {A:Rat→Mx}:∀n,(∀i k,Pol fun t=>A t i k)→Pol fun t=>det n (A t)
 |0,_=>Pol.const 1
 |n+1,h=>Pol.sum (n+1) fun k _=>((h 0 k).smul (sg k)).mul (Pol.det (A:=fun t=>mn (A t) k) n fun _ _=>h _ _)
def qd (s:Rat):List Rat→List Rat
 |[]=>[]
 |_::l=>addL l ((qd s l).map (s*·))
theorem qd_len (s:Rat):∀(l:List Rat),(qd s l).length≤l.length - 1
 |[]=>by simp[qd]
 |a::l=>by
  rw[qd]
  refine addL_len _ _ _ (by simp) ?_
  rw[List.length_map];have:=qd_len s l;simp;omega
theorem qd_spec (s:Rat):∀(l:List Rat) (t:Rat),pev l t - pev l s=(t - s)*pev (qd s l) t
 |[],t=>by simp only[pev,qd];grind
 |a::l,t=>by
  have:=qd_spec s l t
  rw[qd,pev_addL,pev_map];simp only[pev];grind
theorem pev_zero:∀(d N:Nat) (l:List Rat),l.length≤d→(∀n:Nat,N≤n→pev l n=0)→∀t,pev l t=0
 |0,_,l,hl,_,t=>by
  obtain rfl:l=[]:=List.eq_nil_of_length_eq_zero (by omega)
  rfl
 |d+1,N,l,hl,h,t=>by
  have h1:=qd_spec (N:Rat) l
  rw[h N (Nat.le_refl _)]at h1
  have h2:=pev_zero d (N+1) (qd N l) (by have:=qd_len (N:Rat) l;omega) fun n hn=>by
   have:=h1 n
   rw[h n (by omega)]at this
   have hne:(n:Rat) - N≠0:=by
    intro e
    have:(n:Rat)=N:=by grind
    have:=Rat.natCast_inj.1 this
    omega
   have h0:((n:Rat) - N)*pev (qd N l) n=0:=by rw[←this];grind
   rcases Rat.mul_eq_zero.1 h0 with g|g
   ·exact absurd g hne
   ·exact g
  have:=h1 t
  rw[h2 t]at this
  grind
theorem Pol.zero {f:Rat→Rat} (hf:Pol f) (N:Nat) (h:∀n:Nat,N≤n→f n=0) (t:Rat):f t=0:=by
 obtain⟨l,hl⟩:=hf
 rw[hl];exact pev_zero _ N l (Nat.le_refl _) (fun n hn=>by rw[←hl];exact h n hn) t
theorem Pol.dom {f h:Rat→Rat} (hf:Pol f) (hh:Pol h) (h0:h 0≠0) (H:∀s,h s≠0→f s=0) (t:Rat):f t=0:=by
 have key:∀l:List Rat,(∀t,pev l t*h t=0)→∀t,pev l t=0:=by
  intro l
  induction l with
  |nil=>intro _ t;rfl
  |cons a l ih=>
   intro hz t
   have h1:=hz 0
   simp only[pev]at h1
   have ha:a=0:=by
    rcases Rat.mul_eq_zero.1 h1 with g|g
    ·grind
    ·exact absurd g h0
   have hp:Pol fun t=>pev l t*h t:=Pol.mul ⟨l,fun _=>rfl⟩ hh
   have h2:=ih fun t=>hp.zero 1 (fun n hn=>by
    have h3:=hz n
    simp only[pev]at h3
    rw[ha]at h3
    have h4:(n:Rat)*(pev l n*h n)=0:=by grind
    rcases Rat.mul_eq_zero.1 h4 with g|g
    ·have:=Rat.natCast_inj.1 (show(n:Rat)=(0:Nat) by rw[g];rfl)
     omega
    ·exact g) t
   simp only[pev];rw[ha,h2 t];grind
 obtain⟨l,hl⟩:=hf
 rw[hl]
 refine key l (fun t=> ?_) t
 by_cases g:h t=0
 ·rw[g];grind
 ·rw[←hl,H t g];grind
def mixI (A:Mx) (s:Rat):Mx:=fun i k=>s*A i k+(1 - s)*delta i k
theorem mixI_pol (A:Mx) (i k:Nat):Pol fun s=>mixI A s i k:=(Pol.id.mul (Pol.const _)).add (((Pol.const 1).sub Pol.id).mul (Pol.const _))
theorem mixI_one (A:Mx):mixI A 1=A:=by funext i k;unfold mixI;grind
theorem mixI_zero (A:Mx):mixI A 0=delta:=by funext i k;unfold mixI;grind
theorem generic (s:Nat) (A:Mx) (f:Mx→Rat) (hp:Pol fun t=>f (mixI A t)) (h:∀B,det s B≠0→f B=0):f A=0:=by
 have:=hp.dom (h:=fun t=>det s (mixI A t)) (Pol.det s (mixI_pol A)) (by show det s (mixI A 0)≠0;rw[mixI_zero,det_one];decide) (fun t ht=>h _ ht) 1
 rwa [mixI_one]at this
end Go.Proofs.YtfjhnollamkdcaaGreatDoor
namespace Go.Proofs.YtfjhnollamkdcaaGreatDoor
open Go.Sx
set_option linter.unusedSimpArgs false
set_option linter.unusedVariables false
set_option maxRecDepth 100000
set_option maxHeartbeats 4000000
theorem Alt.addrows {n:Nat} {F:Mx→Rat} (hF:Alt n F) (A:Mx) {i:Nat} (c:Nat→Rat) (hi:i<n):∀m,m≤i→F (setRow A i fun k=>A i k+sumR m fun p=>c p*A p k)=F A
 |0,_=>by
  simp only[sumR]
  rw[show(fun k=>A i k+0)=A i from by funext k;grind,setRow_self]
 |m+1,h=>by
  have h1:=hF.addrow (i:=i) (j:=m) (setRow A i fun k=>A i k+sumR m fun p=>c p*A p k) (c m) hi (by omega) (by omega)
  rw[setRow_at,setRow_two,setRow_ne _ _ (by omega),Alt.addrows hF A c hi m (by omega)]at h1
  rw[←h1]
  congr 2
  funext k
  simp only[sumR];grind
theorem det_last {n:Nat} {A:Mx} (h:∀k,k<n→A n k=0):det (n+1) A=A n n*det n A:=by
 rw[laplace n A (r:=n) (by omega),sum_one (j:=n) (n+1) (by omega) fun k hk hne=>by rw[h k (by omega)];grind,sg_add,sg_sq]
 rw[det_congr (A:=mnr A n n) (B:=A) fun i j hi hj=>by unfold mnr;rw[sk_le hi,sk_le hj]]
 grind
theorem det_last2 {n:Nat} {A:Mx} (h:∀k,k<n→A (n+1) k=0):det (n+2) A=A (n+1) (n+1)*det (n+1) A - A (n+1) n*det (n+1) (fun i j=>A i (if j<n then j else n+1)):=by
 rw[laplace (n+1) A (r:=n+1) (by omega),sumR,sumR,sum_zeros fun k hk=>by rw[h k hk];grind]
 rw[det_congr (A:=mnr A (n+1) n) (B:=fun i j=>A i (if j<n then j else n+1)) fun i j hi hj=>by
  unfold mnr;rw[sk_le hi]
  by_cases g:j<n
  ·rw[sk_le g,if_pos g]
  ·rw[sk_ge (by omega),if_neg g,show j=n by omega]]
 rw[det_congr (A:=mnr A (n+1) (n+1)) (B:=A) fun i j hi hj=>by unfold mnr;rw[sk_le hi,sk_le hj]]
 rw[show n+1+n=(n+n)+1 by omega,sg,sg_add,sg_sq,sg_add,sg_sq]
 grind
def at1 (s i a:Nat):Nat:=if a<s then a else s+i
def bm (s:Nat) (A:Mx) (i k:Nat):Rat:=det (s+1) fun a b=>A (at1 s i a) (at1 s k b)
theorem bm_tr (s:Nat) (A:Mx) (i k:Nat):bm s (tr A) i k=bm s A k i:=by
 unfold bm;rw[←det_turn];rfl
theorem bm_zero (A:Mx) (i k:Nat):bm 0 A i k=A i k:=by
 unfold bm at1
 rw[det_succ,sumR,sumR,det,sg]
 simp only[Nat.not_lt_zero,if_false,Nat.zero_add];grind
theorem bm_first (s:Nat) (A:Mx):bm s A 0 0=det (s+1) A:=det_congr fun a b ha hb=>by
 have e:∀x,x<s+1→at1 s 0 x=x:=fun x hx=>by unfold at1;split<;>omega
 rw[e a ha,e b hb]
section
variable {s:Nat} {A:Mx} (hd:det s A≠0)
include hd
def xs (s:Nat) (A:Mx) (r:Nat→Rat) (p:Nat):Rat:=sumR s fun q=>r q*(adj s A q p*(det s A)⁻¹)
theorem xs_mul (r:Nat→Rat) {b:Nat} (hb:b<s):sumR s (fun p=>xs s A r p*A p b)=r b:=by
 have e1:sumR s (fun p=>xs s A r p*A p b)=sumR s fun p=>sumR s fun q=>r q*(adj s A q p*(det s A)⁻¹)*A p b:=
  sum_congr s fun p _=>by rw[xs,sum_mulR]
 have e2:∀q,q<s→sumR s (fun p=>r q*(adj s A q p*(det s A)⁻¹)*A p b)=r q*delta q b:=fun q hq=>by
  have h1:=adj_mul A hq hb
  unfold pr at h1
  rw[sum_congr s (g:=fun p=>(r q*(det s A)⁻¹)*(adj s A q p*A p b)) fun p _=>by grind,←sum_mulL,h1,delta]
  split
  ·have:=Rat.mul_inv_cancel _ hd;grind
  ·grind
 rw[e1,sum_swap,sum_congr s e2,sum_deltaR,if_pos hb]
def sch (s:Nat) (A:Mx) (i k:Nat):Rat:=A (s+i) (s+k) - sumR s fun p=>xs s A (A (s+i)) p*A p (s+k)
theorem bm_sch (i k:Nat):bm s A i k=det s A*sch s A i k:=by
 have h:=(det_Alt (s+1)).addrows (fun a b=>A (at1 s i a) (at1 s k b)) (i:=s) (fun p=> - xs s A (A (s+i)) p) (by omega) s (Nat.le_refl _)
 rw[bm,←h]
 have e:∀b,(A (at1 s i s) (at1 s k b)+sumR s fun p=> - xs s A (A (s+i)) p*A (at1 s i p) (at1 s k b))=A (s+i) (at1 s k b) - sumR s fun p=>xs s A (A (s+i)) p*A p (at1 s k b):=fun b=>by
  rw[at1,if_neg (by omega),sum_congr s (g:=fun p=>(-1)*(xs s A (A (s+i)) p*A p (at1 s k b))) fun p hp=>by rw[at1,if_pos hp];grind,←sum_mulL]
  grind
 rw[det_last fun b hb=>by rw[setRow_at,e];rw[show at1 s k b=b from if_pos hb,xs_mul hd _ hb];grind]
 rw[setRow_at,e,show at1 s k s=s+k from if_neg (by omega),det_congr (A:=setRow _ s _) (B:=A) fun a b ha hb=>by
  rw[setRow_ne _ _ (by omega),show at1 s i a=a from if_pos ha,show at1 s k b=b from if_pos hb]]
 unfold sch;grind
theorem bm_sch2 (i k:Nat):bm (s+1) A i k=det s A*(sch s A 0 0*sch s A (i+1) (k+1) - sch s A (i+1) 0*sch s A 0 (k+1)):=by
 have h:=(det_Alt (s+2)).addrows (fun a b=>A (at1 (s+1) i a) (at1 (s+1) k b)) (i:=s+1) (fun p=> - xs s A (A (s+(i+1))) p) (by omega) s (by omega)
 rw[bm,←h]
 have ea:∀p,p<s→at1 (s+1) i p=p:=fun p hp=>if_pos (by omega)
 have e:∀b,(A (at1 (s+1) i (s+1)) (at1 (s+1) k b)+sumR s fun p=> - xs s A (A (s+(i+1))) p*A (at1 (s+1) i p) (at1 (s+1) k b))=A (s+(i+1)) (at1 (s+1) k b) - sumR s fun p=>xs s A (A (s+(i+1))) p*A p (at1 (s+1) k b):=fun b=>by
  rw[show at1 (s+1) i (s+1)=s+(i+1)from by unfold at1;rw[if_neg (by omega)];omega,sum_congr s (g:=fun p=>(-1)*(xs s A (A (s+(i+1))) p*A p (at1 (s+1) k b))) fun p hp=>by rw[ea p hp];grind,←sum_mulL]
  grind
 rw[det_last2 fun b hb=>by rw[setRow_at,e,show at1 (s+1) k b=b from if_pos (by omega),xs_mul hd _ hb];grind]
 have e1:det (s+1) (setRow (fun a b=>A (at1 (s+1) i a) (at1 (s+1) k b)) (s+1) fun b=>A (at1 (s+1) i (s+1)) (at1 (s+1) k b)+sumR s fun p=> - xs s A (A (s+(i+1))) p*A (at1 (s+1) i p) (at1 (s+1) k b))=bm s A 0 0:=by
  rw[bm_first]
  exact det_congr fun a b ha hb=>by rw[setRow_ne _ _ (by omega),show at1 (s+1) i a=a from if_pos (by omega),show at1 (s+1) k b=b from if_pos (by omega)]
 have e2:det (s+1) (fun a b=>setRow (fun a b=>A (at1 (s+1) i a) (at1 (s+1) k b)) (s+1) (fun b=>A (at1 (s+1) i (s+1)) (at1 (s+1) k b)+sumR s fun p=> - xs s A (A (s+(i+1))) p*A (at1 (s+1) i p) (at1 (s+1) k b)) a (if b<s then b else s+1))=bm s A 0 (k+1):=by
  refine det_congr fun a b ha hb=> ?_
  show setRow _ (s+1) _ a (if b<s then b else s+1)=_
  rw[setRow_ne _ _ (by omega)]
  show A (at1 (s+1) i a) (at1 (s+1) k (if b<s then b else s+1))=A (at1 s 0 a) (at1 s (k+1) b)
  rw[show at1 (s+1) i a=a from if_pos (by omega),show at1 s 0 a=a from by unfold at1;split<;>omega]
  congr 1
  unfold at1
  by_cases g:b<s
  ·rw[if_pos g,if_pos (by omega),if_pos g]
  ·rw[if_neg g,if_neg (by omega),if_neg g];omega
 rw[e1,e2,setRow_at,e,e,show at1 (s+1) k (s+1)=s+(k+1)from by unfold at1;rw[if_neg (by omega)];omega,show at1 (s+1) k s=s+0 from if_pos (by omega),bm_sch hd,bm_sch hd]
 have f1:(A (s+(i+1)) (s+(k+1)) - sumR s fun p=>xs s A (A (s+(i+1))) p*A p (s+(k+1)))=sch s A (i+1) (k+1):=rfl
 have f2:(A (s+(i+1)) (s+0) - sumR s fun p=>xs s A (A (s+(i+1))) p*A p (s+0))=sch s A (i+1) 0:=rfl
 rw[f1,f2];grind
end
theorem bm_step (s:Nat) (A:Mx) (i k:Nat):bm s A 0 0*bm s A (i+1) (k+1) - bm s A (i+1) 0*bm s A 0 (k+1)=det s A*bm (s+1) A i k:=by
 have hb:∀s i k,Pol fun t=>bm s (mixI A t) i k:=fun s i k=>Pol.det (s+1) fun a b=>mixI_pol A _ _
 have:=generic s A (fun A=>bm s A 0 0*bm s A (i+1) (k+1) - bm s A (i+1) 0*bm s A 0 (k+1) - det s A*bm (s+1) A i k)
  ((((hb _ _ _).mul (hb _ _ _)).sub ((hb _ _ _).mul (hb _ _ _))).sub ((Pol.det s (mixI_pol A)).mul (hb _ _ _))) fun B hB=>by
   rw[bm_sch hB,bm_sch hB,bm_sch hB,bm_sch hB,bm_sch2 hB];grind
 grind
theorem bm_sing {s n:Nat} {A:Mx} (hd:det s A≠0) (hs:s<n) (h:∀i,s+i<n→bm s A i 0=0):det n A=0:=by
 have hd':det s (tr A)≠0:=by rwa [det_turn]
 rw[←det_turn,←(det_Alt n).addrows (tr A) (i:=s) (fun p=> - xs s (tr A) (tr A s) p) hs s (Nat.le_refl _)]
 have e:∀b,b<n→(fun k=>tr A s k+sumR s fun p=> - xs s (tr A) (tr A s) p*tr A p k) b=(fun _=>0) b:=fun b hb=>by
  show tr A s b+(sumR s fun p=> - xs s (tr A) (tr A s) p*tr A p b)=0
  rw[sum_congr s (g:=fun p=>(-1)*(xs s (tr A) (tr A s) p*tr A p b)) fun p _=>by grind,←sum_mulL]
  by_cases g:b<s
  ·rw[xs_mul hd' _ g];grind
  ·have h1:=h (b - s) (by omega)
   rw[←bm_tr,bm_sch hd']at h1
   have h2:sch s (tr A) 0 (b - s)=0:=by
    rcases Rat.mul_eq_zero.1 h1 with g|g
    ·exact absurd g hd'
    ·exact g
   unfold sch at h2
   rw[Nat.add_zero,show s+(b - s)=b by omega]at h2
   grind
 rw[(det_Alt n).congr (setRow (tr A) s fun k=>tr A s k+sumR s fun p=> - xs s (tr A) (tr A s) p*tr A p k) (setRow (tr A) s fun _=>0) fun i k _ hk=>by
  by_cases g:i=s
  ·subst g;rw[setRow_at,setRow_at];exact e k hk
  ·rw[setRow_ne _ _ g,setRow_ne _ _ g],(det_Alt n).zero _ hs]
theorem Pol.adj {A:Rat→Mx} (n:Nat) (h:∀i k,Pol fun t=>A t i k) (i k:Nat):Pol fun t=>adj n (A t) i k:=(Pol.det (A:=fun t=>mnr (A t) k i) (n - 1) fun _ _=>h _ _).smul (sg (i+k))
end Go.Proofs.YtfjhnollamkdcaaGreatDoor
namespace Go.Proofs.YtfjhnollamkdcaaGreatDoor
open Go.Sx
set_option linter.unusedSimpArgs false
set_option linter.unusedVariables false
set_option maxRecDepth 100000
set_option maxHeartbeats 4000000
def Bd (x b:Rat):Prop:= -b≤x∧x≤b
theorem Bd.nonneg {x b:Rat} (h:Bd x b):0≤b:=by obtain⟨h1,h2⟩:=h;grind
theorem Bd.add {x y a b:Rat} (h:Bd x a) (k:Bd y b):Bd (x+y) (a+b):=by
 obtain⟨h1,h2⟩:=h;obtain⟨k1,k2⟩:=k;constructor<;>grind
theorem Bd.neg {x a:Rat} (h:Bd x a):Bd (-x) a:=by obtain⟨h1,h2⟩:=h;constructor<;>grind
theorem Bd.mono {x a b:Rat} (h:Bd x a) (hb:a≤b):Bd x b:=by obtain⟨h1,h2⟩:=h;constructor<;>grind
theorem Bd.mul {x y a b:Rat} (h:Bd x a) (k:Bd y b):Bd (x*y) (a*b):=by
 have ha:=h.nonneg;have hb:=k.nonneg
 obtain⟨h1,h2⟩:=h;obtain⟨k1,k2⟩:=k
 have p1:=Rat.mul_nonneg (show 0≤a - x by grind) (show 0≤b+y by grind)
 have p2:=Rat.mul_nonneg (show 0≤a+x by grind) (show 0≤b - y by grind)
 have p3:=Rat.mul_nonneg (show 0≤a - x by grind) (show 0≤b - y by grind)
 have p4:=Rat.mul_nonneg (show 0≤a+x by grind) (show 0≤b+y by grind)
 constructor<;>grind
theorem Bd.sg {x a:Rat} (h:Bd x a):∀n,Bd (sg n*x) a
 |0=>by rw[Go.Proofs.YtfjhnollamkdcaaGreatDoor.sg,show(1:Rat)*x=x by grind];exact h
 |n+1=>by rw[Go.Proofs.YtfjhnollamkdcaaGreatDoor.sg,show - Go.Proofs.YtfjhnollamkdcaaGreatDoor.sg n*x= - (Go.Proofs.YtfjhnollamkdcaaGreatDoor.sg n*x) by grind];exact(Bd.sg h n).neg
theorem Bd.sum {f r:Nat→Rat}:∀n,(∀i,i<n→Bd (f i) (r i))→Bd (sumR n f) (sumR n r)
 |0,_=>(show Bd 0 0 from⟨by decide,by decide⟩)
 |n+1,h=>(Bd.sum n fun i hi=>h i (by omega)).add (h n (by omega))
end Go.Proofs.YtfjhnollamkdcaaGreatDoor
namespace Go.Proofs.YtfjhnollamkdcaaGreatDoor
open Go.Sx
set_option linter.unusedSimpArgs false
set_option linter.unusedVariables false
set_option maxRecDepth 100000
set_option maxHeartbeats 4000000
abbrev Mz:=Nat→Nat→Int
def toR (A:Mz):Mx:=fun i k=>(A i k:Rat)
def sumZ:Nat→(Nat→Int)→Int
 |0,_=>0
 |n+1,f=>sumZ n f+f n
theorem sumZ_cast (f:Nat→Int):∀n,((sumZ n f:Int):Rat)=sumR n fun i=>(f i:Rat)
 |0=>by simp[sumZ,sumR]
 |n+1=>by rw[sumZ,sumR,Rat.intCast_add,sumZ_cast f n]
def sgZ:Nat→Int
 |0=>1
 |n+1=> - sgZ n
theorem sgZ_cast:∀n,((sgZ n:Int):Rat)=sg n
 |0=>by simp[sgZ,sg]
 |n+1=>by rw[sgZ,sg,Rat.intCast_neg,sgZ_cast n]
theorem sgZ_mod:∀n,sgZ n=if n % 2=1 then -1 else 1
 |0=>rfl
 |n+1=>by
  rw[sgZ,sgZ_mod n]
  by_cases h:n % 2=1
  ·rw[if_pos h,if_neg (by omega)];rfl
  ·rw[if_neg h,if_pos (by omega)]
def detZ:Nat→Mz→Int
 |0,_=>1
 |n+1,A=>sumZ (n+1) fun k=>sgZ k*A 0 k*detZ n fun i j=>A (i+1) (sk k j)
theorem detZ_cast:∀(n:Nat) (A:Mz),((detZ n A:Int):Rat)=det n (toR A)
 |0,_=>by simp[detZ,det]
 |n+1,A=>by
  rw[detZ,det_succ,sumZ_cast]
  refine sum_congr _ fun k _=> ?_
  rw[Rat.intCast_mul,Rat.intCast_mul,sgZ_cast,detZ_cast n];rfl
theorem cast_inj {a b:Int} (h:(a:Rat)=(b:Rat)):a=b:=Rat.intCast_inj.1 h
theorem detZ_congr {n:Nat} {A B:Mz} (h:∀i k,i<n→k<n→A i k=B i k):detZ n A=detZ n B:=by
 apply cast_inj
 rw[detZ_cast,detZ_cast]
 exact det_congr fun i k hi hk=>by unfold toR;rw[h i k hi hk]
def bmZ (s:Nat) (A:Mz) (i k:Nat):Int:=detZ (s+1) fun a b=>A (at1 s i a) (at1 s k b)
theorem bmZ_cast (s:Nat) (A:Mz) (i k:Nat):((bmZ s A i k:Int):Rat)=bm s (toR A) i k:=detZ_cast _ _
theorem bmZ_zero (A:Mz) (i k:Nat):bmZ 0 A i k=A i k:=by
 apply cast_inj;rw[bmZ_cast,bm_zero];rfl
theorem bmZ_first (s:Nat) (A:Mz):bmZ s A 0 0=detZ (s+1) A:=by
 apply cast_inj;rw[bmZ_cast,bm_first,detZ_cast]
theorem bmZ_step (s:Nat) (A:Mz) (i k:Nat):bmZ s A 0 0*bmZ s A (i+1) (k+1) - bmZ s A (i+1) 0*bmZ s A 0 (k+1)=detZ s A*bmZ (s+1) A i k:=by
 apply cast_inj
 have:=bm_step s (toR A) i k
 simp only[Rat.intCast_sub,Rat.intCast_mul,bmZ_cast,detZ_cast];exact this
theorem bmZ_div {s:Nat} {A:Mz} (h:detZ s A≠0) (i k:Nat):(bmZ s A 0 0*bmZ s A (i+1) (k+1) - bmZ s A (i+1) 0*bmZ s A 0 (k+1))/detZ s A=bmZ (s+1) A i k:=by
 rw[bmZ_step,Int.mul_ediv_cancel_left _ h]
theorem bmZ_sing {s n:Nat} {A:Mz} (hd:detZ s A≠0) (hs:s<n) (h:∀i,s+i<n→bmZ s A i 0=0):detZ n A=0:=by
 apply cast_inj
 rw[detZ_cast]
 refine bm_sing (s:=s) ?_ hs fun i hi=> ?_
 ·rw[←detZ_cast];intro g;exact hd (cast_inj g)
 ·rw[←bmZ_cast,h i hi];rfl
def swapZ (A:Mz) (i j:Nat):Mz:=fun p=>if p=i then A j else if p=j then A i else A p
theorem swapZ_cast (A:Mz) (i j:Nat):toR (swapZ A i j)=swapRow (toR A) i j:=by
 funext p q
 unfold toR swapZ swapRow
 by_cases h:p=i
 ·rw[if_pos h,if_pos h]
 ·rw[if_neg h,if_neg h]
  by_cases h2:p=j
  ·rw[if_pos h2,if_pos h2]
  ·rw[if_neg h2,if_neg h2]
theorem swapZ_self (A:Mz) (i:Nat):swapZ A i i=A:=by
 funext p;unfold swapZ
 by_cases h:p=i
 ·rw[if_pos h,h]
 ·rw[if_neg h,if_neg h]
theorem detZ_swap {n:Nat} (A:Mz) {i j:Nat} (hi:i<n) (hj:j<n) (hne:i≠j):detZ n (swapZ A i j)= - detZ n A:=by
 apply cast_inj
 rw[detZ_cast,swapZ_cast,(det_Alt n).swap _ hi hj hne,Rat.intCast_neg,detZ_cast]
theorem bmZ_swap (s:Nat) (A:Mz) (j p q:Nat):bmZ s (swapZ A s (s+j)) p q=swapZ (bmZ s A) 0 j p q:=by
 have e:∀p r,(∀a,a<s+1→swapZ A s (s+j) (at1 s p a)=A (at1 s r a))→bmZ s (swapZ A s (s+j)) p q=bmZ s A r q:=fun p r h=>detZ_congr fun a b ha _=>by rw[h a ha]
 unfold swapZ at e ⊢
 by_cases h:p=0
 ·subst h
  rw[if_pos rfl]
  refine e 0 j fun a ha=> ?_
  unfold at1
  by_cases g:a<s
  ·rw[if_pos g,if_pos g,if_neg (by omega),if_neg (by omega)]
  ·rw[if_neg g,if_neg g,if_pos (Nat.add_zero s)]
 ·rw[if_neg h]
  by_cases h2:p=j
  ·subst h2
   rw[if_pos rfl]
   refine e p 0 fun a ha=> ?_
   unfold at1
   by_cases g:a<s
   ·rw[if_pos g,if_pos g,if_neg (by omega),if_neg (by omega)]
   ·rw[if_neg g,if_neg g,if_neg (by omega),if_pos rfl,Nat.add_zero]
  ·rw[if_neg h2]
   refine e p p fun a ha=> ?_
   unfold at1
   by_cases g:a<s
   ·rw[if_pos g,if_neg (by omega),if_neg (by omega)]
   ·rw[if_neg g,if_neg (by omega),if_neg (by omega)]
theorem detZ_swap_lead (s:Nat) (A:Mz) (j:Nat):detZ s (swapZ A s (s+j))=detZ s A:=detZ_congr fun i k hi _=>by
 unfold swapZ;rw[if_neg (by omega),if_neg (by omega)]
end Go.Proofs.YtfjhnollamkdcaaGreatDoor
namespace Go.Proofs.YtfjhnollamkdcaaGreatDoor
open Go.Sx
set_option linter.unusedSimpArgs false
set_option linter.unusedVariables false
set_option maxRecDepth 100000
set_option maxHeartbeats 4000000
def pickF (w:Mx) (k:Nat):Nat→Nat→Option Nat
 |0,_=>none
 |m+1,i=>if w i k=0 then pickF w k m (i+1)else some i
theorem pick_none {w:Mx} {k:Nat}:∀{m i:Nat},pickF w k m i=none→∀j,i≤j→j<i+m→w j k=0
 |0,i,_,j,h1,h2=>by omega
 |m+1,i,h,j,h1,h2=>by
  rw[pickF]at h
  by_cases g:w i k=0
  ·rw[if_pos g]at h
   by_cases e:j=i
   ·rw[e,g]
   ·exact pick_none h j (by omega) (by omega)
  ·rw[if_neg g]at h;cases h
theorem pick_some {w:Mx} {k:Nat}:∀{m i j:Nat},pickF w k m i=some j→i≤j∧j<i+m∧w j k≠0
 |0,i,j,h=>by cases h
 |m+1,i,j,h=>by
  rw[pickF]at h
  by_cases g:w i k=0
  ·rw[if_pos g]at h
   have:=pick_some h
   exact⟨by omega,by omega,this.2.2⟩
  ·rw[if_neg g]at h
   obtain rfl:=Option.some.inj h
   exact⟨Nat.le_refl _,by omega,g⟩
def clearM (w:Mx) (top k:Nat):Mx:=fun a q=>if a=top then w top q/w top k else w a q - w a k*(w top q/w top k)
structure St where
 w:Mx
 piv:List Nat
 d:Rat
def colStep (r:Nat) (s:St) (k:Nat):St:=
 match pickF s.w k (r - s.piv.length) s.piv.length with
 |none=>s
 |some i=>⟨clearM (swapRow s.w i s.piv.length) s.piv.length k,s.piv++[k],(if i=s.piv.length then s.d else - s.d)*swapRow s.w i s.piv.length s.piv.length k⟩
def redF (r c:Nat) (s:St):St:=(List.range c).foldl (colStep r) s
theorem redF_succ (r c:Nat) (s:St):redF r (c+1) s=colStep r (redF r c s) c:=by
 rw[redF,List.range_succ,List.foldl_append];rfl
theorem Alt.addall {n:Nat} {F:Mx→Rat} (hF:Alt n F) (A:Mx) {t:Nat} (ht:t<n) (c:Nat→Rat):F (fun a q=>if a=t then A t q else A a q+c a*A t q)=F A:=by
 have h:∀m,m≤n→F (fun a q=>if a=t then A t q else if a<m then A a q+c a*A t q else A a q)=F A:=by
  intro m
  induction m with
  |zero=>
   intro _
   refine hF.congr _ _ fun a q _ _=> ?_
   by_cases e:a=t
   ·rw[if_pos e,e]
   ·rw[if_neg e,if_neg (by omega)]
  |succ m ih=>
   intro hm
   rw[←ih (by omega)]
   by_cases e:m=t
   ·refine hF.congr _ _ fun a q _ _=> ?_
    by_cases g:a=t
    ·rw[if_pos g,if_pos g]
    ·rw[if_neg g,if_neg g]
     by_cases g2:a<m
     ·rw[if_pos g2,if_pos (by omega)]
     ·rw[if_neg g2,if_neg (by omega)]
   ·rw[←hF.addrow (i:=m) (j:=t) (fun a q=>if a=t then A t q else if a<m then A a q+c a*A t q else A a q) (c m) (by omega) ht e]
    refine hF.congr _ _ fun a q _ _=> ?_
    by_cases g:a=m
    ·subst g
     rw[setRow_at,if_neg e,if_pos (by omega),if_neg e,if_neg (by omega),if_pos rfl]
    ·rw[setRow_ne _ _ g]
     by_cases g1:a=t
     ·rw[if_pos g1,if_pos g1]
     ·rw[if_neg g1,if_neg g1]
      by_cases g2:a<m
      ·rw[if_pos g2,if_pos (by omega)]
      ·rw[if_neg g2,if_neg (by omega)]
 rw[←h n (Nat.le_refl _)]
 refine hF.congr _ _ fun a q ha _=> ?_
 by_cases e:a=t
 ·rw[if_pos e,if_pos e]
 ·rw[if_neg e,if_neg e,if_pos ha]
structure Inv (r:Nat) (W:Mx) (k:Nat) (s:St):Prop where
 len:s.piv.length≤r
 lt:∀j,j<s.piv.length→s.piv.getD j 0<k
 inc:∀i j,i<j→j<s.piv.length→s.piv.getD i 0<s.piv.getD j 0
 unit:∀j,j<s.piv.length→∀i,i<r→s.w i (s.piv.getD j 0)=if i=j then 1 else 0
 left:∀i,i<s.piv.length→∀q,q<s.piv.getD i 0→s.w i q=0
 low:∀i,s.piv.length≤i→i<r→∀q,q<k→s.w i q=0
 by_:∃P,det r P*s.d=1∧∀i,i<r→∀q,s.w i q=pr r P W i q
theorem Inv.start (r:Nat) (W:Mx):Inv r W 0 ⟨W,[],1⟩ where
 len:=Nat.zero_le _
 lt:=fun j h=>by simp at h
 inc:=fun i j _ h=>by simp at h
 unit:=fun j h=>by simp at h
 left:=fun j h=>by simp at h
 low:=fun i _ _ q h=>by omega
 by_:=⟨delta,by rw[det_one];grind,fun i hi q=>by rw[pr,sum_deltaL,if_pos hi]⟩
theorem getD_snocN {l:List Nat} {a j:Nat} (h:j<l.length):(l++[a]).getD j 0=l.getD j 0:=by
 rw[List.getD_eq_getElem?_getD,List.getD_eq_getElem?_getD,List.getElem?_append_left h]
theorem getD_last {l:List Nat} {a:Nat}:(l++[a]).getD l.length 0=a:=by simp[List.getD_eq_getElem?_getD]
theorem swapRow_lt {w:Mx} {i t a:Nat} (h:a<t) (hi:t≤i):swapRow w i t a=w a:=by
 unfold swapRow;rw[if_neg (by omega),if_neg (by omega)]
theorem swapRow_ge {w:Mx} {i t a r:Nat} (hi:t≤i) (hir:i<r) (h:t≤a) (har:a<r):∃b,t≤b∧b<r∧swapRow w i t a=w b:=by
 unfold swapRow
 by_cases h1:a=i
 ·rw[if_pos h1];exact⟨t,Nat.le_refl _,by omega,rfl⟩
 ·rw[if_neg h1]
  by_cases h2:a=t
  ·rw[if_pos h2];exact⟨i,hi,hir,rfl⟩
  ·rw[if_neg h2];exact⟨a,h,har,rfl⟩
theorem swapRow_t {w:Mx} {i t:Nat}:swapRow w i t t=w i:=by
 unfold swapRow
 by_cases h:t=i
 ·rw[if_pos h,h]
 ·rw[if_neg h,if_pos rfl]
theorem pr_swap (r:Nat) (P W:Mx) (i t a q:Nat):pr r (swapRow P i t) W a q=swapRow (pr r P W) i t a q:=by
 show(sumR r fun p=>(if a=i then P t else if a=t then P i else P a) p*W p q)=(if a=i then pr r P W t else if a=t then pr r P W i else pr r P W a) q
 by_cases h:a=i
 ·rw[if_pos h,if_pos h];rfl
 ·rw[if_neg h,if_neg h]
  by_cases h2:a=t
  ·rw[if_pos h2,if_pos h2];rfl
  ·rw[if_neg h2,if_neg h2];rfl
theorem Inv.step {r:Nat} {W:Mx} {k:Nat} {s:St} (h:Inv r W k s):Inv r W (k+1) (colStep r s k):=by
 unfold colStep
 cases hp:pickF s.w k (r - s.piv.length) s.piv.length with
 |none=>
  have hz:=pick_none hp
  have:=h.len
  show Inv r W (k+1) s
  exact {h with
   lt:=fun j hj=>by have:=h.lt j hj;omega
   low:=fun i h1 h2 q hq=>by
    by_cases e:q=k
    ·rw[e];exact hz i h1 (by omega)
    ·exact h.low i h1 h2 q (by omega)}
 |some i=>
  obtain⟨g1,g2,g3⟩:=pick_some hp
  dsimp only
  have hl:=h.len
  have hir:i<r:=by omega
  have ht:s.piv.length<r:=by omega
  have hdef:s.piv.length=s.piv.length:=rfl
  revert g1 g2 ht hl
  generalize ht':s.piv.length=t
  intro g1 g2 hl ht
  have hp0:swapRow s.w i t t k≠0:=by rw[swapRow_t];exact g3
  have hz:∀a,t≤a→a<r→∀q,q<k→swapRow s.w i t a q=0:=fun a h1 h2 q hq=>by
   obtain⟨b,b1,b2,e⟩:=swapRow_ge (w:=s.w) g1 hir h1 h2
   rw[e];exact h.low b (by omega) b2 q hq
  have hu:∀j,j<t→∀a,a<r→swapRow s.w i t a (s.piv.getD j 0)=if a=j then 1 else 0:=fun j hj a ha=>by
   by_cases hat:a<t
   ·rw[swapRow_lt hat g1];exact h.unit j (by omega) a ha
   ·rw[hz a (by omega) ha _ (h.lt j (by omega)),if_neg (by omega)]
  have hc:∀a,a<t→∀q,q<k→clearM (swapRow s.w i t) t k a q=s.w a q:=fun a ha q hq=>by
   unfold clearM
   rw[if_neg (by omega),hz t (Nat.le_refl _) ht q hq,swapRow_lt ha g1];grind
  have hlen:(s.piv++[k]).length=t+1:=by rw[List.length_append,ht'];rfl
  refine {len:=by simp only[hlen];omega,lt:= ?_,inc:= ?_,unit:= ?_,left:= ?_,low:= ?_,by_:= ?_}
  ·intro j hj
   simp only[hlen]at hj
   show(s.piv++[k]).getD j 0<k+1
   by_cases e:j<t
   ·rw[getD_snocN (by omega)];have:=h.lt j (by omega);omega
   ·obtain rfl:j=t:=by omega
    rw[←ht',getD_last];omega
  ·intro a b hab hb
   simp only[hlen]at hb
   show(s.piv++[k]).getD a 0<(s.piv++[k]).getD b 0
   by_cases e:b<t
   ·rw[getD_snocN (by omega),getD_snocN (by omega)];exact h.inc a b hab (by omega)
   ·obtain rfl:b=t:=by omega
    rw[getD_snocN (by omega)]
    rw[show(s.piv++[k]).getD b 0=k from by rw[←ht',getD_last]]
    exact h.lt a (by omega)
  ·intro j hj a ha
   simp only[hlen]at hj
   show clearM (swapRow s.w i t) t k a ((s.piv++[k]).getD j 0)=_
   by_cases e:j<t
   ·rw[getD_snocN (by omega)]
    unfold clearM
    rw[hu j e t ht,hu j e a ha,if_neg (show ¬t=j by omega)]
    by_cases g:a=t
    ·rw[if_pos g,if_neg (by omega),Rat.div_def];grind
    ·rw[if_neg g,Rat.div_def];split<;>grind
   ·obtain rfl:j=t:=by omega
    rw[show(s.piv++[k]).getD j 0=k from by rw[←ht',getD_last]]
    unfold clearM
    by_cases g:a=j
    ·rw[if_pos g,if_pos g,Rat.div_def,Rat.mul_inv_cancel _ hp0]
    ·rw[if_neg g,if_neg g,Rat.div_def,Rat.mul_inv_cancel _ hp0];grind
  ·intro a ha q hq
   simp only[hlen]at ha
   change q<(s.piv++[k]).getD a 0 at hq
   show clearM (swapRow s.w i t) t k a q=0
   by_cases e:a<t
   ·rw[getD_snocN (by omega)]at hq
    have:=h.lt a (by omega)
    rw[hc a e q (by omega)]
    exact h.left a (by omega) q hq
   ·obtain rfl:a=t:=by omega
    rw[show(s.piv++[k]).getD a 0=k from by rw[←ht',getD_last]]at hq
    unfold clearM
    rw[if_pos rfl,hz a (Nat.le_refl _) ht q hq,Rat.div_def];grind
  ·intro a h1 h2 q hq
   simp only[hlen]at h1
   show clearM (swapRow s.w i t) t k a q=0
   unfold clearM
   rw[if_neg (by omega)]
   by_cases e:q=k
   ·rw[e,Rat.div_def,Rat.mul_inv_cancel _ hp0];grind
   ·rw[hz a (by omega) h2 q (by omega),hz t (Nat.le_refl _) ht q (by omega),Rat.div_def];grind
  ·obtain⟨P,hP1,hP2⟩:=h.by_
   have hsw:∀a,a<r→∀q,swapRow s.w i t a q=pr r (swapRow P i t) W a q:=fun a ha q=>by
    rw[pr_swap];unfold swapRow
    by_cases e1:a=i
    ·rw[if_pos e1,if_pos e1];exact hP2 t ht q
    ·rw[if_neg e1,if_neg e1]
     by_cases e2:a=t
     ·rw[if_pos e2,if_pos e2];exact hP2 i hir q
     ·rw[if_neg e2,if_neg e2];exact hP2 a ha q
   have hsd:det r (swapRow P i t)*(if i=t then s.d else - s.d)=1:=by
    by_cases e:i=t
    ·subst e
     rw[if_pos rfl,show swapRow P i i=P from by
      funext a;unfold swapRow
      by_cases e1:a=i
      ·rw[if_pos e1,e1]
      ·rw[if_neg e1,if_neg e1],hP1]
    ·rw[if_neg e,(det_Alt r).swap P hir ht e];grind
   generalize swapRow s.w i t=w1 at*
   generalize swapRow P i t=Q at*
   have hinv:=Rat.mul_inv_cancel _ hp0
   refine⟨fun a q=>if a=t then(w1 t k)⁻¹*Q t q else Q a q+(- w1 a k*(w1 t k)⁻¹)*Q t q, ?_, ?_⟩
   ·have e1:=(det_Alt r).addall (setRow Q t fun q=>(w1 t k)⁻¹*Q t q) ht fun a=> - w1 a k
    rw[(det_Alt r).smul Q _ _ ht,show setRow Q t (fun q=>Q t q)=Q from setRow_self Q t]at e1
    rw[det_congr (B:=fun a q=>if a=t then setRow Q t (fun q=>(w1 t k)⁻¹*Q t q) t q else setRow Q t (fun q=>(w1 t k)⁻¹*Q t q) a q+ - w1 a k*setRow Q t (fun q=>(w1 t k)⁻¹*Q t q) t q) fun a q _ _=>by
     rw[setRow_at]
     by_cases e:a=t
     ·rw[if_pos e,if_pos e]
     ·rw[if_neg e,if_neg e,setRow_ne _ _ e];grind,e1]
    show(w1 t k)⁻¹*det r Q*((if i=t then s.d else - s.d)*w1 t k)=1
    grind
   ·intro a ha q
    show clearM w1 t k a q=_
    unfold clearM pr
    by_cases e:a=t
    ·rw[if_pos e,hsw t ht q,Rat.div_def,pr,sum_congr r (f:=fun p=>(if a=t then(w1 t k)⁻¹*Q t p else Q a p+(- w1 a k*(w1 t k)⁻¹)*Q t p)*W p q) (g:=fun p=>(w1 t k)⁻¹*(Q t p*W p q)) fun p _=>by rw[if_pos e];grind,←sum_mulL];grind
    ·rw[if_neg e,hsw t ht q,hsw a ha q,Rat.div_def,pr,sum_congr r (f:=fun p=>(if a=t then(w1 t k)⁻¹*Q t p else Q a p+(- w1 a k*(w1 t k)⁻¹)*Q t p)*W p q) (g:=fun p=>Q a p*W p q+(- w1 a k*(w1 t k)⁻¹)*(Q t p*W p q)) fun p _=>by rw[if_neg e];grind,sum_add,←sum_mulL]
     unfold pr;grind
theorem Inv.red {r:Nat} {W:Mx}:∀c,Inv r W c (redF r c ⟨W,[],1⟩)
 |0=>Inv.start r W
 |c+1=>by rw[redF_succ];exact(Inv.red c).step
end Go.Proofs.YtfjhnollamkdcaaGreatDoor
namespace Go.Proofs.YtfjhnollamkdcaaGreatDoor
open Go.Sx
set_option linter.unusedSimpArgs false
set_option linter.unusedVariables false
set_option maxRecDepth 100000
set_option maxHeartbeats 4000000
structure RE (r c:Nat) (w:Mx) (piv:List Nat):Prop where
 len:piv.length≤r
 lt:∀j,j<piv.length→piv.getD j 0<c
 inc:∀i j,i<j→j<piv.length→piv.getD i 0<piv.getD j 0
 unit:∀j,j<piv.length→∀i,i<r→w i (piv.getD j 0)=if i=j then 1 else 0
 left:∀i,i<piv.length→∀q,q<piv.getD i 0→w i q=0
 low:∀i,piv.length≤i→i<r→∀q,q<c→w i q=0
theorem Inv.re {r c:Nat} {W:Mx} {s:St} (h:Inv r W c s):RE r c s.w s.piv:=⟨h.len,h.lt,h.inc,h.unit,h.left,h.low⟩
def Ker (r c:Nat) (w:Mx) (x:Nat→Rat):Prop:=∀i,i<r→sumR c (fun q=>w i q*x q)=0
theorem prd_ker {r c:Nat} {P W w:Mx} (hP:det r P≠0) (hw:∀i,i<r→∀q,w i q=pr r P W i q) (x:Nat→Rat):Ker r c w x↔Ker r c W x:=by
 have e:∀i,i<r→sumR c (fun q=>w i q*x q)=sumR r fun p=>P i p*sumR c fun q=>W p q*x q:=fun i hi=>by
  rw[sum_congr c (g:=fun q=>sumR r fun p=>P i p*(W p q*x q)) fun q _=>by rw[hw i hi,pr,sum_mulR];exact sum_congr r fun p _=>by grind,sum_swap]
  exact sum_congr r fun p _=>(sum_mulL _ _).symm
 constructor
 ·intro h i hi
  have h1:sumR r (fun j=>adj r P i j*sumR c fun q=>w j q*x q)=0:=sum_zeros fun j hj=>by rw[h j hj];grind
  rw[sum_congr r (g:=fun j=>sumR r fun p=>adj r P i j*P j p*sumR c fun q=>W p q*x q) fun j hj=>by rw[e j hj,sum_mulL];exact sum_congr r fun p _=>by grind,sum_swap]at h1
  rw[sum_congr r (g:=fun p=>det r P*(delta i p*sumR c fun q=>W p q*x q)) fun p hp=>by
   rw[←sum_mulR]
   have:=adj_mul P hi hp
   unfold pr at this
   rw[this,delta];split<;>grind,←sum_mulL,sum_deltaL,if_pos hi]at h1
  rcases Rat.mul_eq_zero.1 h1 with g|g
  ·exact absurd g hP
  ·exact g
 ·intro h i hi
  rw[e i hi];exact sum_zeros fun p hp=>by rw[h p hp];grind
theorem det_ne {a b:Rat} (h:a*b=1):a≠0:=by intro g;rw[g]at h;grind
theorem Inv.ker {r c k:Nat} {W:Mx} {s:St} (h:Inv r W k s) (x:Nat→Rat):Ker r c s.w x↔Ker r c W x:=by
 obtain⟨P,h1,h2⟩:=h.by_
 exact prd_ker (det_ne h1) h2 x
section
variable {r c:Nat} {w:Mx} {piv:List Nat}
theorem piv_inj (h:RE r c w piv) {i j:Nat} (hi:i<piv.length) (hj:j<piv.length) (e:piv.getD i 0=piv.getD j 0):i=j:=by
 rcases Nat.lt_trichotomy i j with g|g|g
 ·have:=h.inc i j g hj;omega
 ·exact g
 ·have:=h.inc j i g hi;omega
theorem mem_getDN {l:List Nat} {q:Nat}:q∈l↔∃j,j<l.length∧l.getD j 0=q:=by
 constructor
 ·intro h
  obtain⟨j,hj,e⟩:=List.getElem_of_mem h
  exact⟨j,hj,by rw[List.getD_eq_getElem?_getD,List.getElem?_eq_getElem hj];exact e⟩
 ·rintro⟨j,hj,rfl⟩
  rw[List.getD_eq_getElem?_getD,List.getElem?_eq_getElem hj];exact List.getElem_mem hj
def kv (w:Mx) (piv:List Nat) (k q:Nat):Rat:=delta q k - sumR piv.length fun j=>delta q (piv.getD j 0)*w j k
theorem sum_kv (h:RE r c w piv) (u:Mx) {k:Nat} (hk:k<c) (i:Nat):sumR c (fun q=>u i q*kv w piv k q)=u i k - sumR piv.length fun j=>u i (piv.getD j 0)*w j k:=by
 rw[sum_congr c (g:=fun q=>u i q*delta q k+(-1)*sumR piv.length fun j=>u i q*delta q (piv.getD j 0)*w j k) fun q _=>by
  unfold kv;rw[sum_congr piv.length (f:=fun j=>u i q*delta q (piv.getD j 0)*w j k) (g:=fun j=>u i q*(delta q (piv.getD j 0)*w j k)) fun j _=>by grind,←sum_mulL];grind]
 rw[sum_add,sum_deltaR,if_pos hk,←sum_mulL,sum_swap,sum_congr piv.length (f:=fun j=>sumR c fun q=>u i q*delta q (piv.getD j 0)*w j k) (g:=fun j=>u i (piv.getD j 0)*w j k) fun j hj=>by
  rw[←sum_mulR,sum_deltaR,if_pos (h.lt j hj)]]
 grind
theorem kv_ker (h:RE r c w piv) {k:Nat} (hk:k<c):Ker r c w (kv w piv k):=by
 intro i hi
 rw[sum_kv h w hk]
 rw[sum_congr piv.length (g:=fun j=>delta i j*w j k) fun j hj=>by rw[h.unit j hj i hi,delta],sum_deltaL]
 by_cases g:i<piv.length
 ·rw[if_pos g];grind
 ·rw[if_neg g,h.low i (by omega) hi k hk];grind
theorem kv_self (h:RE r c w piv) {k:Nat} (hn:k∉piv):kv w piv k k=1:=by
 unfold kv
 rw[sum_zeros fun j hj=>by rw[delta,if_neg fun e=>hn (mem_getDN.2 ⟨j,hj,e.symm⟩)];grind,delta,if_pos rfl];grind
theorem kv_other {k q:Nat} (hq:q∉piv) (hne:q≠k):kv w piv k q=0:=by
 unfold kv
 rw[sum_zeros fun j hj=>by rw[delta,if_neg fun e=>hq (mem_getDN.2 ⟨j,hj,e.symm⟩)];grind,delta,if_neg hne];grind
theorem kv_piv (h:RE r c w piv) {k j:Nat} (hn:k∉piv) (hj:j<piv.length):kv w piv k (piv.getD j 0)= - w j k:=by
 unfold kv
 rw[sum_one (j:=j) piv.length hj fun i hi hne=>by rw[delta,if_neg fun e=>hne (piv_inj h hi hj e.symm)];grind,delta,if_neg fun e=>hn (mem_getDN.2 ⟨j,hj,e⟩),delta,if_pos rfl];grind
theorem kv_after (h:RE r c w piv) {k q:Nat} (hn:k∉piv) (hq:k<q):kv w piv k q=0:=by
 by_cases g:q∈piv
 ·obtain⟨j,hj,rfl⟩:=mem_getDN.1 g
  rw[kv_piv h hn hj,h.left j hj k hq];grind
 ·exact kv_other g (by omega)
theorem piv_iff (h:RE r c w piv) {k:Nat} (hk:k<c):k∉piv↔∃x,Ker r c w x∧x k≠0∧∀q,k<q→q<c→x q=0:=by
 constructor
 ·intro hn
  exact⟨kv w piv k,kv_ker h hk,by rw[kv_self h hn];decide,fun q h1 _=>kv_after h hn h1⟩
 ·rintro⟨x,h1,h2,h3⟩ hm
  obtain⟨j,hj,rfl⟩:=mem_getDN.1 hm
  have:=h1 j (by have:=h.len;omega)
  rw[sum_one (j:=piv.getD j 0) c hk fun q hq hne=>by
   rcases Nat.lt_or_gt_of_ne hne with g|g
   ·rw[h.left j hj q g];grind
   ·rw[h3 q g hq];grind,h.unit j hj j (by have:=h.len;omega),if_pos rfl]at this
  exact h2 (by grind)
end
theorem inc_ext:∀{l m:List Nat},(∀i j,i<j→j<l.length→l.getD i 0<l.getD j 0)→(∀i j,i<j→j<m.length→m.getD i 0<m.getD j 0)→(∀k,k∈l↔k∈m)→l=m
 |[],[],_,_,_=>rfl
 |[],b::m,_,_,h=>by have:=(h b).2 (List.mem_cons_self ..);cases this
 |a::l,[],_,_,h=>by have:=(h a).1 (List.mem_cons_self ..);cases this
 |a::l,b::m,h1,h2,h=>by
  have gl:∀x,x∈l→a<x:=fun x hx=>by
   obtain⟨j,hj,rfl⟩:=mem_getDN.1 hx
   exact h1 0 (j+1) (by omega) (by simp;omega)
  have gm:∀x,x∈m→b<x:=fun x hx=>by
   obtain⟨j,hj,rfl⟩:=mem_getDN.1 hx
   exact h2 0 (j+1) (by omega) (by simp;omega)
  have hab:a=b:=by
   rcases List.mem_cons.1 ((h a).1 (List.mem_cons_self ..))with e|e
   ·exact e
   ·rcases List.mem_cons.1 ((h b).2 (List.mem_cons_self ..))with f|f
    ·exact f.symm
    ·have:=gl b f;have:=gm a e;omega
  subst hab
  rw[inc_ext (l:=l) (m:=m) (fun i j hij hj=>h1 (i+1) (j+1) (by omega) (by simp;omega)) (fun i j hij hj=>h2 (i+1) (j+1) (by omega) (by simp;omega)) fun k=>by
   constructor
   ·intro hk
    rcases List.mem_cons.1 ((h k).1 (List.mem_cons_of_mem _ hk))with e|e
    ·have:=gl k hk;omega
    ·exact e
   ·intro hk
    rcases List.mem_cons.1 ((h k).2 (List.mem_cons_of_mem _ hk))with e|e
    ·have:=gm k hk;omega
    ·exact e]
theorem RE.unique {r c:Nat} {w w':Mx} {piv piv':List Nat} (h:RE r c w piv) (h':RE r c w' piv') (hk:∀x,Ker r c w x↔Ker r c w' x):piv=piv'∧∀i q,i<r→q<c→w i q=w' i q:=by
 have e:piv=piv':=by
  refine inc_ext h.inc h'.inc fun k=> ?_
  have hlt:k<c→(k∈piv↔k∈piv'):=fun hc=>by
   have a:=piv_iff h hc;have b:=piv_iff h' hc
   constructor
   ·intro hm;refine Classical.byContradiction fun g=> ?_
    obtain⟨x,h1,h2⟩:=b.1 g
    exact a.2 ⟨x,(hk x).2 h1,h2⟩ hm
   ·intro hm;refine Classical.byContradiction fun g=> ?_
    obtain⟨x,h1,h2⟩:=a.1 g
    exact b.2 ⟨x,(hk x).1 h1,h2⟩ hm
  constructor
  ·intro hm
   obtain⟨j,hj,e⟩:=mem_getDN.1 hm
   exact(hlt (by rw[←e];exact h.lt j hj)).1 hm
  ·intro hm
   obtain⟨j,hj,e⟩:=mem_getDN.1 hm
   exact(hlt (by rw[←e];exact h'.lt j hj)).2 hm
 subst e
 refine⟨rfl,fun i q hi hq=> ?_⟩
 by_cases g:q∈piv
 ·obtain⟨j,hj,rfl⟩:=mem_getDN.1 g
  rw[h.unit j hj i hi,h'.unit j hj i hi]
 ·by_cases hp:i<piv.length
  ·have h1:=(hk _).1 (kv_ker h hq) i hi
   rw[sum_kv h w' hq,sum_congr piv.length (g:=fun j=>delta i j*w j q) fun j hj=>by rw[h'.unit j hj i hi,delta],sum_deltaL,if_pos hp]at h1
   grind
  ·rw[h.low i (by omega) hi q hq,h'.low i (by omega) hi q hq]
theorem RE.full {r c:Nat} {w:Mx} {piv:List Nat} (h:RE r c w piv) (hc:piv.length=c):∀j,j<c→piv.getD j 0=j:=by
 have h1:∀j,j<c→j≤piv.getD j 0:=by
  intro j
  induction j with
  |zero=>intro _;exact Nat.zero_le _
  |succ j ih=>intro hj;have:=ih (by omega);have:=h.inc j (j+1) (by omega) (by omega);omega
 have h2:∀d j,j+d+1=c→piv.getD j 0≤j:=by
  intro d
  induction d with
  |zero=>intro j hj;have:=h.lt j (by omega);omega
  |succ d ih=>intro j hj;have:=ih (j+1) (by omega);have:=h.inc j (j+1) (by omega) (by omega);omega
 intro j hj
 have:=h1 j hj;have:=h2 (c - j - 1) j (by omega);omega
theorem RE.le {r c:Nat} {w:Mx} {piv:List Nat} (h:RE r c w piv):piv.length≤c:=by
 have h1:∀j,j<piv.length→j≤piv.getD j 0:=by
  intro j
  induction j with
  |zero=>intro _;exact Nat.zero_le _
  |succ j ih=>intro hj;have:=ih (by omega);have:=h.inc j (j+1) (by omega) hj;omega
 rcases Nat.eq_zero_or_pos piv.length with e|e
 ·omega
 ·have:=h1 (piv.length - 1) (by omega);have:=h.lt (piv.length - 1) (by omega);omega
theorem det_congr_rows {n:Nat} {A B:Mx} (h:∀i,i<n→∀k,A i k=B i k):det n A=det n B:=det_congr fun i k hi _=>h i hi k
theorem red_det (n:Nat) (W:Mx):(if (redF n n ⟨W,[],1⟩).piv.length<n then 0 else(redF n n ⟨W,[],1⟩).d)=det n W:=by
 have h:=Inv.red (r:=n) (W:=W) n
 generalize redF n n ⟨W,[],1⟩=s at*
 obtain⟨P,h1,h2⟩:=h.by_
 have h3:det n s.w=det n P*det n W:=by rw[det_congr_rows h2,det_mul]
 by_cases g:s.piv.length<n
 ·rw[if_pos g]
  have h4:det n s.w=0:=by
   rw[(det_Alt n).congr s.w (setRow s.w s.piv.length fun _=>0) fun i q hi hq=>by
    by_cases e:i=s.piv.length
    ·rw[e,setRow_at];exact h.low _ (Nat.le_refl _) g q hq
    ·rw[setRow_ne _ _ e],(det_Alt n).zero _ g]
  rw[h4]at h3
  rcases Rat.mul_eq_zero.1 h3.symm with e|e
  ·exact absurd e (det_ne h1)
  ·exact e.symm
 ·rw[if_neg g]
  have hl:=h.len
  have hf:=h.re.full (by omega)
  have h4:det n s.w=1:=by
   rw[det_congr (B:=delta) fun i q hi hq=>by
    have:=h.unit q (by omega) i hi
    rw[hf q hq]at this;rw[this,delta],det_one]
  rw[h4]at h3
  grind
def rnk (r c:Nat) (W:Mx):Nat:=(redF r c ⟨W,[],1⟩).piv.length
theorem rnk_le_r (r c:Nat) (W:Mx):rnk r c W≤r:=(Inv.red (r:=r) (W:=W) c).len
end Go.Proofs.YtfjhnollamkdcaaGreatDoor
namespace Go.Proofs.YtfjhnollamkdcaaGreatDoor
open Go.Sx
set_option linter.unusedSimpArgs false
set_option linter.unusedVariables false
set_option maxRecDepth 100000
set_option maxHeartbeats 4000000
def kvS (M:Nat→List Rat) (sp:List Nat) (m k:Nat):Nat→List Rat
 |0=>(List.replicate m 0).set k 1
 |i+1=>(kvS M sp m k i).set (sp.getD i 0) (- (M i).getD k 0)
theorem kvS_len (M:Nat→List Rat) (sp:List Nat) (m k:Nat):∀i,(kvS M sp m k i).length=m
 |0=>by simp[kvS]
 |i+1=>by rw[kvS,List.length_set,kvS_len M sp m k i]
def kvL (M:Nat→List Rat) (sp:List Nat) (m:Nat) (k:Nat):List Rat:=kvS M sp m k sp.length
def freeF (sp:List Nat) (k:Nat):List Nat:=(List.range k).filter fun q=>decide (q∉sp)
theorem freeF_succ (sp:List Nat) (k:Nat):freeF sp (k+1)=freeF sp k++if k∈sp then[]else[k]:=by
 unfold freeF
 rw[List.range_succ,List.filter_append]
 by_cases h:k∈sp
 ·rw[if_pos h];simp[h]
 ·rw[if_neg h];simp[h]
theorem kvS_get {r c m k:Nat} {w:Mx} {sp:List Nat} {M:Nat→List Rat} (h:RE r c w sp) (hk:k<m) (hn:k∉sp) (hm:c≤m) (hM:∀j,j<sp.length→(M j).getD k 0=w j k):
  ∀i,i≤sp.length→∀q,q<m→(kvS M sp m k i).getD q 0=delta q k - sumR i fun j=>delta q (sp.getD j 0)*w j k
 |0,_,q,hq=>by
  rw[kvS,sumR]
  by_cases e:q=k
  ·subst e;simp[List.getD_eq_getElem?_getD,delta,hq];grind
  ·simp[List.getD_eq_getElem?_getD,delta,e,List.getElem?_set_ne (Ne.symm e),hq];grind
 |i+1,hi,q,hq=>by
  rw[kvS,sumR]
  have ih:=kvS_get h hk hn hm hM i (by omega) q hq
  by_cases e:sp.getD i 0=q
  ·have hz:sumR i (fun j=>delta q (sp.getD j 0)*w j k)=0:=sum_zeros fun j hj=>by
    rw[delta,if_neg fun g=>by have:=piv_inj h (i:=j) (j:=i) (by omega) (by omega) (by rw[←g,e]);omega];grind
   have hqk:q≠k:=fun g=>hn (mem_getDN.2 ⟨i,by omega,by rw[e,g]⟩)
   rw[hz,←e,List.getD_eq_getElem?_getD,List.getElem?_set_self (by rw[kvS_len,e];exact hq),e,hM i (by omega),delta,if_neg hqk,delta,if_pos rfl]
   simp only[Option.getD_some];grind
  ·rw[List.getD_eq_getElem?_getD,List.getElem?_set_ne e,←List.getD_eq_getElem?_getD,ih,show delta q (sp.getD i 0)=0 from if_neg (Ne.symm e)];grind
theorem kvL_get {r c m k:Nat} {w:Mx} {sp:List Nat} {M:Nat→List Rat} (h:RE r c w sp) (hk:k<m) (hn:k∉sp) (hm:c≤m) (hM:∀j,j<sp.length→(M j).getD k 0=w j k) {q:Nat} (hq:q<m):
  (kvL M sp m k).getD q 0=kv w sp k q:=kvS_get h hk hn hm hM _ (Nat.le_refl _) q hq
theorem mem_free {sp:List Nat} {k q:Nat}:q∈freeF sp k↔q<k∧q∉sp:=by simp[freeF]
theorem inc_nodup:∀{l:List Nat},(∀i j,i<j→j<l.length→l.getD i 0<l.getD j 0)→l.Nodup
 |[],_=>List.nodup_nil
 |a::l,h=>by
  refine List.nodup_cons.2 ⟨fun hm=> ?_,inc_nodup fun i j hij hj=>by simpa using h (i+1) (j+1) (by omega) (by simpa using hj)⟩
  obtain⟨j,hj,e⟩:=mem_getDN.1 hm
  have:=h 0 (j+1) (by omega) (by simpa using hj)
  simp only[List.getD_cons_zero,List.getD_cons_succ]at this
  omega
theorem count_one {k:Nat}:∀{l:List Nat},l.Nodup→k∈l→l.count k=1
 |a::l,hn,h=>by
  rw[List.count_cons]
  have hn:=List.nodup_cons.1 hn
  rcases List.mem_cons.1 h with e|e
  ·subst e;rw[List.count_eq_zero.2 hn.1];simp
  ·have g:a≠k:=fun g=>hn.1 (g▸e)
   rw[count_one hn.2 e];simp[g]
theorem free_len {sp:List Nat} (hn:sp.Nodup):∀k,(freeF sp k).length+sp.countP (fun q=>decide (q<k))=k
 |0=>by simp[freeF]
 |k+1=>by
  have ih:=free_len hn k
  rw[freeF_succ,List.length_append]
  have e:sp.countP (fun q=>decide (q<k+1))=sp.countP (fun q=>decide (q<k))+sp.count k:=by
   clear ih hn
   induction sp with
   |nil=>rfl
   |cons a l ih=>
    simp only[List.countP_cons,List.count_cons,ih,decide_eq_true_eq,beq_iff_eq]
    by_cases g:a=k
    ·subst g;simp;omega
    ·by_cases g2:a<k
     ·rw[if_pos (by omega),if_pos g2,if_neg g];omega
     ·rw[if_neg (by omega),if_neg g2,if_neg g];omega
  by_cases h:k∈sp
  ·rw[if_pos h,e,count_one hn h];simp;omega
  ·rw[if_neg h,e,List.count_eq_zero.2 h];simp;omega
theorem RE.nodup {r c:Nat} {w:Mx} {sp:List Nat} (h:RE r c w sp):sp.Nodup:=inc_nodup h.inc
theorem RE.free {r c:Nat} {w:Mx} {sp:List Nat} (h:RE r c w sp):(freeF sp c).length+sp.length=c:=by
 have:=free_len h.nodup c
 rwa [List.countP_eq_length.2 fun q hq=>by
  obtain⟨j,hj,rfl⟩:=mem_getDN.1 hq
  exact decide_eq_true (h.lt j hj)]at this
theorem ker_congr {r c:Nat} {W V:Mx} (h:∀i q,i<r→q<c→W i q=V i q) (x:Nat→Rat):Ker r c W x↔Ker r c V x:=by
 have e:∀i,i<r→sumR c (fun q=>W i q*x q)=sumR c (fun q=>V i q*x q):=fun i hi=>sum_congr c fun q hq=>by rw[h i q hi hq]
 exact⟨fun g i hi=>by rw[←e i hi];exact g i hi,fun g i hi=>by rw[e i hi];exact g i hi⟩
theorem ker_free {r c:Nat} {w:Mx} {sp:List Nat} (h:RE r c w sp) {z:Nat→Rat} (hz:Ker r c w z) (hf:∀q,q<c→q∉sp→z q=0):∀q,q<c→z q=0:=by
 intro q hq
 by_cases g:q∈sp
 ·obtain⟨j,hj,rfl⟩:=mem_getDN.1 g
  have hjr:j<r:=Nat.lt_of_lt_of_le hj h.len
  have:=hz j hjr
  rw[sum_one (j:=sp.getD j 0) c hq fun q' hq' hne=>by
   by_cases g':q'∈sp
   ·obtain⟨i,hi,rfl⟩:=mem_getDN.1 g'
    rw[h.unit i hi j hjr,if_neg fun e=>hne (by rw[e])];grind
   ·rw[hf q' hq' g'];grind,h.unit j hj j hjr,if_pos rfl]at this
  grind
 ·exact hf q hq g
theorem full_det (n:Nat) (W:Mx):(redF n n ⟨W,[],1⟩).piv.length=n↔det n W≠0:=by
 have h:=red_det n W
 have hi:=Inv.red (r:=n) (W:=W) n
 obtain⟨P,h1,_⟩:=hi.by_
 have hd:(redF n n ⟨W,[],1⟩).d≠0:=det_ne (show(redF n n ⟨W,[],1⟩).d*det n P=1 by rw[Rat.mul_comm];exact h1)
 have hl:=hi.len
 by_cases g:(redF n n ⟨W,[],1⟩).piv.length<n
 ·rw[if_pos g]at h
  exact⟨fun e=>by omega,fun e=>absurd h.symm e⟩
 ·rw[if_neg g]at h
  exact⟨fun _=>by rw[←h];exact hd,fun _=>by omega⟩
end Go.Proofs.YtfjhnollamkdcaaGreatDoor
namespace Go.Proofs.YtfjhnollamkdcaaGreatDoor
open Go.Sx
set_option linter.unusedSimpArgs false
set_option linter.unusedVariables false
set_option maxRecDepth 100000
set_option maxHeartbeats 4000000
theorem Inv.rnk {r c:Nat} {W:Mx} {s:St} (h:Inv r W c s):s.piv.length=rnk r c W:=
 congrArg List.length (RE.unique h.re (Inv.red (r:=r) (W:=W) c).re fun x=>(h.ker x).trans ((Inv.red (r:=r) (W:=W) c).ker x).symm).1
theorem Inv.full {n:Nat} {W:Mx} {s:St} (h:Inv n W n s):s.piv.length=n↔det n W≠0:=by rw[h.rnk];exact full_det n W
theorem ker_nil {r c:Nat} {w:Mx}:Ker r c w fun _=>0:=fun i _=>sum_zeros fun q _=>by grind
theorem ker_ext {r c:Nat} {w:Mx} {f g:Nat→Rat} (h:∀q,q<c→f q=g q):Ker r c w f↔Ker r c w g:=by
 unfold Ker
 constructor
 ·intro k i hi;rw[←k i hi];exact sum_congr c fun q hq=>by rw[h q hq]
 ·intro k i hi;rw[←k i hi];exact sum_congr c fun q hq=>by rw[h q hq]
theorem apply_is {r c:Nat} {a v b:List Rat} (hb:b.length=r) (h:∀i,i<r→sumR c (fun q=>el a c i q*v.getD q 0)=b.getD i 0):mapply r c a v=b:=
 vec_ext (n:=r) mapply_len hb fun i hi=>by rw[mapply_get hi];exact h i hi
theorem free_get {sp:List Nat} {c i:Nat} (hi:i<(freeF sp c).length):(freeF sp c).getD i 0<c∧(freeF sp c).getD i 0∉sp:=by
 rw[List.getD_eq_getElem?_getD,List.getElem?_eq_getElem hi]
 exact mem_free.1 (List.getElem_mem hi)
theorem free_inc (sp:List Nat) (c:Nat) {i j:Nat} (hij:i<j) (hj:j<(freeF sp c).length):(freeF sp c).getD i 0<(freeF sp c).getD j 0:=by
 have h:(freeF sp c).Pairwise (·<·):=List.Pairwise.filter _ List.pairwise_lt_range
 rw[List.getD_eq_getElem?_getD,List.getD_eq_getElem?_getD,List.getElem?_eq_getElem hj,List.getElem?_eq_getElem (Nat.lt_trans hij hj)]
 exact List.pairwise_iff_getElem.1 h i j (Nat.lt_trans hij hj) hj hij
section
variable {r c:Nat} {w:Mx} {sp:List Nat} {M:Nat→List Rat}
theorem kvL_ker (h:RE r c w sp) (hM:∀j,j<sp.length→∀k,k<c→(M j).getD k 0=w j k) {k:Nat} (hk:k<c) (hn:k∉sp):Ker r c w fun q=>(kvL M sp c k).getD q 0:=
 (ker_ext fun q hq=>kvL_get h hk hn (Nat.le_refl c) (fun j hj=>hM j hj k hk) hq).2 (kv_ker h hk)
theorem kvL_free (h:RE r c w sp) (hM:∀j,j<sp.length→∀k,k<c→(M j).getD k 0=w j k) {i k:Nat} (hi:i<(freeF sp c).length) (hk:k<(freeF sp c).length):(kvL M sp c ((freeF sp c).getD i 0)).getD ((freeF sp c).getD k 0) 0=if k=i then 1 else 0:=by
 obtain⟨h1,h2⟩:=free_get hi
 obtain⟨h3,h4⟩:=free_get hk
 rw[kvL_get h h1 h2 (Nat.le_refl c) (fun j hj=>hM j hj _ h1) h3]
 by_cases e:k=i
 ·subst e;rw[if_pos rfl];exact kv_self h h2
 ·rw[if_neg e]
  refine kv_other h4 fun g=>e ?_
  rcases Nat.lt_trichotomy k i with l|l|l
  ·have:=free_inc sp c l hi;omega
  ·exact l
  ·have:=free_inc sp c l hk;omega
end
end Go.Proofs.YtfjhnollamkdcaaGreatDoor
namespace Go.Proofs.YtfjhnollamkdcaaGreatDoor
open Go.Sx
set_option linter.unusedSimpArgs false
set_option linter.unusedVariables false
set_option maxRecDepth 100000
set_option maxHeartbeats 4000000
def pivL (r c:Nat) (a:List Rat):List Nat:=(redF r c ⟨el a c,[],1⟩).piv
def RW (r c:Nat) (a:List Rat):Mx:=(redF r c ⟨el a c,[],1⟩).w
theorem RW_re (r c:Nat) (a:List Rat):RE r c (RW r c a) (pivL r c a):=(Inv.red (r:=r) (W:=el a c) c).re
theorem RW_ker (r c:Nat) (a:List Rat) (x:Nat→Rat):Ker r c (RW r c a) x↔Ker r c (el a c) x:=(Inv.red (r:=r) (W:=el a c) c).ker x
theorem pivL_rnk (r c:Nat) (a:List Rat):(pivL r c a).length=rnk r c (el a c):=rfl
theorem Inv.pivL {r c:Nat} {W:Mx} {s:St} {a:List Rat} (h:Inv r W c s) (hW:∀i q,i<r→q<c→W i q=el a c i q):s.piv=pivL r c a∧∀i q,i<r→q<c→s.w i q=RW r c a i q:=
 RE.unique h.re (RW_re r c a) fun x=>(h.ker x).trans ((ker_congr hW x).trans (RW_ker r c a x).symm)
def rwM (r c:Nat) (a:List Rat) (i:Nat):List Rat:=(List.range c).map (RW r c a i)
theorem rwM_get {r c:Nat} {a:List Rat} {i k:Nat} (hk:k<c):(rwM r c a i).getD k 0=RW r c a i k:=by simp[rwM,List.getD_eq_getElem?_getD,hk]
def KL (r c:Nat) (a:List Rat):List (List Rat):=(freeF (pivL r c a) c).map (kvL (rwM r c a) (pivL r c a) c)
theorem KL_len (r c:Nat) (a:List Rat):(KL r c a).length=(freeF (pivL r c a) c).length:=List.length_map _
theorem KL_cnt (r c:Nat) (a:List Rat):(KL r c a).length+(pivL r c a).length=c:=by rw[KL_len];exact(RW_re r c a).free
section
variable {r c:Nat} {a:List Rat} {i k:Nat}
theorem KL_get (hi:i<(KL r c a).length):(KL r c a).getD i []=kvL (rwM r c a) (pivL r c a) c ((freeF (pivL r c a) c).getD i 0):=by
 rw[KL_len]at hi
 simp[KL,List.getD_eq_getElem?_getD,hi]
theorem KL_ker (hi:i<(KL r c a).length):Ker r c (el a c) fun q=>((KL r c a).getD i []).getD q 0:=by
 rw[KL_get hi]
 rw[KL_len]at hi
 obtain⟨h1,h2⟩:=free_get hi
 exact(RW_ker r c a _).1 (kvL_ker (RW_re r c a) (fun j _ k hk=>rwM_get hk) h1 h2)
theorem KL_free (hi:i<(KL r c a).length) (hk:k<(KL r c a).length):((KL r c a).getD i []).getD ((freeF (pivL r c a) c).getD k 0) 0=if k=i then 1 else 0:=by
 rw[KL_get hi]
 rw[KL_len]at hi hk
 exact kvL_free (RW_re r c a) (fun j _ k hk=>rwM_get hk) hi hk
end
def Sol (r c:Nat) (a b:List Rat) (x:Nat→Rat):Prop:=∀i,i<r→sumR c (fun q=>el a c i q*x q)=b.getD i 0
theorem Sol.ext {r c:Nat} {a b:List Rat} {x y:Nat→Rat} (h:Sol r c a b x) (he:∀q,q<c→x q=y q):Sol r c a b y:=fun i hi=>by rw[←h i hi];exact sum_congr c fun q hq=>by rw[he q hq]
theorem Sol.app {r c:Nat} {a b v:List Rat} (hb:b.length=r) (h:Sol r c a b fun q=>v.getD q 0):mapply r c a v=b:=apply_is hb h
theorem Sol.of {r c:Nat} {a v:List Rat}:Sol r c a (mapply r c a v) fun q=>v.getD q 0:=fun i hi=>by rw[mapply_get hi]
theorem Sol.add {r c:Nat} {a b:List Rat} {x y:Nat→Rat} (t:Rat) (h:Sol r c a b x) (hk:Ker r c (el a c) y):Sol r c a b fun q=>t*y q+x q:=by
 intro i hi
 have e:sumR c (fun q=>el a c i q*(t*y q+x q))=t*sumR c (fun q=>el a c i q*y q)+sumR c (fun q=>el a c i q*x q):=by
  rw[←sum_smul,←sum_add];exact sum_congr c fun q _=>by grind
 rw[e,h i hi,hk i hi];grind
theorem Sol.sub {r c:Nat} {a b:List Rat} {x y:Nat→Rat} (h:Sol r c a b x) (h':Sol r c a b y):Ker r c (el a c) fun q=>x q - y q:=by
 intro i hi
 have e:sumR c (fun q=>el a c i q*(x q - y q))=sumR c (fun q=>el a c i q*x q)+(-1)*sumR c (fun q=>el a c i q*y q):=by
  rw[←sum_smul,←sum_add];exact sum_congr c fun q _=>by grind
 rw[e,h i hi,h' i hi];grind
theorem Sol.eq {r c:Nat} {a b:List Rat} {x y:Nat→Rat} (h:Sol r c a b x) (h':Sol r c a b y) (hf:∀q,q<c→q∉pivL r c a→x q=y q):∀q,q<c→x q=y q:=by
 intro q hq
 have:=ker_free (RW_re r c a) ((RW_ker r c a _).2 (h.sub h')) (fun q hq hn=>by rw[hf q hq hn];grind) q hq
 grind
section
variable {r c:Nat} {W:Mx} {s:St} {a b:List Rat} (hi:Inv r W c s) (hW:∀i q,i<r→q<c→W i q=el a c i q) (hb:∀i,i<r→W i c=b.getD i 0)
include hi hW hb
end
end Go.Proofs.YtfjhnollamkdcaaGreatDoor
namespace Go.Proofs.YtfjhnollamkdcaaGreatDoor
open Go.Sx
set_option linter.unusedSimpArgs false
set_option linter.unusedVariables false
set_option maxRecDepth 100000
set_option maxHeartbeats 4000000
def qf (n:Nat) (A:Mx) (x:Nat→Rat):Rat:=sumR n fun i=>sumR n fun k=>x i*A i k*x k
theorem qf_congr {n:Nat} {A:Mx} {x y:Nat→Rat} (h:∀i,i<n→x i=y i):qf n A x=qf n A y:=
 sum_congr n fun i hi=>sum_congr n fun k hk=>by rw[h i hi,h k hk]
theorem qf_congrA {n:Nat} {A B:Mx} {x:Nat→Rat} (h:∀i k,i<n→k<n→A i k=B i k):qf n A x=qf n B x:=
 sum_congr n fun i hi=>sum_congr n fun k hk=>by rw[h i k hi hk]
theorem qf_smul (n:Nat) (s:Rat) (A:Mx) (x:Nat→Rat):qf n (fun i k=>s*A i k) x=s*qf n A x:=by
 unfold qf
 rw[←sum_smul]
 refine sum_congr n fun i _=> ?_
 rw[←sum_smul]
 exact sum_congr n fun k _=>by grind
theorem qf_add (n:Nat) (A B:Mx) (x:Nat→Rat):qf n (fun i k=>A i k+B i k) x=qf n A x+qf n B x:=by
 unfold qf
 rw[←sum_add]
 refine sum_congr n fun i _=> ?_
 rw[←sum_add]
 exact sum_congr n fun k _=>by grind
def comb (k:Nat) (c:Nat→Rat) (V:Mx):Nat→Rat:=fun i=>sumR k fun j=>c j*V j i
structure Lin (n:Nat) (T:(Nat→Rat)→Nat→Rat):Prop where
 lin:∀(c:Rat) (x y:Nat→Rat) i,i<n→T (fun q=>c*x q+y q) i=c*T x i+T y i
 cong:∀x y,(∀i,i<n→x i=y i)→∀i,i<n→T x i=T y i
theorem Lin.zero {n:Nat} {T:(Nat→Rat)→Nat→Rat} (h:Lin n T) {i:Nat} (hi:i<n):T (fun _=>0) i=0:=by
 have e:=h.lin 1 (fun _=>0) (fun _=>0) i hi
 have e2:=h.cong (fun q=>1*(0:Rat)+0) (fun _=>0) (fun _ _=>by grind) i hi
 rw[e2]at e;grind
theorem Lin.combT {n:Nat} {T:(Nat→Rat)→Nat→Rat} (h:Lin n T) (c:Nat→Rat) (V:Mx):∀k i,i<n→T (comb k c V) i=comb k c (fun j=>T (V j)) i
 |0,i,hi=>h.zero hi
 |k+1,i,hi=>by
  show T (comb (k+1) c V) i=comb k c (fun j=>T (V j)) i+c k*T (V k) i
  rw[←Lin.combT h c V k i hi]
  have e:=h.lin (c k) (V k) (comb k c V) i hi
  rw[h.cong (fun q=>c k*V k q+comb k c V q) (comb (k+1) c V) (fun q _=>by show c k*V k q+comb k c V q=comb k c V q+c k*V k q;grind) i hi]at e
  rw[e];grind
structure Iso (n:Nat) (T S:(Nat→Rat)→Nat→Rat):Prop where
 lin:Lin n T
 lin':Lin n S
 inv:∀x i,i<n→T (S x) i=x i
 inv':∀x i,i<n→S (T x) i=x i
theorem Iso.id (n:Nat):Iso n (fun x=>x) (fun x=>x):=⟨⟨fun _ _ _ _ _=>rfl,fun _ _ h=>h⟩,⟨fun _ _ _ _ _=>rfl,fun _ _ h=>h⟩,fun _ _ _=>rfl,fun _ _ _=>rfl⟩
theorem Lin.trans {n:Nat} {T U:(Nat→Rat)→Nat→Rat} (h:Lin n T) (g:Lin n U):Lin n fun x=>T (U x):=
 ⟨fun c x y i hi=>by rw[←h.lin c (U x) (U y) i hi];exact h.cong _ _ (fun q hq=>g.lin c x y q hq) i hi,fun x y hxy i hi=>h.cong _ _ (g.cong x y hxy) i hi⟩
theorem Iso.trans {n:Nat} {T S U V:(Nat→Rat)→Nat→Rat} (h:Iso n T S) (g:Iso n U V):Iso n (fun x=>T (U x)) (fun x=>V (S x)) where
 lin:=h.lin.trans g.lin
 lin':=g.lin'.trans h.lin'
 inv x i hi:=by rw[h.lin.cong _ _ (fun q hq=>g.inv (S x) q hq) i hi];exact h.inv x i hi
 inv' x i hi:=by rw[g.lin'.cong _ _ (fun q hq=>h.inv' (U x) q hq) i hi];exact g.inv' x i hi
theorem Iso.symm {n:Nat} {T S:(Nat→Rat)→Nat→Rat} (h:Iso n T S):Iso n S T:=⟨h.lin',h.lin,h.inv',h.inv⟩
def PosK (n:Nat) (A:Mx) (k:Nat):Prop:=∃V:Mx,∀c:Nat→Rat,(∃j,j<k∧c j≠0)→0<qf n A (comb k c V)
theorem PosK.mono {n k:Nat} {A B:Mx} (h:∀x,qf n A x≤qf n B x) (hk:PosK n A k):PosK n B k:=by
 obtain⟨V,hV⟩:=hk
 exact⟨V,fun c hc=>by have h1:=hV c hc;have h2:=h (comb k c V);grind⟩
theorem PosK.congr {n k:Nat} {A B:Mx} (h:∀i j,i<n→j<n→A i j=B i j):PosK n A k↔PosK n B k:=by
 constructor
 ·exact PosK.mono fun x=>by rw[qf_congrA h];exact Rat.le_refl
 ·exact PosK.mono fun x=>by rw[qf_congrA h];exact Rat.le_refl
theorem PosK.iso {n k:Nat} {A B:Mx} {T S:(Nat→Rat)→Nat→Rat} (hT:Iso n T S) (h:∀x,qf n B x=qf n A (T x)) (hk:PosK n B k):PosK n A k:=by
 obtain⟨V,hV⟩:=hk
 refine⟨fun j=>T (V j),fun c hc=> ?_⟩
 have:=hV c hc
 rw[h]at this
 rwa [qf_congr (y:=comb k c fun j=>T (V j)) fun i hi=>hT.lin.combT c V k i hi]at this
def Cg (n:Nat) (A B:Mx):Prop:=∃T S,Iso n T S∧∀x,qf n B x=qf n A (T x)
theorem Cg.refl (n:Nat) (A:Mx):Cg n A A:=⟨_,_,Iso.id n,fun _=>rfl⟩
theorem Cg.trans {n:Nat} {A B C:Mx} (h:Cg n A B) (g:Cg n B C):Cg n A C:=by
 obtain⟨T,S,h1,h2⟩:=h
 obtain⟨U,V,g1,g2⟩:=g
 exact⟨_,_,h1.trans g1,fun x=>by rw[g2,h2]⟩
theorem Cg.symm {n:Nat} {A B:Mx} (h:Cg n A B):Cg n B A:=by
 obtain⟨T,S,h1,h2⟩:=h
 exact⟨_,_,h1.symm,fun x=>by rw[h2];exact(qf_congr fun i hi=>h1.inv x i hi).symm⟩
theorem Cg.congr {n:Nat} {A B C:Mx} (h:Cg n A B) (e:∀i k,i<n→k<n→B i k=C i k):Cg n A C:=by
 obtain⟨T,S,h1,h2⟩:=h
 exact⟨T,S,h1,fun x=>by rw[←h2];exact(qf_congrA e).symm⟩
theorem Cg.posK {n k:Nat} {A B:Mx} (h:Cg n A B):PosK n A k↔PosK n B k:=by
 obtain⟨T,S,h1,h2⟩:=h
 exact⟨PosK.iso h1.symm fun x=>by rw[h2];exact(qf_congr fun i hi=>h1.inv x i hi).symm,PosK.iso h1 h2⟩
theorem Cg.neg {n:Nat} {A B:Mx} (h:Cg n A B):Cg n (fun i k=> -1*A i k) (fun i k=> -1*B i k):=by
 obtain⟨T,S,h1,h2⟩:=h
 exact⟨T,S,h1,fun x=>by rw[qf_smul,qf_smul,h2]⟩
theorem depend {p k:Nat} (h:p<k) (V:Mx):∃c:Nat→Rat,(∃j,j<k∧c j≠0)∧∀a,a<p→sumR k (fun j=>c j*V j a)=0:=by
 have e:=KL_cnt p k (mk p k fun a j=>V j a)
 have hr:=rnk_le_r p k (el (mk p k fun a j=>V j a) k)
 rw[←pivL_rnk]at hr
 have h0:0<(KL p k (mk p k fun a j=>V j a)).length:=by omega
 refine⟨fun j=>((KL p k (mk p k fun a j=>V j a)).getD 0 []).getD j 0,⟨(freeF (pivL p k (mk p k fun a j=>V j a)) k).getD 0 0,(free_get (by rw[←KL_len];exact h0)).1, ?_⟩,fun a ha=> ?_⟩
 ·show((KL p k (mk p k fun a j=>V j a)).getD 0 []).getD _ 0≠0
  rw[KL_free h0 h0,if_pos rfl];decide
 ·exact(sum_congr k fun j hj=>by rw[mk_el ha hj,Rat.mul_comm]).trans (KL_ker h0 a ha)
def cntN (n:Nat) (p:Nat→Bool):Nat:=((List.range n).filter p).length
theorem cntN_succ (n:Nat) (p:Nat→Bool):cntN (n+1) p=cntN n p+if p n then 1 else 0:=by
 unfold cntN
 rw[List.range_succ,List.filter_append,List.length_append]
 congr 1
 cases h:p n<;>simp[h]
theorem sum_nn:∀{n:Nat} {f:Nat→Rat},(∀i,i<n→0≤f i)→0≤sumR n f
 |0,_,_=>Rat.le_refl
 |n+1,f,h=>by
  rw[sumR]
  have h1:=sum_nn (n:=n) fun i hi=>h i (by omega)
  have h2:=h n (by omega)
  grind
theorem sum_np {n:Nat} {f:Nat→Rat} (h:∀i,i<n→f i≤0):sumR n f≤0:=by
 have e:sumR n (fun i=> -1*f i)= -1*sumR n f:=sum_smul _ _ _
 have:=sum_nn (n:=n) (f:=fun i=> -1*f i) fun i hi=>by have:=h i hi;grind
 grind
theorem sum_pos:∀{n:Nat} {f:Nat→Rat},(∀i,i<n→0≤f i)→(∃i,i<n∧0<f i)→0<sumR n f
 |0,_,_,⟨i,hi,_⟩=>by omega
 |n+1,f,h,⟨i,hi,hp⟩=>by
  rw[sumR]
  have h1:=sum_nn (n:=n) fun i hi=>h i (by omega)
  have h2:=h n (by omega)
  by_cases e:i=n
  ·subst e;grind
  ·have:=sum_pos (n:=n) (fun i hi=>h i (by omega)) ⟨i,by omega,hp⟩
   grind
theorem sq_nn (x:Rat):0≤x*x:=by
 rcases Rat.le_total (a:=0) (b:=x)with h|h
 ·exact Rat.mul_nonneg h h
 ·have:=Rat.mul_nonneg (show(0:Rat)≤ -x by grind) (show(0:Rat)≤ -x by grind)
  grind
theorem sq_pos {x:Rat} (h:x≠0):0<x*x:=by
 have h1:=sq_nn x
 have h2:x*x≠0:=fun g=>(Rat.mul_eq_zero.1 g).elim h h
 grind
def dgM (d:Nat→Rat):Mx:=fun i k=>if i=k then d i else 0
theorem qf_dg (n:Nat) (d x:Nat→Rat):qf n (dgM d) x=sumR n fun i=>d i*(x i*x i):=by
 refine sum_congr n fun i hi=> ?_
 rw[sum_one (j:=i) _ hi fun k _ hne=>by unfold dgM;rw[if_neg (Ne.symm hne)];grind]
 unfold dgM;rw[if_pos rfl];grind
theorem filt_get {n:Nat} {p:Nat→Bool} {a:Nat} (ha:a<cntN n p):((List.range n).filter p).getD a 0<n∧p (((List.range n).filter p).getD a 0)=true:=by
 unfold cntN at ha
 rw[List.getD_eq_getElem?_getD,List.getElem?_eq_getElem ha]
 have:=List.getElem_mem ha
 rw[List.mem_filter,List.mem_range]at this
 exact this
theorem filt_mem {n:Nat} {p:Nat→Bool} {i:Nat} (hi:i<n) (hp:p i=true):∃a,a<cntN n p∧((List.range n).filter p).getD a 0=i:=by
 have:i∈(List.range n).filter p:=by rw[List.mem_filter,List.mem_range];exact⟨hi,hp⟩
 obtain⟨a,ha,e⟩:=List.getElem_of_mem this
 exact⟨a,ha,by rw[List.getD_eq_getElem?_getD,List.getElem?_eq_getElem ha];exact e⟩
theorem filt_inj {n:Nat} {p:Nat→Bool} {a b:Nat} (ha:a<cntN n p) (hb:b<cntN n p) (h:((List.range n).filter p).getD a 0=((List.range n).filter p).getD b 0):a=b:=by
 have hw:((List.range n).filter p).Pairwise (·<·):=List.Pairwise.filter _ List.pairwise_lt_range
 unfold cntN at ha hb
 rw[List.getD_eq_getElem?_getD,List.getD_eq_getElem?_getD,List.getElem?_eq_getElem ha,List.getElem?_eq_getElem hb]at h
 rcases Nat.lt_trichotomy a b with g|g|g
 ·have:=List.pairwise_iff_getElem.1 hw a b ha hb g
  simp only[Option.getD_some]at h;omega
 ·exact g
 ·have:=List.pairwise_iff_getElem.1 hw b a hb ha g
  simp only[Option.getD_some]at h;omega
def idxP (n:Nat) (d:Nat→Rat) (a:Nat):Nat:=((List.range n).filter fun i=>decide (0<d i)).getD a 0
def unitP (n:Nat) (d:Nat→Rat):Mx:=fun j i=>if idxP n d j=i then 1 else 0
theorem posK_dg {n k:Nat} {d:Nat→Rat}:PosK n (dgM d) k↔k≤cntN n fun i=>decide (0<d i):=by
 constructor
 ·rintro⟨V,hV⟩
  refine Nat.le_of_not_lt fun hlt=> ?_
  obtain⟨c,hc,h0⟩:=depend hlt fun j a=>V j (((List.range n).filter fun i=>decide (0<d i)).getD a 0)
  have h1:=hV c hc
  rw[qf_dg]at h1
  have h2:sumR n (fun i=>d i*(comb k c V i*comb k c V i))≤0:=sum_np fun i hi=>by
   by_cases hd:0<d i
   ·obtain⟨a,ha,e⟩:=filt_mem (p:=fun i=>decide (0<d i)) hi (decide_eq_true hd)
    have:=h0 a ha
    rw[e]at this
    show d i*(comb k c V i*comb k c V i)≤0
    rw[show comb k c V i=0 from this];grind
   ·have h3:=sq_nn (comb k c V i)
    have h4:=Rat.mul_nonneg (show(0:Rat)≤ - d i by grind) h3
    grind
  grind
 ·intro hk
  refine⟨unitP n d,fun c ⟨j,hj,hne⟩=> ?_⟩
  rw[qf_dg]
  have hg:=fun a (ha:a<k)=>filt_get (n:=n) (p:=fun i=>decide (0<d i)) (a:=a) (by omega)
  have hval:∀a,a<k→comb k c (unitP n d) (idxP n d a)=c a:=fun a ha=>by
   show sumR k (fun j=>c j*unitP n d j (idxP n d a))=c a
   rw[sum_one (j:=a) k ha fun b hb hne=>by unfold unitP;rw[if_neg (show ¬idxP n d b=idxP n d a from fun e=>hne (filt_inj (p:=fun i=>decide (0<d i)) (by omega) (by omega) e))];grind]
   unfold unitP;rw[if_pos rfl];grind
  have hoth:∀i,i<n→¬0<d i→comb k c (unitP n d) i=0:=fun i hi hd=>
   sum_zeros fun b hb=>by unfold unitP;rw[if_neg (show ¬idxP n d b=i from fun e=>hd (by have:=(hg b hb).2;unfold idxP at e;rw[e]at this;exact of_decide_eq_true this))];grind
  refine sum_pos (fun i hi=> ?_) ⟨_,(hg j hj).1, ?_⟩
  ·by_cases hd:0<d i
   ·exact Rat.mul_nonneg (by grind) (sq_nn _)
   ·rw[hoth i hi hd];grind
  ·have e:=hval j hj
   unfold idxP at e
   rw[e]
   exact Rat.mul_pos (of_decide_eq_true (hg j hj).2) (sq_pos hne)
end Go.Proofs.YtfjhnollamkdcaaGreatDoor
namespace Go.Proofs.YtfjhnollamkdcaaGreatDoor
open Go.Sx
set_option linter.unusedSimpArgs false
set_option linter.unusedVariables false
set_option maxRecDepth 100000
set_option maxHeartbeats 4000000
def addM (X:Mx) (t f:Nat) (c:Rat):Mx:=fun j l=>X j l+(if j=t then c*X f l else 0)+(if l=t then c*X j f else 0)+(if j=t then(if l=t then c*c*X f f else 0)else 0)
theorem sum_pick {n t:Nat} (ht:t<n) (g:Nat→Rat):sumR n (fun k=>if k=t then g k else 0)=g t:=by
 rw[sum_one (j:=t) n ht fun i _ hne=>if_neg hne,if_pos rfl]
theorem qf_addM {n t f:Nat} {X:Mx} {c:Rat} {x:Nat→Rat} (ht:t<n) (hf:f<n):qf n (addM X t f c) x=qf n X fun i=>if i=f then x i+c*x t else x i:=by
 have hL:∀i,i<n→sumR n (fun k=>x i*addM X t f c i k*x k)=x i*sumR n (fun k=>X i k*x k)+(if i=t then x i*c*sumR n (fun k=>X f k*x k)else 0)+x i*(c*X i f*x t)+(if i=t then x i*(c*c*X f f*x t)else 0):=fun i hi=>by
  rw[sum_congr n (g:=fun k=>((x i*(X i k*x k)+(if i=t then x i*c else 0)*(X f k*x k))+(if k=t then x i*(c*X i f*x k)else 0))+(if k=t then(if i=t then x i*(c*c*X f f*x k)else 0)else 0)) fun k _=>by
   unfold addM
   by_cases h1:i=t
   ·by_cases h2:k=t
    ·rw[if_pos h1,if_pos h2,if_pos h1,if_pos h2,if_pos h1,if_pos h2,if_pos h2,if_pos h1];grind
    ·rw[if_pos h1,if_neg h2,if_pos h1,if_neg h2,if_pos h1,if_neg h2,if_neg h2];grind
   ·by_cases h2:k=t
    ·rw[if_neg h1,if_pos h2,if_neg h1,if_neg h1,if_pos h2,if_pos h2,if_neg h1];grind
    ·rw[if_neg h1,if_neg h2,if_neg h1,if_neg h1,if_neg h2,if_neg h2];grind]
  rw[sum_add,sum_add,sum_add,sum_smul,sum_smul,sum_pick ht,sum_pick ht]
  by_cases h1:i=t
  ·rw[if_pos h1,if_pos h1,if_pos h1]
  ·rw[if_neg h1,if_neg h1,if_neg h1];grind
 have hR:∀i,i<n→sumR n (fun k=>(if i=f then x i+c*x t else x i)*X i k*(if k=f then x k+c*x t else x k))=(x i*sumR n (fun k=>X i k*x k)+x i*(c*X i f*x t))+(if i=f then c*x t*(sumR n (fun k=>X f k*x k)+c*x t*X f f)else 0):=fun i hi=>by
  rw[sum_congr n (g:=fun k=>(if i=f then x i+c*x t else x i)*(X i k*x k)+(if k=f then(if i=f then x i+c*x t else x i)*(X i k*(c*x t))else 0)) fun k _=>by
   by_cases h2:k=f
   ·rw[if_pos h2,if_pos h2];grind
   ·rw[if_neg h2,if_neg h2];grind]
  rw[sum_add,sum_smul,sum_pick hf]
  by_cases h1:i=f
  ·rw[if_pos h1,if_pos h1,h1];grind
  ·rw[if_neg h1,if_neg h1];grind
 show sumR n (fun i=>sumR n fun k=>x i*addM X t f c i k*x k)=sumR n (fun i=>sumR n fun k=>(if i=f then x i+c*x t else x i)*X i k*(if k=f then x k+c*x t else x k))
 rw[sum_congr n hL,sum_congr n hR,sum_add,sum_add,sum_add,sum_add,sum_add,sum_pick ht (fun i=>x i*c*sumR n (fun k=>X f k*x k)),sum_pick ht (fun i=>x i*(c*c*X f f*x t)),sum_pick hf (fun _=>c*x t*(sumR n (fun k=>X f k*x k)+c*x t*X f f))]
 grind
theorem addM_cg {n t f:Nat} (X:Mx) (c:Rat) (ht:t<n) (hf:f<n) (hne:t≠f):Cg n X (addM X t f c):=by
 refine⟨fun x i=>if i=f then x i+c*x t else x i,fun x i=>if i=f then x i+(-c)*x t else x i,⟨⟨fun a x y i hi=> ?_,fun x y h i hi=> ?_⟩,⟨fun a x y i hi=> ?_,fun x y h i hi=> ?_⟩,fun x i hi=> ?_,fun x i hi=> ?_⟩,fun x=>qf_addM ht hf⟩
 ·by_cases e:i=f
  ·simp only[if_pos e];grind
  ·simp only[if_neg e]
 ·simp only[h i hi,h t ht]
 ·by_cases e:i=f
  ·simp only[if_pos e];grind
  ·simp only[if_neg e]
 ·simp only[h i hi,h t ht]
 ·by_cases e:i=f
  ·simp only[if_pos e,if_neg hne];grind
  ·simp only[if_neg e]
 ·by_cases e:i=f
  ·simp only[if_pos e,if_neg hne];grind
  ·simp only[if_neg e]
def SymX (n:Nat) (X:Mx):Prop:=∀j l,j<n→l<n→X j l=X l j
theorem addM_sym {n t f:Nat} {X:Mx} {c:Rat} (h:SymX n X) (ht:t<n) (hf:f<n):SymX n (addM X t f c):=by
 intro j l hj hl
 unfold addM
 rw[h j l hj hl,h f l hf hl,h j f hj hf]
 by_cases h1:j=t
 ·by_cases h2:l=t
  ·rw[if_pos h1,if_pos h2];simp only[if_pos h1,if_pos h2];grind
  ·simp only[if_pos h1,if_neg h2];grind
 ·by_cases h2:l=t
  ·simp only[if_neg h1,if_pos h2];grind
  ·simp only[if_neg h1,if_neg h2]
def stF (X:Mx) (i k:Nat):Mx:=fun j l=>if (j<k∧j≠i)∨(l<k∧l≠i)then X j l - X j i*X i l/X i i else X j l
theorem stF_zero (X:Mx) (i:Nat):stF X i 0=X:=by
 funext j l
 unfold stF
 rw[if_neg (by omega)]
section
variable {n i k:Nat} {X:Mx} (hs:SymX n X) (hi:i<n) (hk:k<n) (hp:X i i≠0)
include hs hi hk
theorem stF_skip (h0:X k i=0) (hne:k≠i):∀j l,j<n→l<n→stF X i (k+1) j l=stF X i k j l:=by
 intro j l hj hl
 have h1:X i k=0:=by rw[hs i k hi hk,h0]
 unfold stF
 by_cases e1:(j<k∧j≠i)∨(l<k∧l≠i)
 ·rw[if_pos e1,if_pos (by omega)]
 ·rw[if_neg e1]
  by_cases e2:j=k
  ·subst e2;rw[if_pos (by omega),h0];grind
  ·by_cases e3:l=k
   ·subst e3;rw[if_pos (by omega),h1];grind
   ·rw[if_neg (by omega)]
omit hs hi hk in
theorem stF_self:stF X i (i+1)=stF X i i:=by
 funext j l
 unfold stF
 by_cases e1:(j<i∧j≠i)∨(l<i∧l≠i)
 ·rw[if_pos e1,if_pos (by omega)]
 ·rw[if_neg e1,if_neg (by omega)]
include hp
theorem stF_step (hne:k≠i):∀j l,j<n→l<n→addM (stF X i k) k i (-(X k i/X i i)) j l=stF X i (k+1) j l:=by
 intro j l hj hl
 have hki:stF X i k k i=X k i:=by unfold stF;rw[if_neg (by omega)]
 have hii:stF X i k i i=X i i:=by unfold stF;rw[if_neg (by omega)]
 have hil:∀l,stF X i k i l=if l<k∧l≠i then 0 else X i l:=fun l=>by
  unfold stF
  by_cases g:l<k∧l≠i
  ·rw[if_pos (by omega),if_pos g,Rat.div_def]
   have:X i i*(X i i)⁻¹=1:=Rat.mul_inv_cancel _ hp
   grind
  ·rw[if_neg (by omega),if_neg g]
 have hji:∀j,stF X i k j i=if j<k∧j≠i then 0 else X j i:=fun j=>by
  unfold stF
  by_cases g:j<k∧j≠i
  ·rw[if_pos (by omega),if_pos g,Rat.div_def]
   have:X i i*(X i i)⁻¹=1:=Rat.mul_inv_cancel _ hp
   grind
  ·rw[if_neg (by omega),if_neg g]
 have hsy:=hs i k hi hk
 have hin:X i i*(X i i)⁻¹=1:=Rat.mul_inv_cancel _ hp
 unfold addM
 rw[hii,hil,hji]
 by_cases e1:j=k
 ·subst e1
  by_cases e2:l=j
  ·subst e2
   simp only[if_true]
   rw[if_neg (by omega),if_neg (by omega)]
   unfold stF
   rw[if_neg (by omega),if_pos (by omega),Rat.div_def,Rat.div_def]
   grind
  ·simp only[if_true,if_neg e2]
   by_cases g:l<j∧l≠i
   ·rw[if_pos g]
    unfold stF
    rw[if_pos (by omega),if_pos (by omega)];grind
   ·rw[if_neg g]
    unfold stF
    rw[if_neg (by omega),if_pos (by omega),Rat.div_def,Rat.div_def];grind
 ·simp only[if_neg e1]
  by_cases e2:l=k
  ·subst e2
   simp only[if_true]
   by_cases g:j<l∧j≠i
   ·rw[if_pos g]
    unfold stF
    rw[if_pos (by omega),if_pos (by omega)];grind
   ·rw[if_neg g]
    unfold stF
    rw[if_neg (by omega),if_pos (by omega),Rat.div_def,Rat.div_def];grind
  ·simp only[if_neg e2]
   unfold stF
   by_cases g:(j<k∧j≠i)∨(l<k∧l≠i)
   ·rw[if_pos g,if_pos (by omega)];grind
   ·rw[if_neg g,if_neg (by omega)];grind
end
theorem stF_sym {n i k:Nat} {X:Mx} (hs:SymX n X) (hi:i<n):SymX n (stF X i k):=by
 intro j l hj hl
 unfold stF
 rw[hs j l hj hl,hs j i hj hi,hs i l hi hl]
 by_cases g:(j<k∧j≠i)∨(l<k∧l≠i)
 ·rw[if_pos g,if_pos (by omega)]
  rw[Rat.mul_comm]
 ·rw[if_neg g,if_neg (by omega)]
theorem stF_cg {n i:Nat} {X:Mx} (hs:SymX n X) (hi:i<n) (hp:X i i≠0):∀k,k≤n→Cg n X (stF X i k)
 |0,_=>by rw[stF_zero];exact Cg.refl n X
 |k+1,h=>by
  have ih:=stF_cg hs hi hp k (by omega)
  by_cases e:k=i
  ·subst e;rw[stF_self];exact ih
  ·exact(ih.trans (addM_cg _ (-(X k i/X i i)) (by omega) hi e)).congr (stF_step hs hi (by omega) hp e)
structure InvI (n:Nat) (A X:Mx) (done:Nat→Bool):Prop where
 sym:SymX n X
 cg:Cg n A X
 dn:∀j,j<n→done j=true→X j j≠0∧∀l,l<n→l≠j→X j l=0
theorem InvI.start {n:Nat} {A:Mx} (h:SymX n A):InvI n A A fun _=>false:=⟨h,Cg.refl n A,fun _ _ h=>by cases h⟩
theorem InvI.col {n:Nat} {A X:Mx} {done:Nat→Bool} (h:InvI n A X done) {j l:Nat} (hj:j<n) (hl:l<n) (hd:done j=true) (hne:l≠j):X l j=0:=by rw[h.sym l j hl hj];exact(h.dn j hj hd).2 l hl hne
theorem InvI.mix {n i k:Nat} {A X:Mx} {done:Nat→Bool} (h:InvI n A X done) (hi:i<n) (hk:k<n) (di:done i=false) (dk:done k=false) (h0:∀j,j<n→done j=false→X j j=0) (hx:X i k≠0):InvI n A (addM X i k 1) done∧addM X i k 1 i i≠0:=by
 have hne:i≠k:=fun e=>hx (by rw[←e];exact h0 i hi di)
 refine⟨⟨addM_sym h.sym hi hk,h.cg.trans (addM_cg X 1 hi hk hne),fun j hj hd=> ?_⟩, ?_⟩
 ·have hji:j≠i:=fun e=>by rw[e,di]at hd;cases hd
  have hjk:j≠k:=fun e=>by rw[e,dk]at hd;cases hd
  obtain⟨h1,h2⟩:=h.dn j hj hd
  have h3:=h2 k hk (Ne.symm hjk)
  unfold addM
  simp only[if_neg hji,h3]
  refine⟨?_,fun l hl hlj=> ?_⟩
  ·intro g;apply h1;grind
  ·rw[h2 l hl hlj];grind
 ·unfold addM
  simp only[if_true]
  rw[h0 i hi di,h0 k hk dk,h.sym k i hk hi]
  intro g
  apply hx
  grind
theorem InvI.piv {n i:Nat} {A X:Mx} {done:Nat→Bool} (h:InvI n A X done) (hi:i<n) (hp:X i i≠0):InvI n A (stF X i n) (fun j=>done j||decide (j=i))∧(∀j,j<n→done j=true→stF X i n j j=X j j)∧stF X i n i i=X i i:=by
 have hin:X i i*(X i i)⁻¹=1:=Rat.mul_inv_cancel _ hp
 have hii:stF X i n i i=X i i:=by unfold stF;rw[if_neg (by omega)]
 have hdj:∀j,j<n→done j=true→j≠i→∀l,l<n→stF X i n j l=X j l:=fun j hj hd hne l hl=>by
  have:=(h.dn j hj hd).2 i hi (Ne.symm hne)
  unfold stF
  split
  ·rw[this,Rat.div_def];grind
  ·rfl
 refine⟨⟨stF_sym h.sym hi,h.cg.trans (stF_cg h.sym hi hp n (Nat.le_refl _)),fun j hj hd=> ?_⟩,fun j hj hd=> ?_,hii⟩
 ·by_cases e:j=i
  ·subst e
   rw[hii]
   refine⟨hp,fun l hl hne=> ?_⟩
   unfold stF
   rw[if_pos (.inr ⟨hl,hne⟩),Rat.div_def]
   grind
  ·have hd':done j=true:=by simpa [e]using hd
   rw[hdj j hj hd' e j hj]
   exact⟨(h.dn j hj hd').1,fun l hl hne=>by rw[hdj j hj hd' e l hl];exact(h.dn j hj hd').2 l hl hne⟩
 ·by_cases e:j=i
  ·subst e;exact hii
  ·exact hdj j hj hd e j hj
structure Iner (n:Nat) (A:Mx) (m z p:Nat):Prop where
 pos:∀k,PosK n A k↔k≤p
 neg:∀k,PosK n (fun i k=> -1*A i k) k↔k≤m
 sum:m+z+p=n
theorem Iner.unique {n:Nat} {A:Mx} {m z p m' z' p':Nat} (h:Iner n A m z p) (g:Iner n A m' z' p'):m=m'∧z=z'∧p=p':=by
 have h1:=(g.pos p).1 ((h.pos p).2 (Nat.le_refl _))
 have h2:=(h.pos p').1 ((g.pos p').2 (Nat.le_refl _))
 have h3:=(g.neg m).1 ((h.neg m).2 (Nat.le_refl _))
 have h4:=(h.neg m').1 ((g.neg m').2 (Nat.le_refl _))
 have h5:=h.sum
 have h6:=g.sum
 omega
theorem cntN_congr {p q:Nat→Bool}:∀{n:Nat},(∀i,i<n→p i=q i)→cntN n p=cntN n q
 |0,_=>rfl
 |n+1,h=>by rw[cntN_succ,cntN_succ,cntN_congr (n:=n) fun i hi=>h i (by omega),h n (by omega)]
theorem cntN_le (p:Nat→Bool):∀n,cntN n p≤n
 |0=>Nat.le_refl _
 |n+1=>by rw[cntN_succ];have:=cntN_le p n;split<;>omega
theorem cntN_add {p q:Nat→Bool} {i:Nat}:∀{n:Nat},i<n→p i=false→(∀j,j<n→j≠i→q j=p j)→cntN n q=cntN n p+if q i then 1 else 0
 |0,h,_,_=>by omega
 |n+1,h,hp,hq=>by
  rw[cntN_succ,cntN_succ]
  by_cases e:i=n
  ·subst e
   rw[hp,cntN_congr (n:=i) fun j hj=>hq j (by omega) (by omega)]
   simp
  ·rw[cntN_add (n:=n) (by omega) hp fun j hj=>hq j (by omega),hq n (by omega) (by omega)]
   omega
theorem cntN_two {d p q:Nat→Bool}:∀{n:Nat},(∀j,j<n→d j=true→(p j != q j)=true)→cntN n (fun j=>d j&&p j)+cntN n (fun j=>d j&&q j)=cntN n d
 |0,_=>rfl
 |n+1,h=>by
  rw[cntN_succ,cntN_succ,cntN_succ]
  have ih:=cntN_two (n:=n) (d:=d) (p:=p) (q:=q) fun j hj=>h j (by omega)
  have h1:=h n (by omega)
  cases hd:d n
  ·simp only[Bool.false_and];simp;omega
  ·have h2:=h1 hd
   cases hp:p n<;>cases hq:q n<;>simp_all<;>omega
theorem InvI.done_ {n:Nat} {A X:Mx} {done:Nat→Bool} (h:InvI n A X done) (h0:∀j l,j<n→l<n→done j=false→done l=false→X j l=0):
  Iner n A (cntN n fun j=>done j&&decide (X j j<0)) (n - cntN n done) (cntN n fun j=>done j&&decide (0<X j j)):=by
 have hX:∀j l,j<n→l<n→X j l=dgM (fun j=>X j j) j l:=fun j l hj hl=>by
  unfold dgM
  by_cases e:j=l
  ·subst e;rw[if_pos rfl]
  ·rw[if_neg e]
   cases hd:done j with
   |true=>exact(h.dn j hj hd).2 l hl (Ne.symm e)
   |false=>
    cases hl2:done l with
    |true=>exact h.col hl hj hl2 e
    |false=>exact h0 j l hj hl hd hl2
 have hcg:=h.cg.congr hX
 have hund:∀j,j<n→done j=false→X j j=0:=fun j hj hd=>h0 j j hj hj hd hd
 refine⟨fun k=> ?_,fun k=> ?_, ?_⟩
 ·rw[hcg.posK,posK_dg]
  rw[cntN_congr (q:=fun j=>done j&&decide (0<X j j)) fun j hj=>by
   cases hd:done j
   ·rw[hund j hj hd];rfl
   ·rfl]
 ·rw[hcg.neg.posK,PosK.congr (B:=dgM fun j=> -1*X j j) fun i j _ _=>by unfold dgM;split<;>grind,posK_dg]
  rw[cntN_congr (q:=fun j=>done j&&decide (X j j<0)) fun j hj=>by
   cases hd:done j
   ·show decide (0< -1*X j j)=(false&&decide (X j j<0))
    rw[hund j hj hd,Bool.false_and];exact decide_eq_false (by grind)
   ·show decide (0< -1*X j j)=(true&&decide (X j j<0))
    rw[Bool.true_and]
    exact decide_eq_decide.2 ⟨fun g=>by grind,fun g=>by grind⟩]
 ·have h1:=cntN_two (n:=n) (d:=done) (p:=fun j=>decide (X j j<0)) (q:=fun j=>decide (0<X j j)) fun j hj hd=>by
   have h2:=(h.dn j hj hd).1
   by_cases g:X j j<0
   ·have g2:¬0<X j j:=by grind
    simp[g,g2]
   ·have g2:0<X j j:=by grind
    simp[g,g2]
  have h3:=cntN_le done n
  omega
end Go.Proofs.YtfjhnollamkdcaaGreatDoor
namespace Go.Proofs.YtfjhnollamkdcaaGreatDoor
open Go.Sx
set_option linter.unusedSimpArgs false
set_option linter.unusedVariables false
set_option maxRecDepth 100000
set_option maxHeartbeats 4000000
theorem Iner.congr {n m z p:Nat} {A B:Mx} (h:Iner n A m z p) (e:∀i k,i<n→k<n→A i k=B i k):Iner n B m z p where
 pos k:=by rw[←h.pos k];exact(PosK.congr e).symm
 neg k:=by rw[←h.neg k];exact(PosK.congr fun i k hi hk=>by rw[e i k hi hk]).symm
 sum:=h.sum
theorem Iner.cg {n m z p:Nat} {A B:Mx} (h:Iner n A m z p) (e:Cg n A B):Iner n B m z p where
 pos k:=by rw[←h.pos k];exact e.posK.symm
 neg k:=by rw[←h.neg k];exact e.neg.posK.symm
 sum:=h.sum
theorem posK_smul {n k:Nat} {A:Mx} {s:Rat} (hs:0<s):PosK n (fun i k=>s*A i k) k↔PosK n A k:=by
 have key:∀(s:Rat),0<s→∀B,PosK n B k→PosK n (fun i k=>s*B i k) k:=fun s hs B ⟨V,hV⟩=>⟨V,fun c hc=>by
  rw[qf_smul];exact Rat.mul_pos hs (hV c hc)⟩
 constructor
 ·intro h
  have hi:0<s⁻¹:=Rat.inv_pos.2 hs
  have:=key s⁻¹ hi _ h
  refine(PosK.congr fun i j _ _=> ?_).1 this
  have e:s*s⁻¹=1:=Rat.mul_inv_cancel _ (by grind)
  grind
 ·exact key s hs A
theorem Iner.smul {n m z p:Nat} {A:Mx} {s:Rat} (hs:0<s) (h:Iner n A m z p):Iner n (fun i k=>s*A i k) m z p where
 pos k:=by rw[posK_smul hs];exact h.pos k
 neg k:=by
  rw[←h.neg k,←posK_smul (A:=fun i k=> -1*A i k) hs]
  exact PosK.congr fun i j _ _=>by grind
 sum:=h.sum
theorem Iner.minus {n m z p:Nat} {A:Mx} (h:Iner n A m z p):Iner n (fun i k=> -1*A i k) p z m where
 pos:=h.neg
 neg k:=by rw[←h.pos k];exact PosK.congr fun i j _ _=>by grind
 sum:=by have:=h.sum;omega
theorem Iner.mono {n m z p m' z' p':Nat} {A B:Mx} (h:Iner n A m z p) (g:Iner n B m' z' p') (e:∀x,qf n A x≤qf n B x):p≤p'∧m'≤m:=by
 refine⟨(g.pos p).1 (((h.pos p).2 (Nat.le_refl _)).mono e),(h.neg m').1 (((g.neg m').2 (Nat.le_refl _)).mono fun x=> ?_)⟩
 rw[qf_smul,qf_smul]
 have:=e x
 grind
theorem qf_last {n:Nat} {A:Mx} {x:Nat→Rat} (h:x n=0):qf (n+1) A x=qf n A x:=by
 unfold qf
 rw[sumR,h,sum_zeros (n:=n+1) (f:=fun k=>0*A n k*x k) fun i _=>by grind]
 rw[sum_congr n (g:=fun i=>sumR n fun k=>x i*A i k*x k) fun i _=>by rw[sumR,h];grind]
 grind
theorem posK_all {n:Nat} {A:Mx} (h:PosK n A n) {y:Nat→Rat} (hy:∃i,i<n∧y i≠0):0<qf n A y:=by
 obtain⟨V,hV⟩:=h
 obtain⟨c,hc,h0⟩:=depend (Nat.lt_succ_self n) fun j i=>if j<n then V j i else y i
 have e:∀i,i<n→comb n c V i+c n*y i=0:=fun i hi=>by
  have:=h0 i hi
  rw[sumR,if_neg (Nat.lt_irrefl n),sum_congr n (g:=fun j=>c j*V j i) fun j hj=>by rw[if_pos hj]]at this
  exact this
 by_cases hcn:c n=0
 ·exfalso
  obtain⟨j,hj,hcj⟩:=hc
  have h1:=hV c ⟨j,by
   by_cases g:j=n
   ·rw[g]at hcj;exact absurd hcn hcj
   ·omega,hcj⟩
  rw[qf_congr (y:=fun _=>0) fun i hi=>by have:=e i hi;rw[hcn]at this;grind]at h1
  rw[show qf n A (fun _=>0)=0 from sum_zeros fun i _=>sum_zeros fun k _=>by grind]at h1
  exact absurd h1 (by decide)
 ·have hin:c n*(c n)⁻¹=1:=Rat.mul_inv_cancel _ hcn
  have e2:∀i,i<n→y i=comb n (fun j=> -(c n)⁻¹*c j) V i:=fun i hi=>by
   have h1:=e i hi
   have h2:comb n (fun j=> -(c n)⁻¹*c j) V i= -(c n)⁻¹*comb n c V i:=by
    show sumR n _= -(c n)⁻¹*sumR n _
    rw[←sum_smul]
    exact sum_congr n fun j _=>by grind
   rw[h2]
   grind
  rw[qf_congr e2]
  refine hV _ ?_
  refine Classical.byContradiction fun hno=> ?_
  obtain⟨i,hi,hyi⟩:=hy
  apply hyi
  rw[e2 i hi]
  exact sum_zeros fun j hj=>by
   have: -(c n)⁻¹*c j=0:=Classical.byContradiction fun g=>hno ⟨j,hj,g⟩
   show -(c n)⁻¹*c j*V j i=0
   rw[this];grind
theorem posK_of {n:Nat} {A:Mx} (h:∀y:Nat→Rat,(∃i,i<n∧y i≠0)→0<qf n A y):PosK n A n:=by
 refine⟨delta,fun c ⟨j,hj,hcj⟩=> ?_⟩
 have e:∀i,i<n→comb n c delta i=c i:=fun i hi=>by
  show sumR n (fun j=>c j*delta j i)=c i
  rw[sum_deltaR,if_pos hi]
 rw[qf_congr e]
 exact h c ⟨j,hj,hcj⟩
def bf (n:Nat) (A:Mx) (x y:Nat→Rat):Rat:=sumR n fun i=>x i*sumR n fun k=>A i k*y k
theorem qf_bf (n:Nat) (A:Mx) (x:Nat→Rat):qf n A x=bf n A x x:=sum_congr n fun i _=>by
 rw[←sum_smul];exact sum_congr n fun k _=>by grind
theorem bf_addL (n:Nat) (A:Mx) (x y z:Nat→Rat):bf n A (fun i=>x i+y i) z=bf n A x z+bf n A y z:=by
 unfold bf;rw[←sum_add];exact sum_congr n fun i _=>by grind
theorem bf_addR (n:Nat) (A:Mx) (x y z:Nat→Rat):bf n A z (fun i=>x i+y i)=bf n A z x+bf n A z y:=by
 unfold bf
 rw[←sum_add]
 refine sum_congr n fun i _=> ?_
 rw[sum_congr n (g:=fun k=>A i k*x k+A i k*y k) fun k _=>by grind,sum_add];grind
theorem bf_ker {n:Nat} {A:Mx} {u:Nat→Rat} (hu:Ker n n A u) (z:Nat→Rat):bf n A z u=0:=sum_zeros fun i hi=>by rw[hu i hi];grind
theorem bf_symm {n:Nat} {A:Mx} (h:SymX n A) (x y:Nat→Rat):bf n A x y=bf n A y x:=by
 unfold bf
 rw[sum_congr n (g:=fun i=>sumR n fun k=>x i*(A i k*y k)) fun i _=>(sum_smul _ _ _).symm,sum_swap]
 refine sum_congr n fun k hk=> ?_
 rw[←sum_smul]
 exact sum_congr n fun i hi=>by rw[h i k hi hk];grind
end Go.Proofs.YtfjhnollamkdcaaGreatDoor
namespace Go.Proofs.YtfjhnollamkdcaaGreatDoor
open Go.Sx
set_option linter.unusedSimpArgs false
set_option linter.unusedVariables false
set_option maxRecDepth 100000
set_option maxHeartbeats 4000000
theorem rfind_some {n i:Nat} {p:Nat→Bool} (h:(List.range n).find? p=some i):i<n∧p i=true∧∀j,j<i→p j=false:=by
 obtain⟨h1,h2,h3⟩:=List.find?_range_eq_some.1 h
 exact⟨List.mem_range.1 h2,h1,fun j hj=>by simpa using h3 j hj⟩
theorem rfind_none {n:Nat} {p:Nat→Bool} (h:(List.range n).find? p=none):∀j,j<n→p j=false:=fun j hj=>by
 have:=List.find?_eq_none.1 h j (List.mem_range.2 hj)
 simpa using this
def pkF (n:Nat) (X:Mx) (d:Nat→Bool) (i:Nat):Option Nat:=(List.range n).find? fun k=> !d k&&decide (X i k≠0)
def pivF (n:Nat) (X:Mx) (d:Nat→Bool):Option (Nat×Mx):=
 match (List.range n).find? fun i=> !d i&&decide (X i i≠0)with
 |some i=>some (i,X)
 |none=>match (List.range n).find? fun i=> !d i&&(pkF n X d i).isSome with
  |some i=>some (i,addM X i ((pkF n X d i).getD 0) 1)
  |none=>none
inductive PivC (n:Nat) (X:Mx) (d:Nat→Bool):Option (Nat×Mx)→Prop
 |diag {i}:i<n→d i=false→X i i≠0→(∀j,j<i→d j=true∨X j j=0)→PivC n X d (some (i,X))
 |mix {i k}:i<n→k<n→d i=false→d k=false→X i k≠0→(∀j,j<n→d j=true∨X j j=0)→(∀j l,j<n→l<n→(j<i∨(j=i∧l<k))→d j=true∨d l=true∨X j l=0)→PivC n X d (some (i,addM X i k 1))
 |none:(∀j,j<n→d j=true∨X j j=0)→(∀j l,j<n→l<n→d j=true∨d l=true∨X j l=0)→PivC n X d none
theorem pk_false {b:Bool} {x:Rat} (h:(!b&&decide (x≠0))=false):b=true∨x=0:=by
 cases b
 ·right;simpa using h
 ·left;rfl
theorem pivF_spec (n:Nat) (X:Mx) (d:Nat→Bool):PivC n X d (pivF n X d):=by
 unfold pivF
 cases h1:(List.range n).find? fun i=> !d i&&decide (X i i≠0)with
 |some i=>
  obtain⟨a1,a2,a3⟩:=rfind_some h1
  have a4:d i=false∧X i i≠0:=by simpa using a2
  exact .diag a1 a4.1 a4.2 fun j hj=>pk_false (a3 j hj)
 |none=>
  have b:=rfind_none h1
  have b':∀j,j<n→d j=true∨X j j=0:=fun j hj=>pk_false (b j hj)
  have rowz:∀j,(!d j&&(pkF n X d j).isSome)=false→∀l,l<n→d j=true∨d l=true∨X j l=0:=fun j hj l hl=>by
   cases hdj:d j
   ·right
    rw[hdj]at hj
    have:pkF n X d j=none:=by
     cases hk:pkF n X d j
     ·rfl
     ·rw[hk]at hj;cases hj
    exact pk_false (rfind_none this l hl)
   ·left;rfl
  cases h2:(List.range n).find? fun i=> !d i&&(pkF n X d i).isSome with
  |some i=>
   obtain⟨a1,a2,a3⟩:=rfind_some h2
   cases hk:pkF n X d i with
   |none=>simp[hk]at a2
   |some k=>
    obtain⟨c1,c2,c3⟩:=rfind_some hk
    have a4:d i=false:=by simp only[hk]at a2;simpa using a2
    have a5:d k=false∧X i k≠0:=by simpa using c2
    show PivC n X d (some (i,addM X i ((pkF n X d i).getD 0) 1))
    rw[hk]
    refine .mix (k:=k) a1 c1 a4 a5.1 a5.2 b' fun j l hj hl hjl=> ?_
    rcases hjl with g|⟨rfl,g⟩
    ·exact rowz j (a3 j g) l hl
    ·right;exact pk_false (c3 l g)
  |none=>exact .none b' fun j l hj hl=>rowz j (rfind_none h2 j hj) l hl
structure IS where
 X:Mx
 d:Nat→Bool
 left:Nat
 m:Nat
 p:Nat
def doneF (d:Nat→Bool) (i:Nat):Nat→Bool:=fun j=>cond (Nat.beq j i) true (d j)
def nextS (n:Nat) (s:IS) (i:Nat) (Y:Mx):IS:=⟨stF Y i n,doneF s.d i,s.left - 1,s.m+(if Y i i<0 then 1 else 0),s.p+if 0<Y i i then 1 else 0⟩
def inRun (n:Nat):Nat→IS→IS
 |0,s=>s
 |f+1,s=>match pivF n s.X s.d with
  |none=>s
  |some (i,Y)=>inRun n f (nextS n s i Y)
def startS (n:Nat) (A:Mx):IS:=⟨A,fun _=>false,n,0,0⟩
theorem doneF_eq (d:Nat→Bool) (i j:Nat):doneF d i j=(d j||decide (j=i)):=by
 unfold doneF
 by_cases e:j=i
 ·subst e;rw[Nat.beq_refl];simp
 ·rw[show Nat.beq j i=false from by
   cases h:Nat.beq j i with
   |false=>rfl
   |true=>exact absurd (Nat.eq_of_beq_eq_true h) e]
  simp[e]
structure GoodS (n:Nat) (A:Mx) (s:IS):Prop where
 inv:InvI n A s.X s.d
 m:s.m=cntN n fun j=>s.d j&&decide (s.X j j<0)
 p:s.p=cntN n fun j=>s.d j&&decide (0<s.X j j)
 left:s.left+cntN n s.d=n
theorem cntN_false (n:Nat):cntN n (fun _=>false)=0:=by
 induction n with
 |zero=>rfl
 |succ n ih=>rw[cntN_succ,ih];rfl
theorem GoodS.start {n:Nat} {A:Mx} (h:SymX n A):GoodS n A (startS n A):=by
 refine⟨.start h, ?_, ?_, ?_⟩
 ·exact((cntN_congr (q:=fun _=>false) fun j _=>rfl).trans (cntN_false n)).symm
 ·exact((cntN_congr (q:=fun _=>false) fun j _=>rfl).trans (cntN_false n)).symm
 ·show n+cntN n (fun _=>false)=n;rw[cntN_false];omega
theorem GoodS.piv {n i:Nat} {A Y:Mx} {s:IS} (h:GoodS n A s) (hp:pivF n s.X s.d=some (i,Y)):i<n∧s.d i=false∧Y i i≠0∧InvI n A Y s.d∧(∀j,j<n→s.d j=true→Y j j=s.X j j):=by
 have:=pivF_spec n s.X s.d
 rw[hp]at this
 cases this with
 |diag h1 h2 h3 h4=>exact⟨h1,h2,h3,h.inv,fun _ _ _=>rfl⟩
 |@mix i k h1 h2 h3 h4 h5 h6 h7=>
  have hm:=h.inv.mix h1 h2 h3 h4 (fun j hj hd=>(h6 j hj).resolve_left (by rw[hd];decide)) h5
  refine⟨h1,h3,hm.2,hm.1,fun j hj hd=> ?_⟩
  have hji:j≠i:=fun e=>by rw[e,h3]at hd;cases hd
  have hjk:k≠j:=fun e=>by rw[←e,h4]at hd;cases hd
  have h8:=(h.inv.dn j hj hd).2 k h2 hjk
  unfold addM
  simp only[if_neg hji];grind
theorem GoodS.next {n i:Nat} {A Y:Mx} {s:IS} (h:GoodS n A s) (hp:pivF n s.X s.d=some (i,Y)):GoodS n A (nextS n s i Y)∧0<s.left:=by
 obtain⟨h1,h2,h3,h4,h5⟩:=h.piv hp
 obtain⟨g1,g2,g3⟩:=h4.piv h1 h3
 have hc:=cntN_add (p:=s.d) (q:=doneF s.d i) h1 h2 fun j _ hne=>by rw[doneF_eq];simp[hne]
 have hdi:doneF s.d i i=true:=by rw[doneF_eq];simp
 rw[hdi]at hc
 simp only[if_true]at hc
 have hl:=h.left
 have hle:=cntN_le (doneF s.d i) n
 refine⟨⟨⟨g1.sym,g1.cg,fun j hj hd=>g1.dn j hj (by rw[←doneF_eq];exact hd)⟩, ?_, ?_, ?_⟩,by omega⟩
 ·show s.m+(if Y i i<0 then 1 else 0)=cntN n fun j=>doneF s.d i j&&decide (stF Y i n j j<0)
  rw[h.m,cntN_add (p:=fun j=>s.d j&&decide (s.X j j<0)) (q:=fun j=>doneF s.d i j&&decide (stF Y i n j j<0)) h1 (by simp[h2]) fun j hj hne=>by
   cases hd:s.d j
   ·rw[doneF_eq,hd];simp[hne]
   ·rw[doneF_eq,hd,g2 j hj hd,h5 j hj hd];simp]
  congr 1
  rw[hdi,g3];simp
 ·show s.p+(if 0<Y i i then 1 else 0)=cntN n fun j=>doneF s.d i j&&decide (0<stF Y i n j j)
  rw[h.p,cntN_add (p:=fun j=>s.d j&&decide (0<s.X j j)) (q:=fun j=>doneF s.d i j&&decide (0<stF Y i n j j)) h1 (by simp[h2]) fun j hj hne=>by
   cases hd:s.d j
   ·rw[doneF_eq,hd];simp[hne]
   ·rw[doneF_eq,hd,g2 j hj hd,h5 j hj hd];simp]
  congr 1
  rw[hdi,g3];simp
 ·show s.left - 1+cntN n (doneF s.d i)=n
  omega
theorem cntN_full {p:Nat→Bool}:∀{n:Nat},cntN n p=n→∀j,j<n→p j=true
 |0,_,j,hj=>by omega
 |n+1,h,j,hj=>by
  rw[cntN_succ]at h
  have h1:=cntN_le p n
  cases hp:p n with
  |false=>rw[hp]at h;simp at h;omega
  |true=>
   by_cases e:j=n
   ·rw[e];exact hp
   ·rw[hp]at h;simp at h;exact cntN_full h j (by omega)
theorem inRun_good {n:Nat} {A:Mx}:∀f (s:IS),s.left=f→GoodS n A s→Iner n A (inRun n f s).m (inRun n f s).left (inRun n f s).p
 |0,s,hf,h=>by
  have hl:=h.left
  have:=h.inv.done_ fun j l hj hl2 hd _=>by
   have:=cntN_full (p:=s.d) (n:=n) (by omega) j hj
   rw[this]at hd;cases hd
  rw[inRun,h.m,h.p,hf]
  rwa [show n - cntN n s.d=0 by omega]at this
 |f+1,s,hf,h=>by
  rw[inRun]
  cases hp:pivF n s.X s.d with
  |none=>
   have hs:=pivF_spec n s.X s.d
   rw[hp]at hs
   cases hs with
   |none h1 h2=>
    have:=h.inv.done_ fun j l hj hl2 hd hd2=>by
     rcases h2 j l hj hl2 with g|g|g
     ·rw[g]at hd;cases hd
     ·rw[g]at hd2;cases hd2
     ·exact g
    have hl:=h.left
    simp only
    rw[h.m,h.p]
    rwa [show n - cntN n s.d=s.left by omega]at this
  |some iy=>
   obtain⟨i,Y⟩:=iy
   have hn:=(h.next hp).1
   exact inRun_good f (nextS n s i Y) (by show s.left - 1=f;omega) hn
theorem inRun_iner {n:Nat} {A:Mx} (h:SymX n A):Iner n A (inRun n n (startS n A)).m (inRun n n (startS n A)).left (inRun n n (startS n A)).p:=inRun_good n (startS n A) rfl (.start h)
end Go.Proofs.YtfjhnollamkdcaaGreatDoor
namespace Go.Proofs.YtfjhnollamkdcaaGreatDoor
open Go.Sx
set_option linter.unusedSimpArgs false
set_option linter.unusedVariables false
set_option maxRecDepth 100000
set_option maxHeartbeats 4000000
theorem free_at {sp:List Nat} {k:Nat} (hn:k∉sp):∀c,k<c→(freeF sp k).length<(freeF sp c).length∧(freeF sp c).getD (freeF sp k).length 0=k
 |0,h=>by omega
 |c+1,h=>by
  rw[freeF_succ]
  by_cases e:k=c
  ·subst e
   rw[if_neg hn]
   exact⟨by rw[List.length_append];simp,by simp[List.getD_eq_getElem?_getD]⟩
  ·obtain⟨h1,h2⟩:=free_at hn c (by omega)
   refine⟨by rw[List.length_append];omega, ?_⟩
   rw[List.getD_eq_getElem?_getD,List.getElem?_append_left h1,←List.getD_eq_getElem?_getD,h2]
theorem free_mono {sp:List Nat} {k:Nat}:∀c,k≤c→(freeF sp k).length≤(freeF sp c).length
 |0,h=>by obtain rfl:k=0:=by omega
          exact Nat.le_refl _
 |c+1,h=>by
  by_cases e:k=c+1
  ·rw[e];exact Nat.le_refl _
  ·rw[freeF_succ,List.length_append]
   have:=free_mono (sp:=sp) (k:=k) c (by omega)
   omega
theorem KL_at {r c k:Nat} {a:List Rat} (hk:k<c) (hn:k∉pivL r c a):(freeF (pivL r c a) k).length<(KL r c a).length∧∀q,q<c→q∉pivL r c a→((KL r c a).getD (freeF (pivL r c a) k).length []).getD q 0=if q=k then 1 else 0:=by
 obtain⟨h1,h2⟩:=free_at hn c hk
 rw[←KL_len]at h1
 refine⟨h1,fun q hq hqn=> ?_⟩
 have h:=RW_re r c a
 rw[KL_get h1,h2,kvL_get h hk hn (Nat.le_refl c) (fun j _=>rwM_get hk) hq]
 by_cases e:q=k
 ·subst e;rw[if_pos rfl];exact kv_self h hn
 ·rw[if_neg e];exact kv_other hqn e
structure Upto (r c:Nat) (a b x:List Rat) (k:Nat) (u:List Rat):Prop where
 len:u.length=c
 sol:Sol r c a b fun q=>u.getD q 0
 at_:∀q,q<c→q∉pivL r c a→u.getD q 0=if q<k then x.getD q 0 else 0
theorem Upto.skip {r c k:Nat} {a b x u:List Rat} (h:Upto r c a b x k u) (hk:k∈pivL r c a):Upto r c a b x (k+1) u where
 len:=h.len
 sol:=h.sol
 at_:=fun q hq hn=>by
  rw[h.at_ q hq hn]
  have:q≠k:=fun e=>hn (e▸hk)
  by_cases g:q<k
  ·rw[if_pos g,if_pos (by omega)]
  ·rw[if_neg g,if_neg (by omega)]
theorem Upto.step {r c k:Nat} {a b x u w:List Rat} (h:Upto r c a b x k u) (hk:k<c) (hn:k∉pivL r c a) (hw:w.length=c)
  (hg:∀q,q<c→w.getD q 0=x.getD k 0*((KL r c a).getD (freeF (pivL r c a) k).length []).getD q 0+u.getD q 0):Upto r c a b x (k+1) w where
 len:=hw
 sol:=(Sol.add (x.getD k 0) h.sol (KL_ker (KL_at hk hn).1)).ext fun q hq=>(hg q hq).symm
 at_:=fun q hq hqn=>by
  rw[hg q hq,(KL_at hk hn).2 q hq hqn,h.at_ q hq hqn]
  by_cases e:q=k
  ·subst e;rw[if_pos rfl,if_neg (Nat.lt_irrefl q),if_pos (Nat.lt_succ_self q)];grind
  ·rw[if_neg e]
   by_cases g:q<k
   ·rw[if_pos g,if_pos (by omega)];grind
   ·rw[if_neg g,if_neg (by omega)];grind
theorem Upto.done {r c k:Nat} {a b x u:List Rat} (h:Upto r c a b x k u) (hx:x.length=c) (hs:Sol r c a b fun q=>x.getD q 0) (hk:k≤c) (he:(KL r c a).length≤(freeF (pivL r c a) k).length):u=x:=by
 refine vec_ext (n:=c) h.len hx (Sol.eq h.sol hs fun q hq hn=> ?_)
 rw[h.at_ q hq hn]
 by_cases g:q<k
 ·rw[if_pos g]
 ·exfalso
  have h1:=(free_at hn c hq).1
  have h2:=free_mono (sp:=pivL r c a) (k:=k) q (by omega)
  rw[KL_len]at he
  omega
end Go.Proofs.YtfjhnollamkdcaaGreatDoor
namespace Go.Proofs.YtfjhnollamkdcaaGreatDoor
open Go.Sx
set_option linter.unusedSimpArgs false
set_option linter.unusedVariables false
set_option maxRecDepth 100000
set_option maxHeartbeats 4000000
theorem InvI.dgX {n:Nat} {A X:Mx} {done:Nat→Bool} (h:InvI n A X done) (h0:∀j l,j<n→l<n→done j=false→done l=false→X j l=0):Cg n A (dgM fun j=>X j j):=by
 refine h.cg.congr fun j l hj hl=> ?_
 unfold dgM
 by_cases e:j=l
 ·subst e;rw[if_pos rfl]
 ·rw[if_neg e]
  cases hd:done j with
  |true=>exact(h.dn j hj hd).2 l hl (Ne.symm e)
  |false=>
   cases hl2:done l with
   |true=>exact h.col hl hj hl2 e
   |false=>exact h0 j l hj hl hd hl2
theorem inRun_dg {n:Nat} {A:Mx}:∀f (s:IS),s.left=f→GoodS n A s→∃d,Cg n A (dgM d)
 |0,s,hf,h=>by
  have hl:=h.left
  exact⟨_,h.inv.dgX fun j l hj hl2 hd _=>by
   have:=cntN_full (p:=s.d) (n:=n) (by omega) j hj
   rw[this]at hd;cases hd⟩
 |f+1,s,hf,h=>by
  cases hp:pivF n s.X s.d with
  |none=>
   have hs:=pivF_spec n s.X s.d
   rw[hp]at hs
   cases hs with
   |none h1 h2=>
    exact⟨_,h.inv.dgX fun j l hj hl2 hd hd2=>by
     rcases h2 j l hj hl2 with g|g|g
     ·rw[g]at hd;cases hd
     ·rw[g]at hd2;cases hd2
     ·exact g⟩
  |some iy=>
   obtain⟨i,Y⟩:=iy
   exact inRun_dg f (nextS n s i Y) (by show s.left - 1=f;omega) (h.next hp).1
theorem diag_ex {n:Nat} {A:Mx} (h:SymX n A):∃d,Cg n A (dgM d):=inRun_dg n (startS n A) rfl (.start h)
def idxQ (n:Nat) (P:Nat→Bool) (a:Nat):Nat:=((List.range n).filter P).getD a 0
def unitQ (n:Nat) (P:Nat→Bool):Mx:=fun j i=>if idxQ n P j=i then 1 else 0
theorem comb_unit {n k a:Nat} {P:Nat→Bool} {c:Nat→Rat} (hk:k≤cntN n P) (ha:a<k):comb k c (unitQ n P) (idxQ n P a)=c a:=by
 show sumR k (fun j=>c j*unitQ n P j (idxQ n P a))=c a
 rw[sum_one (j:=a) k ha fun b hb hne=>by unfold unitQ;rw[if_neg (show ¬idxQ n P b=idxQ n P a from fun e=>hne (filt_inj (by omega) (by omega) e))];grind]
 unfold unitQ;rw[if_pos rfl];grind
theorem comb_off {n k i:Nat} {P:Nat→Bool} {c:Nat→Rat} (hk:k≤cntN n P) (hp:P i=false):comb k c (unitQ n P) i=0:=
 sum_zeros fun b hb=>by
  unfold unitQ
  rw[if_neg (show ¬idxQ n P b=i from fun e=>by
   have:=(filt_get (n:=n) (p:=P) (a:=b) (by omega)).2
   unfold idxQ at e
   rw[e,hp]at this;cases this)]
  grind
theorem cntN_not (p:Nat→Bool):∀n,cntN n p+cntN n (fun i=> !p i)=n
 |0=>rfl
 |n+1=>by
  rw[cntN_succ,cntN_succ]
  have:=cntN_not p n
  cases p n<;>simp<;>omega
def NnK (n:Nat) (A:Mx) (k:Nat):Prop:=∃V:Mx,∀c:Nat→Rat,(∃j,j<k∧c j≠0)→qf n A (comb k c V)≤0∧∃i,i<n∧comb k c V i≠0
theorem Iso.ne {n:Nat} {T S:(Nat→Rat)→Nat→Rat} (h:Iso n T S) {x:Nat→Rat} (hx:∃i,i<n∧x i≠0):∃i,i<n∧T x i≠0:=by
 refine Classical.byContradiction fun hno=> ?_
 obtain⟨i,hi,hne⟩:=hx
 have hz:∀i,i<n→T x i=0:=fun i hi=>Classical.byContradiction fun g=>hno ⟨i,hi,g⟩
 apply hne
 rw[←h.inv' x i hi,h.lin'.cong _ (fun _=>0) hz i hi,h.lin'.zero hi]
theorem Cg.nnK {n k:Nat} {A B:Mx} (h:Cg n A B) (g:NnK n B k):NnK n A k:=by
 obtain⟨T,S,h1,h2⟩:=h
 obtain⟨V,hV⟩:=g
 refine⟨fun j=>T (V j),fun c hc=> ?_⟩
 obtain⟨g1,g2⟩:=hV c hc
 rw[h2]at g1
 have hT:=fun i hi=>h1.lin.combT c V k i hi
 refine⟨by rwa [←qf_congr hT], ?_⟩
 obtain⟨i,hi,hne⟩:=h1.ne g2
 exact⟨i,hi,by rwa [←hT i hi]⟩
theorem nnK_dg {n:Nat} {d:Nat→Rat}:NnK n (dgM d) (cntN n fun i=> !decide (0<d i)):=by
 refine⟨unitQ n fun i=> !decide (0<d i),fun c ⟨j,hj,hne⟩=>⟨?_, ?_⟩⟩
 ·rw[qf_dg]
  refine sum_np fun i hi=> ?_
  by_cases hd:0<d i
  ·rw[comb_off (Nat.le_refl _) (by simp[hd])];grind
  ·have h3:=sq_nn (comb (cntN n fun i=> !decide (0<d i)) c (unitQ n fun i=> !decide (0<d i)) i)
   have h4:=Rat.mul_nonneg (show(0:Rat)≤ - d i by grind) h3
   grind
 ·exact⟨idxQ n (fun i=> !decide (0<d i)) j,(filt_get (p:=fun i=> !decide (0<d i)) hj).1,by rw[comb_unit (Nat.le_refl _) hj];exact hne⟩
theorem Iner.semi {n m z p:Nat} {A:Mx} (hs:SymX n A) (h:Iner n A m z p):NnK n A (m+z):=by
 obtain⟨d,hd⟩:=diag_ex hs
 have h1:p=cntN n fun i=>decide (0<d i):=by
  have a1:=posK_dg.1 (hd.posK.1 ((h.pos p).2 (Nat.le_refl _)))
  have a2:=(h.pos _).1 (hd.posK.2 (posK_dg.2 (Nat.le_refl (cntN n fun i=>decide (0<d i)))))
  omega
 have h2:=cntN_not (fun i=>decide (0<d i)) n
 have h3:=h.sum
 have:=hd.nnK (nnK_dg (n:=n) (d:=d))
 rwa [show cntN n (fun i=> !decide (0<d i))=m+z by omega]at this
theorem Iner.strict {n m z p m' z' p':Nat} {A B:Mx} (hs:SymX n A) (h:Iner n A m z p) (g:Iner n B m' z' p') (e:∀x:Nat→Rat,(∃i,i<n∧x i≠0)→qf n B x<qf n A x):m+z≤m':=by
 obtain⟨V,hV⟩:=h.semi hs
 refine(g.neg _).1 ⟨V,fun c hc=> ?_⟩
 obtain⟨h1,h2⟩:=hV c hc
 have:=e _ h2
 rw[qf_smul]
 grind
def NulK (n:Nat) (A:Mx) (k:Nat):Prop:=∃V:Mx,∀c:Nat→Rat,(∃j,j<k∧c j≠0)→Ker n n A (comb k c V)∧∃i,i<n∧comb k c V i≠0
theorem bf_pol {n:Nat} {A:Mx} (h:SymX n A) (x y:Nat→Rat):qf n A (fun i=>x i+y i)=qf n A x+2*bf n A x y+qf n A y:=by
 rw[qf_bf,qf_bf,qf_bf,bf_addL,bf_addR,bf_addR,bf_symm h y x];grind
theorem Iso.ker {n:Nat} {T S:(Nat→Rat)→Nat→Rat} {A B:Mx} (h:Iso n T S) (e:∀x,qf n B x=qf n A (T x)) (hA:SymX n A) (hB:SymX n B) {y:Nat→Rat} (hy:Ker n n B y):Ker n n A (T y):=by
 have hbf:∀x,bf n A (T x) (T y)=bf n B x y:=fun x=>by
  have h1:=bf_pol hA (T x) (T y)
  have h2:=bf_pol hB x y
  have h3:qf n A (fun i=>T x i+T y i)=qf n A (T fun i=>x i+y i):=qf_congr fun i hi=>by
   have:=h.lin.lin 1 x y i hi
   rw[h.lin.cong (fun q=>1*x q+y q) (fun i=>x i+y i) (fun q _=>by grind) i hi]at this
   grind
  rw[h3,←e,←e,←e]at h1
  grind
 intro i hi
 have h1:=hbf (S (delta i))
 rw[bf_ker hy]at h1
 have h2:bf n A (T (S (delta i))) (T y)=sumR n fun k=>A i k*T y k:=by
  show sumR n (fun j=>T (S (delta i)) j*sumR n fun k=>A j k*T y k)=_
  rw[sum_congr n (g:=fun j=>delta i j*sumR n fun k=>A j k*T y k) fun j hj=>by rw[h.inv _ j hj],sum_deltaL,if_pos hi]
 rw[←h2];exact h1
theorem Iso.nulK {n k:Nat} {T S:(Nat→Rat)→Nat→Rat} {A B:Mx} (h:Iso n T S) (e:∀x,qf n B x=qf n A (T x)) (hA:SymX n A) (hB:SymX n B) (g:NulK n B k):NulK n A k:=by
 obtain⟨V,hV⟩:=g
 refine⟨fun j=>T (V j),fun c hc=> ?_⟩
 obtain⟨g1,g2⟩:=hV c hc
 have hT:=fun i hi=>h.lin.combT c V k i hi
 refine⟨(ker_ext hT).1 (h.ker e hA hB g1), ?_⟩
 obtain⟨i,hi,hne⟩:=h.ne g2
 exact⟨i,hi,by rwa [←hT i hi]⟩
theorem dgM_sym (n:Nat) (d:Nat→Rat):SymX n (dgM d):=fun j l _ _=>by
 unfold dgM
 by_cases e:j=l
 ·subst e;rfl
 ·rw[if_neg e,if_neg (Ne.symm e)]
theorem dg_app {n i:Nat} (d x:Nat→Rat) (hi:i<n):sumR n (fun k=>dgM d i k*x k)=d i*x i:=by
 rw[sum_one (j:=i) n hi fun k _ hne=>by unfold dgM;rw[if_neg (Ne.symm hne)];grind]
 unfold dgM;rw[if_pos rfl]
theorem nulK_dg {n k:Nat} {d:Nat→Rat}:NulK n (dgM d) k↔k≤cntN n fun i=>decide (d i=0):=by
 constructor
 ·rintro⟨V,hV⟩
  refine Nat.le_of_not_lt fun hlt=> ?_
  obtain⟨c,hc,h0⟩:=depend hlt fun j a=>V j (idxQ n (fun i=>decide (d i=0)) a)
  obtain⟨h1,i,hi,hne⟩:=hV c hc
  apply hne
  by_cases hd:d i=0
  ·obtain⟨a,ha,e⟩:=filt_mem (p:=fun i=>decide (d i=0)) hi (decide_eq_true hd)
   have:=h0 a ha
   rw[show idxQ n (fun i=>decide (d i=0)) a=i from e]at this
   exact this
  ·have:=h1 i hi
   rw[dg_app d _ hi]at this
   exact(Rat.mul_eq_zero.1 this).resolve_left hd
 ·intro hk
  refine⟨unitQ n fun i=>decide (d i=0),fun c ⟨j,hj,hne⟩=>⟨fun i hi=> ?_,idxQ n (fun i=>decide (d i=0)) j,(filt_get (p:=fun i=>decide (d i=0)) (by omega)).1,by rw[comb_unit hk hj];exact hne⟩⟩
  rw[dg_app d _ hi]
  by_cases hd:d i=0
  ·rw[hd];grind
  ·rw[comb_off hk (by simp[hd])];grind
theorem ker_sol {n:Nat} {a:List Rat} {x:Nat→Rat}:Ker n n (el a n) x↔Sol n n a [] x:=Iff.rfl
theorem nulK_el {n k:Nat} {a:List Rat}:NulK n (el a n) k↔k≤(KL n n a).length:=by
 constructor
 ·rintro⟨V,hV⟩
  refine Nat.le_of_not_lt fun hlt=> ?_
  obtain⟨c,hc,h0⟩:=depend hlt fun j b=>V j ((freeF (pivL n n a) n).getD b 0)
  obtain⟨h1,i,hi,hne⟩:=hV c hc
  apply hne
  exact(ker_sol.1 h1).eq (ker_sol.1 (ker_nil (r:=n) (c:=n) (w:=el a n))) (fun q hq hn=>by
   obtain⟨b1,b2⟩:=free_at hn n hq
   rw[←KL_len]at b1
   have:=h0 _ b1
   rw[b2]at this
   exact this) i hi
 ·intro hk
  refine⟨fun j i=>((KL n n a).getD j []).getD i 0,fun c ⟨j,hj,hne⟩=>⟨fun i hi=> ?_,(freeF (pivL n n a) n).getD j 0,(free_get (by rw[←KL_len];omega)).1, ?_⟩⟩
  ·show sumR n (fun q=>el a n i q*sumR k fun j=>c j*((KL n n a).getD j []).getD q 0)=0
   rw[sum_congr n (g:=fun q=>sumR k fun j=>c j*(el a n i q*((KL n n a).getD j []).getD q 0)) fun q _=>by
    rw[←sum_smul];exact sum_congr k fun j _=>by grind]
   rw[sum_swap]
   refine sum_zeros fun j hj=> ?_
   have:=KL_ker (r:=n) (c:=n) (a:=a) (i:=j) (by omega) i hi
   rw[sum_smul,this];grind
  ·show sumR k (fun b=>c b*((KL n n a).getD b []).getD _ 0)≠0
   rw[sum_one (j:=j) k hj fun b hb hbne=>by rw[KL_free (by omega) (by omega),if_neg (Ne.symm hbne)];grind]
   rw[KL_free (by omega) (by omega),if_pos rfl]
   grind
theorem Iner.rank {n m z p:Nat} {a:List Rat} (hs:SymX n (el a n)) (h:Iner n (el a n) m z p):z+(pivL n n a).length=n:=by
 obtain⟨d,T,S,h1,h2⟩:=diag_ex hs
 have hd:Cg n (el a n) (dgM d):=⟨T,S,h1,h2⟩
 have e1:(KL n n a).length=cntN n fun i=>decide (d i=0):=by
  have a1:=nulK_dg.1 (h1.symm.nulK (fun x=>by rw[h2];exact(qf_congr fun i hi=>h1.inv x i hi).symm) (dgM_sym n d) hs (nulK_el.2 (Nat.le_refl (KL n n a).length)))
  have a2:=nulK_el.1 (h1.nulK h2 hs (dgM_sym n d) (nulK_dg.2 (Nat.le_refl (cntN n fun i=>decide (d i=0)))))
  omega
 have e2:p=cntN n fun i=>decide (0<d i):=by
  have a1:=posK_dg.1 (hd.posK.1 ((h.pos p).2 (Nat.le_refl _)))
  have a2:=(h.pos _).1 (hd.posK.2 (posK_dg.2 (Nat.le_refl (cntN n fun i=>decide (0<d i)))))
  omega
 have hdn:∀i j,i<n→j<n→ -1*dgM d i j=dgM (fun i=> -1*d i) i j:=fun i j _ _=>by unfold dgM;split<;>grind
 have e3:m=cntN n fun i=>decide (0< -1*d i):=by
  have a1:=posK_dg.1 ((PosK.congr hdn).1 (hd.neg.posK.1 ((h.neg m).2 (Nat.le_refl _))))
  have a2:=(h.neg _).1 (hd.neg.posK.2 ((PosK.congr hdn).2 (posK_dg.2 (Nat.le_refl (cntN n fun i=>decide (0< -1*d i))))))
  omega
 have e4:∀k,cntN k (fun i=>decide (d i=0))+cntN k (fun i=>decide (0<d i))+cntN k (fun i=>decide (0< -1*d i))=k:=by
  intro k
  induction k with
  |zero=>rfl
  |succ k ih=>
   rw[cntN_succ,cntN_succ,cntN_succ]
   by_cases g:d k=0
   ·have g1:¬0<d k:=by grind
    have g2:¬0< -1*d k:=by grind
    simp only[g,g1,g2,decide_true,decide_false];simp;omega
   ·by_cases g1:0<d k
    ·have g2:¬0< -1*d k:=by grind
     simp only[g,g1,g2,decide_true,decide_false];simp;omega
    ·have g2:0< -1*d k:=by grind
     simp only[g,g1,g2,decide_true,decide_false];simp;omega
 have h3:=h.sum
 have h4:=e4 n
 have h5:=KL_cnt n n a
 omega
end Go.Proofs.YtfjhnollamkdcaaGreatDoor
namespace Go.Proofs.YtfjhnollamkdcaaGreatDoor
open Go.Sx
set_option linter.unusedSimpArgs false
set_option linter.unusedVariables false
set_option maxRecDepth 100000
set_option maxHeartbeats 4000000
def pcl (A M:Mx) (t:Rat):Mx:=fun i k=>A i k - t*M i k
theorem pcl_sym {n:Nat} {A M:Mx} (hA:SymX n A) (hM:SymX n M) (t:Rat):SymX n (pcl A M t):=fun i k hi hk=>by unfold pcl;rw[hA i k hi hk,hM i k hi hk]
theorem qf_pcl (n:Nat) (A M:Mx) (t:Rat) (x:Nat→Rat):qf n (pcl A M t) x=qf n A x - t*qf n M x:=by
 have:=qf_add n A (fun i k=>(-t)*M i k) x
 rw[qf_smul]at this
 rw[qf_congrA (B:=fun i k=>A i k+(-t)*M i k) fun i k _ _=>by unfold pcl;grind,this];grind
def PosX (n:Nat) (M:Mx):Prop:=∀x:Nat→Rat,(∃i,i<n∧x i≠0)→0<qf n M x
theorem qf_zero {n:Nat} {A:Mx} {x:Nat→Rat} (h:∀i,i<n→x i=0):qf n A x=0:=sum_zeros fun i hi=>sum_zeros fun k hk=>by rw[h i hi];grind
theorem PosX.nn {n:Nat} {M:Mx} (h:PosX n M) (x:Nat→Rat):0≤qf n M x:=by
 by_cases g:∃i,i<n∧x i≠0
 ·have:=h x g;grind
 ·rw[qf_zero fun i hi=>Classical.byContradiction fun e=>g ⟨i,hi,e⟩];exact Rat.le_refl
theorem Iner.shift {n m z p m' z' p':Nat} {A B M:Mx} {t x:Rat} (h:Iner n (pcl A M t) m z p) (g:Iner n (pcl B M (t+x)) m' z' p') (e:∀i k,i<n→k<n→B i k=A i k+x*M i k):m'=m∧z'=z∧p'=p:=
 g.unique (h.congr fun i k hi hk=>by unfold pcl;rw[e i k hi hk];grind)
theorem Iner.times {n m z p m' z' p':Nat} {A B M:Mx} {t s:Rat} (hs:0<s) (h:Iner n (pcl A M t) m z p) (g:Iner n (pcl B M (t*s)) m' z' p') (e:∀i k,i<n→k<n→B i k=s*A i k):m'=m∧z'=z∧p'=p:=
 g.unique ((h.smul hs).congr fun i k hi hk=>by unfold pcl;rw[e i k hi hk];grind)
theorem Iner.turn {n m z p m' z' p':Nat} {A B M:Mx} {t:Rat} (h:Iner n (pcl A M t) m z p) (g:Iner n (pcl B M (-t)) m' z' p') (e:∀i k,i<n→k<n→B i k= -1*A i k):m'=p∧z'=z∧p'=m:=
 g.unique (h.minus.congr fun i k hi hk=>by unfold pcl;rw[e i k hi hk];grind)
theorem Iner.up {n m z p m' z' p':Nat} {A M:Mx} {t t':Rat} (hM:PosX n M) (htt:t≤t') (h:Iner n (pcl A M t) m z p) (g:Iner n (pcl A M t') m' z' p'):m≤m'∧p'≤p:=by
 have:=g.mono h fun x=>by
  rw[qf_pcl,qf_pcl]
  have:=Rat.mul_nonneg (show(0:Rat)≤t' - t by grind) (hM.nn x)
  grind
 exact⟨this.2,this.1⟩
theorem Iner.past {n m z p m' z' p':Nat} {A M:Mx} {t t':Rat} (hA:SymX n A) (hS:SymX n M) (hM:PosX n M) (htt:t<t') (h:Iner n (pcl A M t) m z p) (g:Iner n (pcl A M t') m' z' p'):m+z≤m':=
 h.strict (pcl_sym hA hS t) g fun x hx=>by
  rw[qf_pcl,qf_pcl]
  have:=Rat.mul_pos (show(0:Rat)<t' - t by grind) (hM x hx)
  grind
theorem Iner.nn {n m z p:Nat} {A:Mx} (h:Iner n A m z p) (e:∀x,0≤qf n A x):m=0:=by
 refine Nat.eq_zero_of_not_pos fun hm=> ?_
 obtain⟨V,hV⟩:=(h.neg 1).2 hm
 have h1:=hV (fun _=>1) ⟨0,by omega,by decide⟩
 rw[qf_smul]at h1
 have:=e (comb 1 (fun _=>1) V)
 grind
theorem Iner.np {n m z p:Nat} {A:Mx} (h:Iner n A m z p) (e:∀x,qf n A x≤0):p=0:=h.minus.nn fun x=>by rw[qf_smul];have:=e x;grind
theorem PosX.iner {n m z p:Nat} {M:Mx} (hM:PosX n M) (h:Iner n M m z p):p=n:=by
 have h1:=(h.pos n).1 (posK_of hM)
 have h2:=h.sum
 omega
theorem PosX.of {n m z:Nat} {M:Mx} (h:Iner n M m z n):PosX n M:=fun _ hx=>posK_all ((h.pos n).2 (Nat.le_refl _)) hx
theorem PosX.cut {n:Nat} {M:Mx} (h:PosX (n+1) M):PosX n M:=fun x ⟨i,hi,hx⟩=>by
 have h1:=h (fun j=>if j<n then x j else 0) ⟨i,by omega,by simp only[if_pos hi];exact hx⟩
 rw[qf_last (if_neg (Nat.lt_irrefl n)),qf_congr (y:=x) fun j hj=>if_pos hj]at h1
 exact h1
theorem PosX.cg {n:Nat} {A B:Mx} (hA:PosX n A) (h:Cg n A B):PosX n B:=fun x hx=>by
 obtain⟨T,S,h1,h2⟩:=h
 rw[h2];exact hA _ (h1.ne hx)
theorem PosX.congr {n:Nat} {A B:Mx} (h:PosX n A) (e:∀i k,i<n→k<n→A i k=B i k):PosX n B:=fun x hx=>by rw[←qf_congrA e];exact h x hx
theorem cross_nn {K a x y:Rat} (h1: -K≤a) (h2:a≤K):0≤K*(x*x)+K*(y*y)+2*(x*a*y):=by
 have e1:=Rat.mul_nonneg (show(0:Rat)≤K+a by grind) (sq_nn (x+y))
 have e2:=Rat.mul_nonneg (show(0:Rat)≤K - a by grind) (sq_nn (x - y))
 grind
theorem sum_const (c:Rat):∀n:Nat,sumR n (fun _=>c)=n*c
 |0=>by simp[sumR]
 |n+1=>by rw[sumR,sum_const c n,Rat.natCast_add];grind
theorem qf_bound {n:Nat} {A:Mx} {K:Rat} (h:∀i k,i<n→k<n→ -K≤A i k∧A i k≤K) (x:Nat→Rat):0≤(n:Rat)*K*sumR n (fun i=>x i*x i)+qf n A x:=by
 have h1:0≤sumR n fun i=>sumR n fun k=>K*(x i*x i)+K*(x k*x k)+2*(x i*A i k*x k):=
  sum_nn fun i hi=>sum_nn fun k hk=>cross_nn (h i k hi hk).1 (h i k hi hk).2
 have h2:sumR n (fun i=>sumR n fun k=>K*(x i*x i)+K*(x k*x k)+2*(x i*A i k*x k))=(n:Rat)*K*sumR n (fun i=>x i*x i)+(n:Rat)*K*sumR n (fun i=>x i*x i)+2*qf n A x:=by
  rw[sum_congr n (g:=fun i=>((n:Rat)*K)*(x i*x i)+K*sumR n (fun k=>x k*x k)+2*sumR n (fun k=>x i*A i k*x k)) fun i _=>by
   rw[sum_add,sum_add,sum_const,sum_smul,sum_smul];grind]
  rw[sum_add,sum_add,sum_smul,sum_const,sum_smul]
  show _=_+2*qf n A x
  unfold qf;grind
 rw[h2]at h1
 grind
theorem far {n m z p m' z' p':Nat} {A M:Mx} {K r:Rat} (h:∀i k,i<n→k<n→ -K≤A i k∧A i k≤K) (hM:∀x,sumR n (fun i=>x i*x i)≤qf n M x) (hr:(n:Rat)*K≤r) (hr0:0≤r) (g1:Iner n (pcl A M (-r)) m z p) (g2:Iner n (pcl A M r) m' z' p'):m=0∧p'=0:=by
 have hs:∀x:Nat→Rat,0≤sumR n fun i=>x i*x i:=fun x=>sum_nn fun i _=>sq_nn _
 constructor
 ·refine g1.nn fun x=> ?_
  rw[qf_pcl]
  have h1:=qf_bound h x
  have h2:=Rat.mul_nonneg (show(0:Rat)≤r - n*K by grind) (hs x)
  have h3:=Rat.mul_nonneg hr0 (show(0:Rat)≤qf n M x - sumR n (fun i=>x i*x i) by have:=hM x;grind)
  grind
 ·refine g2.np fun x=> ?_
  rw[qf_pcl]
  have h1:=qf_bound (K:=K) (A:=fun i k=> -1*A i k) (fun i k hi hk=>by obtain⟨a1,a2⟩:=h i k hi hk;clear g1 g2 hM hs;constructor<;>grind) x
  rw[qf_smul]at h1
  have h2:=Rat.mul_nonneg (show(0:Rat)≤r - n*K by grind) (hs x)
  have h3:=Rat.mul_nonneg hr0 (show(0:Rat)≤qf n M x - sumR n (fun i=>x i*x i) by have:=hM x;grind)
  grind
theorem least {P:Nat→Prop}:∀{b:Nat},P b→∃e,e≤b∧P e∧∀k,k<e→¬P k
 |0,h=>⟨0,Nat.le_refl _,h,fun k hk=>by omega⟩
 |b+1,h=>by
  by_cases g:∃k,k≤b∧P k
  ·obtain⟨k,hk,hp⟩:=g
   have:∀b k,k≤b→P k→∃e,e≤b∧P e∧∀k,k<e→¬P k:=by
    intro b
    induction b with
    |zero=>intro k hk hp;exact⟨0,Nat.le_refl _,by rwa [show k=0 by omega]at hp,fun k hk=>by omega⟩
    |succ b ih=>
     intro k hk hp
     by_cases g:∃k,k≤b∧P k
     ·obtain⟨k,hk,hp⟩:=g
      obtain⟨e,h1,h2,h3⟩:=ih k hk hp
      exact⟨e,by omega,h2,h3⟩
     ·have:k=b+1:=Classical.byContradiction fun e=>g ⟨k,by omega,hp⟩
      subst this
      exact⟨b+1,Nat.le_refl _,hp,fun j hj hpj=>g ⟨j,by omega,hpj⟩⟩
   obtain⟨e,h1,h2,h3⟩:=this b k hk hp
   exact⟨e,by omega,h2,h3⟩
  ·exact⟨b+1,Nat.le_refl _,h,fun k hk hp=>g ⟨k,by omega,hp⟩⟩
structure Steps (m z:Rat→Nat):Prop where
 past:∀t t',t<t'→m t+z t≤m t'
theorem Steps.le {m z:Rat→Nat} (h:Steps m z) {t t':Rat} (g:t≤t'):m t+z t≤m t'+z t':=by
 by_cases e:t=t'
 ·rw[e];exact Nat.le_refl _
 ·have:=h.past t t' (by grind);omega
structure Brk (m z:Rat→Nat) (i:Nat) (step low high:Rat):Prop where
 mult:∃k:Int,high=k*step
 top:i<m high+z high
 or:(low=high∧m high≤i)∨(low=high - step∧i<m high∧m low+z low≤i)
theorem Brk.below {m z:Rat→Nat} {i:Nat} {step low high:Rat} (h:Brk m z i step low high):m low≤i:=by
 rcases h.or with⟨h1,h2⟩|⟨h1,h2,h3⟩
 ·rw[h1];exact h2
 ·omega
end Go.Proofs.YtfjhnollamkdcaaGreatDoor
namespace Go.Proofs.YtfjhnollamkdcaaGreatDoor
open Go.Sx
set_option linter.unusedSimpArgs false
set_option linter.unusedVariables false
set_option maxRecDepth 100000
set_option maxHeartbeats 4000000
abbrev mform (r c:Nat) (a v w:List Rat):Rat:=vdot v (mapply r c a w)
def SymM (n:Nat) (a:List Rat):Prop:=∀i k,i<n→k<n→el a n i k=el a n k i
theorem sym_turn {n:Nat} {a:List Rat} (ha:a.length=n*n) (h:SymM n a):mturn n n a=a:=mk_ext ha fun i k hi hk=>h k i hk hi
end Go.Proofs.YtfjhnollamkdcaaGreatDoor
namespace Go.Proofs.YtfjhnollamkdcaaGreatDoor
open Go.Sx
set_option linter.unusedSimpArgs false
set_option linter.unusedVariables false
section
open Go.Shelf Go.RowKit Go.Sort Go.Lib
set_option maxHeartbeats 6400000 in
set_option maxRecDepth 100000 in
theorem fmt_big (u:Nat) (hu:100≤u) (hu64:u<18446744073709551616) (w:World) (htab:Lib.TabIs Tryz.prog w "internal/strconv.uint64pow10" .u64 Lib.pow10Tab):
  Calls Tryz.prog 205 #[.int .u64 u,.int .i64 10] w fun e w'=>e= .returned (.string ⟨(Lib.decDigits u).toArray⟩)∧∃k os,w'=grow (w.drewN k) os:=by
 have mixed:Tryz.prog.follows .mixedOrders=true:=by kernel_rfl
 have t3:=Tryz.underlying3;have a3:=Tryz.isAgg3;have z3:=Tryz.sizeOf3;have v3:=Tryz.zeroValue3
 have t9:=Tryz.underlying9;have a9:=Tryz.isAgg9;have z9:=Tryz.sizeOf9;have v9:=Tryz.zeroValue9
 have t4:=Tryz.underlying4;have a4:=Tryz.isAgg4;have z4:=Tryz.sizeOf4;have v4:=Tryz.zeroValue4
 have t53:=Tryz.underlying41;have a53:=Tryz.isAgg41;have z53:=Tryz.sizeOf41;have v53:=Tryz.zeroValue41
 have t5:=Tryz.underlying5;have a5:=Tryz.isAgg5;have z5:=Tryz.sizeOf5;have v5:=Tryz.zeroValue5
 have t37:=Tryz.underlying218;have a37:=Tryz.isAgg218;have z37:=Tryz.sizeOf218;have v37:=Tryz.zeroValue218
 have t171:=Tryz.underlying278;have a171:=Tryz.isAgg278;have z171:=Tryz.sizeOf278;have v171:=Tryz.zeroValue278
 have t0:=Tryz.underlying0;have a0:=Tryz.isAgg0;have z0:=Tryz.sizeOf0;have v0:=Tryz.zeroValue0
 have e284:∀args w,(callFunc 224 args).run Tryz.prog w= .ok (.enter 224 args) w:=enters_of Tryz.func224 (by kernel_rfl) rfl
 have e285:∀args w,(callFunc 225 args).run Tryz.prog w= .ok (.enter 225 args) w:=enters_of Tryz.func225 (by kernel_rfl) rfl
 have hu1:1≤u:=by omega
 have hnd20:Lib.nDigits u≤20:=by have:=Lib.numDigits_eq u hu1 hu64;split at this<;>omega
 have hal:Tryz.prog.arrayLen 278=24:=by simp[Program.arrayLen,t171]
 have hsl:∀W,(Instr.sliceAt 278 (.pointer (some ⟨w.heap.size,0,none⟩)) none (some (.int .i64 (Lib.nDigits u:Int))) none).run Tryz.prog W= .ok (.slice (some ⟨w.heap.size,0,none⟩) (Lib.nDigits u) 24) W:=fun W=>by
  rw[run_sliceAt_array_h W 278 ⟨w.heap.size,0,none⟩ (by simp[Program.arrayLen,Program.elem,t171]) .i64 (Lib.nDigits u:Int) (by omega) (by rw[hal];omega)]
  go_simp
 have hH0:=Lib.holds_zero0 w 278 (Lib.nDigits u) (by omega)
 have hfmt:=Tryz.internal_strconv_formatBase10 w.heap.size 0 24 u (Array.replicate (Lib.nDigits u) 0) (w.alloc (.cells Lib.zeros24 278)) hH0 (by rw[Array.size_replicate];exact Lib.lt_pow_nDigits u) hu64 (by rw[Array.size_replicate];omega)
 rw[Array.size_replicate]at hfmt
 have HH0:=Lib.hid hH0
 have iu:¬(u:Int)<100:=by omega
 clear hH0 hal
 go_enter Tryz.func205,Tryz.ntmps205
 go_wp2_with (first
  |(go_at_fn 224;refine(Tryz.internal_strconv_numDigits u hu1 hu64 _ (Lib.tabIs_alloc htab _)).mono ?_;rintro e w' ⟨rfl,rfl⟩))
 go_at_fn 225
 refine hfmt.mono ?_
 rintro e w' ⟨rfl,k,v',dk,rfl,hF⟩
 have hcv:(convert 218 9 (.slice (some ⟨w.heap.size,0,none⟩) (Lib.nDigits u) 24)).run Tryz.prog ((putRow (fun(b:UInt8)=>Value.int .u8 (b.toNat:Int)) (w.alloc (.cells Lib.zeros24 278)) w.heap.size 0 dk).drewN k)= .ok (.string ⟨(Lib.decDigits u).toArray⟩) ((putRow (fun(b:UInt8)=>Value.int .u8 (b.toNat:Int)) (w.alloc (.cells Lib.zeros24 278)) w.heap.size 0 dk).drewN k):=by
  have h:=run_convert_bytes_back (P:=Tryz.prog) ((putRow (fun(b:UInt8)=>Value.int .u8 (b.toNat:Int)) (w.alloc (.cells Lib.zeros24 278)) w.heap.size 0 dk).drewN k) 218 9 5 ⟨w.heap.size,0,none⟩ 24 (Lib.decDigits u) t37 t5 t9 (fun j hj=>by
   rw[Lib.row_is_numeral hF j hj,Lib.add_plain,World.cell?_drewN]
   exact cell?_putRow (fun(b:UInt8)=>Value.int .u8 (b.toNat:Int)) _ w.heap.size 0 _ dk HH0.out (by rw[hF.size,Array.size_replicate]) j (by rw[hF.size];rw[Lib.decDigits_length]at hj;exact hj))
  rw[Lib.decDigits_length]at h
  exact h
 go_wp2
 go_ret
 obtain⟨os,eo⟩:=Lib.fin_at w (.cells Lib.zeros24 278) dk k 0
 exact⟨rfl,k,os,eo⟩
end
end Go.Proofs.YtfjhnollamkdcaaGreatDoor
namespace Go.Proofs.YtfjhnollamkdcaaGreatDoor
open Go.Sx
set_option linter.unusedSimpArgs false
set_option linter.unusedVariables false
set_option maxRecDepth 100000
set_option maxHeartbeats 4000000
def padF:Nat→Nat→List UInt8
 |0,_=>[]
 |k+1,r=>padF k (r/10)++[UInt8.ofNat (48+r % 10)]
theorem dec_big {n:Nat} (h:10≤n):Lib.decDigits n=Lib.decDigits (n/10)++[UInt8.ofNat (48+n % 10)]:=by rw[Lib.decDigits,dif_neg (by omega)]
theorem dec_lt {n:Nat} (h:n<10):Lib.decDigits n=[UInt8.ofNat (48+n)]:=by rw[Lib.decDigits,dif_pos h]
theorem dec_split:∀k q r,0<q→r<10^k→Lib.decDigits (q*10^k+r)=Lib.decDigits q++padF k r
 |0,q,r,hq,hr=>by
  obtain rfl:r=0:=by simp at hr;exact hr
  simp[padF]
 |k+1,q,r,hq,hr=>by
  have hp:0<10^k:=Nat.pow_pos (by decide)
  have e:q*10^(k+1)=10*(q*10^k):=by rw[Nat.pow_succ,←Nat.mul_assoc,Nat.mul_comm]
  have hqp:0<q*10^k:=Nat.mul_pos hq hp
  rw[Nat.pow_succ]at hr
  rw[dec_big (by omega),show(q*10^(k+1)+r)/10=q*10^k+r/10 by omega,show(q*10^(k+1)+r) % 10=r % 10 by omega,dec_split k q (r/10) hq (by omega),padF,List.append_assoc]
theorem pad_zero:∀k,padF k 0=List.replicate k 48
 |0=>rfl
 |k+1=>by rw[padF,Nat.zero_div,pad_zero k,List.replicate_succ'];rfl
theorem pad_dec:∀k r,r<10^k→0<k→padF k r=List.replicate (k - (Lib.decDigits r).length) 48++Lib.decDigits r∧(Lib.decDigits r).length≤k
 |0,r,h,h0=>by omega
 |k+1,r,h,_=>by
  by_cases h1:r<10
  ·rw[padF,show r/10=0 by omega,pad_zero,dec_lt h1,show r % 10=r by omega]
   exact⟨rfl,by simp⟩
  ·have hk:0<k:=by rcases Nat.eq_zero_or_pos k with g|g
                   ·subst g;simp at h;omega
                   ·exact g
   rw[Nat.pow_succ]at h
   obtain⟨h2,h3⟩:=pad_dec k (r/10) (by omega) hk
   have e:=dec_big (n:=r) (by omega)
   rw[padF,h2,e,List.length_append,List.append_assoc,List.length_singleton]
   exact⟨by rw[show k+1 - ((Lib.decDigits (r/10)).length+1)=k - (Lib.decDigits (r/10)).length by omega],by omega⟩
theorem pow_tab {ρ:Rho} {w:World} (h:∀b o,ρ.imm b=some o→w.heap[b]? =some o):Lib.TabIs Tryz.prog w "internal/strconv.uint64pow10" .u64 Lib.pow10Tab:=by
 obtain⟨o,h1,_,ty,fz,rfl⟩:=ρ.glob 2 .u64 Lib.pow10Tab (by decide+kernel)
 exact tab_is (g:=2) (by kernel_rfl) (h _ _ h1)
theorem call_valsT {f:FuncId} {vs:List Value} {v:Value} (hf:FnOK Tryz.prog f) (hv:v.oneCell'=true) (h:∀w:World,Lib.TabIs Tryz.prog w "internal/strconv.uint64pow10" .u64 Lib.pow10Tab→Calls Tryz.prog f vs.toArray w fun e w'=>e= .returned v∧RowKit.Below w.heap.size w w'):CallOK Tryz.prog f (vs.map .val) [] (.val v) [] []:=by
 refine .inl ⟨hf,fun ρ w z hz hp=> ?_⟩
 rw[zip_vals hz]
 refine(h w (pow_tab hp.imm)).mono ?_
 rintro e w' ⟨rfl,hb⟩
 exact⟨v,ρ,rfl,.of_below hb (has_val hv)⟩
theorem t_iFmtB (n:Nat) (h1:100≤n) (h2:n<18446744073709551616):CallOK Tryz.prog 205 [.val (.int .u64 (n:Nat)),.val (.int .i64 10)] [] (.val (.string (tN n))) [] []:=
 call_valsT (vs:=[.int .u64 (n:Nat),.int .i64 10]) ⟨Tryz.f205,Tryz.func205,rfl,by kernel_rfl⟩ rfl fun w ht=>by
  rw[tN_eq]
  refine(fmt_big n h1 h2 w ht).mono ?_
  rintro e w' ⟨rfl,k,os,rfl⟩
  exact⟨rfl,Lib.below_grow w.heap.size w (Nat.le_refl _) k os⟩
theorem t_FormatG (n:Nat) (h:n<18446744073709551616):CallOK Tryz.prog 172 [.val (.int .u64 (n:Nat)),.val (.int .i64 10)] [] (.val (.string (tN n))) [] []:=by
 by_cases hs:n<100
 ·exact t_Format n hs
 ·have k1:=t_iFmtB n (by omega) h
  refine callV (Z:=[]) tabOK mixedOK Tryz.func172 rfl (by kernel_rfl) rfl rfl (by kernel_rfl) rfl ?_
  intro W0 w0 ρ0 hE
  conv=>whnf
  (repeat(first|(refine g_c (by assumption) ?_;conv=>whnf)));(first|exact Recast.refl _|exact Frz.recast (Recast.refl _) rfl|(refine Frz.one rfl rfl ?_;skip)|(refine Frz.tup ?_;skip))
theorem t_Itoa (n:Nat) (h:n<9223372036854775808):CallOK Tryz.prog 175 [.val (.int .i64 (n:Nat))] [] (.val (.string (tN n))) [] []:=
 call_valsT (vs:=[.int .i64 (n:Nat)]) ⟨Tryz.f175,Tryz.func175,rfl,by kernel_rfl⟩ rfl fun w ht=>by
  rw[tN_eq]
  refine(Tryz.strconv_Itoa n (by omega) (by omega) w ht).mono ?_
  rintro e w' ⟨rfl,k,os,rfl⟩
  refine⟨?_,Lib.below_grow w.heap.size w (Nat.le_refl _) k os⟩
  rw[Lib.itoa_nonneg]
theorem t_Repeat (c:Nat) (hc:c≤100):CallOK Tryz.prog 176 [.val (.string ⟨#[48]⟩),.val (.int .i64 (c:Nat))] [] (.val (.string ⟨(List.replicate c 48).toArray⟩)) [] []:=
 call_vals (vs:=[.string ⟨#[48]⟩,.int .i64 (c:Nat)]) ⟨Tryz.f176,Tryz.func176,rfl,by kernel_rfl⟩ rfl fun w=>by
  have e:∀c,Lib.repeatL [48] c=List.replicate c 48:=fun c=>by
   induction c with
   |zero=>rfl
   |succ c ih=>show[48]++Lib.repeatL [48] c=_;rw[ih,List.replicate_succ,List.singleton_append]
  refine(Tryz.strings_Repeat ⟨#[48]⟩ c w (by omega) (by show 1*c≤_;omega)).mono ?_
  rintro e' w' ⟨rfl,hb⟩
  exact⟨by rw[show(⟨#[48]⟩:ByteArray).data.toList=[48]from rfl,e],hb⟩
abbrev sblk (ss:List ByteArray):Blk:=⟨9,true,.seq 1 (ss.map sel)⟩
theorem str_ext {a b:List ByteArray} {n:Nat} (ha:a.length=n) (hb:b.length=n) (h:∀i,i<n→a.getD i .empty=b.getD i .empty):a=b:=by
 refine List.ext_getElem (ha.trans hb.symm) fun i h1 h2=> ?_
 have:=h i (by omega)
 rwa [List.getD_eq_getElem?_getD,List.getD_eq_getElem?_getD,List.getElem?_eq_getElem h1,List.getElem?_eq_getElem h2]at this
theorem str_set {l:List ByteArray} {i j:Nat} {v:ByteArray} (hi:i<l.length):(l.set i v).getD j .empty=if i=j then v else l.getD j .empty:=by
 simp only[List.getD_eq_getElem?_getD,List.getElem?_set]
 by_cases h:i=j
 ·subst h;simp[hi]
 ·simp[h]
theorem str_rev {l:List ByteArray} {n k:Nat} (hl:l.length=n) (hk:k<n):l.reverse.getD k .empty=l.getD (n - 1 - k) .empty:=by
 simp only[List.getD_eq_getElem?_getD]
 rw[List.getElem?_reverse (by omega),hl]
theorem t_Reverse (ss:List ByteArray) (n:Nat) (hn:ss.length=n) (hl:n<1099511627776) (K:Nat):CallOK Tryz.prog 177 [.slc K 1 0 n] [(K,sblk ss)] (.tup []) [] [(K,sblk ss.reverse)]:=by
 have e0:IntKind.i64.wrap ((n:Int) - 1)=(n:Int) - 1:=wrap_i64 (by omega) (by omega)
 refine callK (Z:=[]) tabOK mixedOK Tryz.func177 rfl (by kernel_rfl) (args:=[.slc 1001 1 0 n]) (fk:=[(1001,sblk ss)]) (c:=.tup []) (new:=[]) (upd:=[(1001,sblk ss.reverse)]) (ShapeOK.of rfl rfl rfl rfl rfl rfl rfl rfl rfl rfl rfl) rfl (fun _=>K) NamesOK.upd ?_
 intro W0 w0 ρ0 hE
 conv=>whnf
 (repeat(first|(rw[e0];conv=>whnf)))
 refine SW_loopN hE (fun k=>k) [0,2,3] [1001] (fun q fr hp=>∃(i:Nat) (ys:List ByteArray),q=n - i∧(2*i≤n)∧ys.length=n∧(∀k,k<n→ys.getD k .empty=if k<i∨n - i≤k then ss.getD (n - 1 - k) .empty else ss.getD k .empty)∧
  fr=[(0,.slc 1001 1 0 n),(2,.val (.int .i64 (i:Nat))),(3,.val (.int .i64 ((n:Int) - 1 - i)))]∧hp=[(1001,sblk ys)]) n ?_ ?_ ?_
 ·kernel_rfl
 ·exact⟨0,ss,rfl,by omega,hn,(fun k hk=>by rw[if_neg (by omega)]),by rw[show(n:Int) - 1 - ((0:Nat):Int)=(n:Int) - 1 by omega];rfl,rfl⟩
 rintro q _ _ ⟨i,ys,rfl,hi,hy,hv,rfl,rfl⟩
 conv=>whnf
 by_cases hgo:i+i+1<n
 ·obtain⟨j,hj⟩:∃j,j=n - 1 - i:=⟨_,rfl⟩
  have ej:(n:Int) - 1 - i=(j:Int):=by omega
  rw[ej]
  have t1:decide ((i:Int)<(j:Int))=true:=decide_eq_true (by omega)
  have e1:=winc (i:=i) (by omega)
  have e2:IntKind.i64.wrap ((j:Int) - 1)=(n:Int) - 1 - ((i+1:Nat):Int):=by rw[wrap_i64 (by omega) (by omega)];omega
  have g1:(ys.map sel).getD i .any= .val (.string (ys.getD i .empty)):=by rw[map_get (d:=ByteArray.empty) (by omega)];rfl
  have g2:(ys.map sel).getD j .any= .val (.string (ys.getD j .empty)):=by rw[map_get (d:=ByteArray.empty) (by omega)];rfl
  have g3:((ys.map sel).set i (.val (.string (ys.getD j .empty)))).getD j .any= .val (.string (ys.getD j .empty)):=by rw[←g2,List.getD_eq_getElem?_getD,List.getElem?_set_ne (by omega),←List.getD_eq_getElem?_getD]
  have hlm:(ys.map sel).length=n:=by rw[List.length_map];exact hy
  have hset:(((ys.set i (ys.getD j .empty)).set j (ys.getD i .empty)).map sel)=((ys.map sel).set i (.val (.string (ys.getD j .empty)))).set j (.val (.string (ys.getD i .empty))):=by rw[List.map_set,List.map_set];rfl
  have hnew:∀k,k<n→((ys.set i (ys.getD j .empty)).set j (ys.getD i .empty)).getD k .empty=if k<i+1∨n - (i+1)≤k then ss.getD (n - 1 - k) .empty else ss.getD k .empty:=by
   intro k hk
   rw[str_set (by rw[List.length_set];omega),str_set (by omega)]
   by_cases h1:j=k
   ·rw[if_pos h1,if_pos (by omega),hv i (by omega),if_neg (by omega),show n - 1 - k=i by omega]
   ·rw[if_neg h1]
    by_cases h2:i=k
    ·rw[if_pos h2,if_pos (by omega),hv j (by omega),if_neg (by omega),show n - 1 - k=j by omega]
    ·rw[if_neg h2,hv k hk]
     by_cases h3:k<i∨n - i≤k
     ·rw[if_pos h3,if_pos (by omega)]
     ·rw[if_neg h3,if_neg (by omega)]
  (repeat((first|refine step_w1 rfl rfl ?_|refine step_i (by kernel_rfl) ?_|refine And.intro (by first|decide|omega|(simp only[tl0,dlen,List.length_replicate,List.length_set,List.length_map,List.length_zipWith,List.length_take,List.length_append,List.length_cons,List.length_nil];omega)) ?_|rw[t1]|rw[show 0+(i:Int).toNat=i from by omega]|rw[show 0+(j:Int).toNat=j from by omega]|rw[g1]|rw[g2]|rw[g3]|rw[e1]|rw[e2]);conv=>whnf))
  refine⟨n - (i+1),fun k=>k,[0,2,3],[1001],by omega,by kernel_rfl,i+1,_,rfl,by omega, ?_,hnew,rfl, ?_⟩
  ·rw[List.length_set,List.length_set];exact hy
  ·rw[sblk,hset];rfl
 ·have t1:decide ((i:Int)<(n:Int) - 1 - i)=false:=decide_eq_false (by omega)
  have e:ys=ss.reverse:=str_ext hy (by rw[List.length_reverse];exact hn) fun k hk=>by
   rw[hv k hk,str_rev hn hk]
   split
   ·rfl
   ·rw[show n - 1 - k=k by omega]
  rw[e]
  (repeat(first|(refine step_w2 rfl rfl ?_;conv=>whnf)|(rw[t1];conv=>whnf)))
  exact⟨Recast.refl _,(fun _ _ h=>by cases h),fun k b hm=>by simp only[List.mem_singleton,Prod.mk.injEq]at hm;obtain⟨rfl,rfl⟩:=hm;rfl⟩
theorem call_strsM {P:Program} {f:FuncId} {ss:List ByteArray} {n:Nat} {sep:ByteArray} {v:Value} {ty:TypeId} (hn:ss.length=n) (hf:FnOK P f) (hv:v.oneCell'=true)
  (h0:ss=[]→∀(a:Option Addr) (w:World),Calls P f #[.slice a 0 0,.string sep] w fun e w'=>e= .returned v∧w'=w)
  (h:∀(bk o c:Nat) (w:World),(∀(j:Nat) x,ss[j]? =some x→w.cell? ⟨bk,o+j,none⟩=some (.string x))→bk<w.heap.size→ss.length≤c→Calls P f #[.slice (some ⟨bk,o,none⟩) ss.length c,.string sep] w fun e w'=>e= .returned v∧RowKit.Below w.heap.size w w') (K:Nat):
  CallOK P f [.slc K 1 0 n,.val (.string sep)] [(K,⟨ty,true,.seq 1 (ss.map sel)⟩)] (.val v) [] []:=by
 subst hn
 refine .inl ⟨hf,fun ρ w z hz hp=> ?_⟩
 simp only[HasZ]at hz
 obtain⟨x,_,rfl,hx,y,_,rfl,hy,rfl⟩:=hz
 simp only[HasC]at hy
 obtain⟨rfl,_⟩:=hy
 have fin:∀(a:Value),(Calls P f #[a,.string sep] w fun e w'=>e= .returned v∧RowKit.Below w.heap.size w w')→Calls P f (List.zipWith mkV [.slc K 1 0 ss.length,SV.val (.string sep)] [[a],[.string sep]]).toArray w fun e w'=>∃v' ρ',e= .returned v'∧Post ρ w (.val v) [] [] v' ρ' w':=fun a hc=>by
  have e:(List.zipWith mkV [.slc K 1 0 ss.length,SV.val (.string sep)] [[a],[.string sep]]).toArray= #[a,.string sep]:=by simp[mkV,SV.isOne]
  rw[e]
  refine hc.mono ?_
  rintro e w' ⟨rfl,hb⟩
  exact⟨v,ρ,rfl,.of_below hb (has_val hv)⟩
 obtain⟨z,hz,hcase⟩:=blk_rows (hp.hfk K _ (List.mem_cons_self ..)) rfl rfl
 simp only[HasC]at hx
 rcases hx with⟨b,t,cap,e1,e2,e3,rfl⟩|⟨hn,a,rfl⟩
 ·rcases hcase with⟨b',t',ex,h1,h2,h3,h4⟩|⟨h1,_⟩
  ·rw[e1]at h1
   cases h1
   have hzf:∀(l:List ByteArray) (z:List (List Value)),HasZ (bareR ρ.imm ρ.glob) (l.map sel) z→z.flatten=l.map .string:=by
    intro l
    induction l with
    |nil=>intro z hz;simp only[List.map_nil,HasZ]at hz;subst hz;rfl
    |cons s l ih=>
     intro z hz
     simp only[List.map_cons,HasZ,sel,HasC]at hz
     obtain⟨x,r,rfl,⟨rfl,_⟩,h⟩:=hz
     simp[ih r h]
   refine fin _ ((h b 0 cap w (fun j x hj=> ?_) ?_ e2))
   ·rw[cell_of_row w b _ _ _ _ h2,List.getElem?_toArray,hzf ss z hz.2.1,Nat.zero_add]
    rw[List.getElem?_append_left (by rw[List.length_map];exact(List.getElem?_eq_some_iff.1 hj).1),List.getElem?_map,hj];rfl
   ·rcases Nat.lt_or_ge b w.heap.size with h'|h'
    ·exact h'
    ·simp[Array.getElem?_eq_none h']at h2
  ·rw[e1]at h1;cases h1
 ·refine fin _ ?_
  have hn:ss=[]:=List.length_eq_zero_iff.1 hn
  subst hn
  exact(h0 rfl a w).mono fun _ _ ⟨he,hw⟩=>⟨he,hw▸RowKit.Below.refl _ _⟩
theorem t_JoinM (ss:List ByteArray) (n:Nat) (hn:ss.length=n) (sep:ByteArray) (hN:ss.length≤1099511627776) (hlen:(Lib.join (ss.map (·.data.toList)) sep.data.toList).length≤140737488355328) (K:Nat):
  CallOK Tryz.prog 119 [.slc K 1 0 n,.val (.string sep)] [(K,sblk ss)] (.val (.string ⟨(Lib.join (ss.map (·.data.toList)) sep.data.toList).toArray⟩)) [] []:=by
 refine call_strsM hn ⟨Tryz.f119,Tryz.func119,rfl,by kernel_rfl⟩ rfl ?_ ?_ K
 ·rintro rfl a w
  exact Tryz.strings_Join_none a 0 sep w
 ·intro bk o c w hc hb hcap
  exact Tryz.strings_Join bk o c ss sep w hc hb (by omega) hcap hlen
end Go.Proofs.YtfjhnollamkdcaaGreatDoor
namespace Go.Proofs.YtfjhnollamkdcaaGreatDoor
open Go.Sx
set_option linter.unusedSimpArgs false
set_option linter.unusedVariables false
set_option maxRecDepth 100000
set_option maxHeartbeats 4000000
theorem dec_len:∀k n,n<2^k→(Lib.decDigits n).length≤k+1
 |0,n,h=>by
  obtain rfl:n=0:=by simp at h;exact h
  rw[dec_lt (by decide)];simp
 |k+1,n,h=>by
  by_cases h1:n<10
  ·rw[dec_lt h1];simp
  ·rw[dec_big (by omega),List.length_append,List.length_singleton]
   have:=dec_len k (n/10) (by rw[Nat.pow_succ]at h;omega)
   omega
def cat (ss:List ByteArray):List UInt8:=(ss.map (·.data.toList)).flatten
theorem join_empty (l:List (List UInt8)):Lib.join l []=l.flatten:=by
 cases l with
 |nil=>rfl
 |cons x r=>rw[Lib.join_cons,Lib.joinTail];simp
theorem cut_digs {v m:Nat} (h:v<4294967296^m):cutN (digs v m) m=(wInts v).length∧(wInts v).length≤m:=by
 have hlen:=digs_len v m
 have hv:=valI_digs v m
 rw[Nat.mod_eq_of_lt h]at hv
 have hc:=valI_cut (digs v m) m
 have hle:=cutN_le (digs v m) m
 have htop:=cutN_top (digs v m) m
 have:=wInts_of (cutN (digs v m) m) (digs v m) (digs_w32 v m) (by omega) htop
 rw[hc,hv,Int.toNat_natCast]at this
 have e:(wInts v).length=cutN (digs v m) m:=by rw[this,List.length_take];omega
 exact⟨e.symm,by omega⟩
theorem sz_div9 {v:Nat} (h:1000000000≤v):sz (v/1000000000)+29≤sz v:=by
 have h1:v<2^sz v:=sz_le.1 (Nat.le_refl _)
 have h2:29≤sz v:=by
  rcases Nat.lt_or_ge (sz v) 29 with g|g
  ·have:2^sz v≤2^29:=Nat.pow_le_pow_right (by decide) (by omega)
   omega
  ·exact g
 have h3:sz (v/1000000000)≤sz v - 29:=sz_le.2 (by
  rw[Nat.div_lt_iff_lt_mul (by decide)]
  have e:2^sz v=2^(sz v - 29)*2^29:=by rw[←Nat.pow_add];congr 1;omega
  have:2^(sz v - 29)*2^29≤2^(sz v - 29)*1000000000:=Nat.mul_le_mul_left _ (by decide)
  omega)
 omega
theorem tN_size9 {r:Nat} (h:r<1000000000):(tN r).size≤9:=by
 rw[tN_eq]
 show(Lib.decDigits r).toArray.size≤9
 have:=(pad_dec 9 r h (by decide)).2
 simpa using this
theorem pad_tN {r:Nat} (h:r<1000000000):((⟨(List.replicate (9 - (tN r).size) 48).toArray⟩:ByteArray)++tN r).data.toList=padF 9 r:=by
 have hs:(tN r).size=(Lib.decDigits r).length:=by rw[tN_eq];show(Lib.decDigits r).toArray.size=_;simp
 rw[(pad_dec 9 r h (by decide)).1,hs,tN_eq,ByteArray.data_append]
 simp
theorem cat_snoc (ps:List ByteArray) (s:ByteArray):cat (ps++[s]).reverse=s.data.toList++cat ps.reverse:=by simp[cat]
theorem wl_of {n M:Nat} (h:sz n≤M):(wInts n).length≤M:=len_le_of (Nat.lt_of_lt_of_le (sz_le.1 h) (Nat.pow_le_pow_left (by decide) M))
theorem t_NatB (n:Nat) (h:¬n<18446744073709551616) (hs:sz n≤1073741824):CallOK Tryz.prog 122 [.nat n] [] (.val (.string (tN n))) [] []:=by
 have hwl:(wInts n).length<1099511627776:=Nat.lt_of_le_of_lt (wl_of hs) (by decide)
 have k1:=c_words n 3001 hwl
 have e2:((big n).toList==(ByteArray.mk #[]).toList)=false:=by rw[big_eq];exact decide_eq_false h
 have hwa:=wArr_len n
 refine callF (Z:=[]) tabOK mixedOK Tryz.func122 rfl (by kernel_rfl) (by first|rfl|(simp[keylessL,keyless,keylessL_map, *];done)) (by first|rfl|(simp[keylessL,keyless,keylessL_map, *];done)) (by kernel_rfl) rfl ?_
 intro w0 ρ0 hE
 conv=>whnf
 (repeat((first|refine step_w2 rfl rfl ?_|refine g_cn (by assumption) rfl ?_|rw[e2]|rw[Nat.zero_add]);conv=>whnf))
 refine SWx_adopt (t:=3) (k:=2002) (s:=1) (blk:=sblk []) rfl rfl rfl ?_
 have hwn:=wInts_val n
 refine SW_loopN hE (fun k=>k) [3,4] [2002,3001] (fun q fr hp=>∃(v:Nat) (L:List Int) (ps:List ByteArray),q=v∧(wInts v).length≤L.length∧L.length<1099511627776∧W32 L∧valI L (wInts v).length=(v:Int)∧((v≠0∧Lib.decDigits n=Lib.decDigits v++cat ps.reverse∧ps.length*29+sz v≤sz n)∨(v=0∧Lib.decDigits n=cat ps.reverse∧ps.length*29≤sz n+29))∧
  fr=[(3,.slc 2002 1 0 ps.length),(4,.slc 3001 1 0 (wInts v).length)]∧hp=[(2002,sblk ps),(3001,⟨23,true,.ints .u32 L⟩)]) n ?_ ?_ ?_
 ·kernel_rfl
 ·have hwA:(wArr n)=wInts n:=by rw[wArr,if_neg h]
  refine⟨n,wArr n,[],rfl,hwa,by rw[hwA];exact hwl,by rw[hwA];exact wInts_w32 n,by rw[hwA];exact hwn,.inl ⟨by omega, ?_,by simp⟩,rfl,rfl⟩
  simp[cat]
 rintro q _ _ ⟨v,L,ps,rfl,hL,hLl,hLw,hLv,hrel,rfl,rfl⟩
 conv=>whnf
 have hpl:ps.length<1099511627776:=by rcases hrel with⟨_,_,g⟩|⟨_,_,g⟩<;>omega
 by_cases h0:0<q
 ·obtain⟨_,hdec,hlen⟩:=hrel.resolve_right (by omega)
  clear hrel
  have hm:=wInts_top (n:=q) (by omega)
  have t1:decide (((wInts q).length:Int)>0)=true:=decide_eq_true (by omega)
  have hqm:q<4294967296^(wInts q).length:=lt_of_len q
  have k2:=c_short L (wInts q).length hL (by omega) hLw 1000000000 (by decide) (by decide) 3001 3002 (by decide) true q hLv
  obtain⟨hcut,hcle⟩:=cut_digs (v:=q/1000000000) (m:=(wInts q).length) (Nat.lt_of_le_of_lt (Nat.div_le_self _ _) hqm)
  have hdl:=digs_len (q/1000000000) (wInts q).length
  have k3:=c_cut (digs (q/1000000000) (wInts q).length) (wInts q).length (by omega) (by omega) 3002 true
  rw[hcut]at k3
  have hr:q % 1000000000<1000000000:=Nat.mod_lt _ (by decide)
  have k4:=t_Itoa (q % 1000000000) (by omega)
  have e1:IntKind.i64.wrap ((q % 1000000000:Nat):Int)=((q % 1000000000:Nat):Int):=wrap_i64 (by omega) (by omega)
  have hsz:=tN_size9 hr
  have hdw:W32 (digs (q/1000000000) (wInts q).length):=digs_w32 _ _
  have hdv:valI (digs (q/1000000000) (wInts q).length) (wInts (q/1000000000)).length=((q/1000000000:Nat):Int):=by
   have h1:=valI_cut (digs (q/1000000000) (wInts q).length) (wInts q).length
   rw[hcut,valI_digs,Nat.mod_eq_of_lt (Nat.lt_of_le_of_lt (Nat.div_le_self _ _) hqm)]at h1
   exact h1
  have hqv:q/1000000000*1000000000+q % 1000000000=q:=by have:=Nat.div_add_mod q 1000000000;omega
  by_cases hq:1000000000≤q
  ·have hv0:0<q/1000000000:=Nat.div_pos hq (by decide)
   have hs9:=sz_div9 hq
   have hsplit:=dec_split 9 (q/1000000000) (q % 1000000000) hv0 hr
   rw[show 10^9=1000000000 from rfl,hqv,←pad_tN hr]at hsplit
   have hm2:=wInts_top (n:=q/1000000000) (by omega)
   have t2:decide (((wInts (q/1000000000)).length:Int)>0)=true:=decide_eq_true (by omega)
   have e2:IntKind.i64.wrap (9 - ((tN (q % 1000000000)).size:Int))=((9 - (tN (q % 1000000000)).size:Nat):Int):=by rw[wrap_i64 (by omega) (by omega)];omega
   have k5:=t_Repeat (9 - (tN (q % 1000000000)).size) (by omega)
   have hrs:(⟨(List.replicate (9 - (tN (q % 1000000000)).size) 48).toArray⟩:ByteArray).size=9 - (tN (q % 1000000000)).size:=by show(List.replicate _ _).toArray.size=_;simp
   have hob:(⟨(List.replicate (9 - (tN (q % 1000000000)).size) 48).toArray⟩:ByteArray).size+(tN (q % 1000000000)).size≤9223372036854775807:=by omega
   have hd2:Lib.decDigits n=Lib.decDigits (q/1000000000)++cat (ps++[(⟨(List.replicate (9 - (tN (q % 1000000000)).size) 48).toArray⟩:ByteArray)++tN (q % 1000000000)]).reverse:=by
    rw[hdec,hsplit,cat_snoc,List.append_assoc]
   clear hdec hsplit
   generalize (⟨(List.replicate (9 - (tN (q % 1000000000)).size) 48).toArray⟩:ByteArray)=z9 at*
   have hpm:(ps.map sel).length=ps.length:=List.length_map ..
   (repeat((first|refine step_w1 rfl rfl ?_|refine And.intro (by first|decide|omega|(simp only[tl0,dlen,List.length_replicate,List.length_set,List.length_map,List.length_zipWith,List.length_take,List.length_append,List.length_cons,List.length_nil];omega)) ?_|refine g_c (by assumption) ?_|refine g_c1 (by assumption) rfl ?_|refine g_c1n (by assumption) rfl rfl ?_|rw[t1]|rw[e1]|rw[t2]|rw[e2]);conv=>whnf))
   refine⟨q/1000000000,renBy [(41,2002),(3002,3001)],[3,4],[41,3002],by omega,by kernel_rfl,q/1000000000,_,ps++[z9++tN (q % 1000000000)],rfl,by rw[hdl];exact hcle,by omega,hdw,hdv,.inl ⟨by omega,hd2,by rw[List.length_append,List.length_singleton];omega⟩,by rw[List.length_append];rfl, ?_⟩
   have e9:sblk (ps++[z9++tN (q % 1000000000)])=⟨9,true,.seq 1 (List.take ps.length (ps.map sel)++List.take 1 (List.drop 0 [SV.val (.string (z9++tN (q % 1000000000)))]))⟩:=by
    rw[sblk,List.take_of_length_le (by omega),List.map_append];rfl
   rw[e9];rfl
  ·have hv0:q/1000000000=0:=Nat.div_eq_of_lt (by omega)
   have t2:decide (((wInts (q/1000000000)).length:Int)>0)=false:=by rw[hv0];rfl
   have hmod:q % 1000000000=q:=Nat.mod_eq_of_lt (by omega)
   have hd2:Lib.decDigits n=cat (ps++[tN (q % 1000000000)]).reverse:=by
    rw[hdec,cat_snoc,hmod,tN_eq]
   clear hdec
   have hpm:(ps.map sel).length=ps.length:=List.length_map ..
   (repeat((first|refine step_w1 rfl rfl ?_|refine step_w2 rfl rfl ?_|refine And.intro (by first|decide|omega|(simp only[tl0,dlen,List.length_replicate,List.length_set,List.length_map,List.length_zipWith,List.length_take,List.length_append,List.length_cons,List.length_nil];omega)) ?_|refine g_c (by assumption) ?_|refine g_c1 (by assumption) rfl ?_|refine g_c1n (by assumption) rfl rfl ?_|rw[t1]|rw[e1]|rw[t2]);conv=>whnf))
   refine⟨q/1000000000,renBy [(41,2002),(3002,3001)],[3,4],[41,3002],by omega,by kernel_rfl,q/1000000000,_,ps++[tN (q % 1000000000)],rfl,by rw[hdl];exact hcle,by omega,hdw,hdv,.inr ⟨hv0,hd2,by rw[List.length_append,List.length_singleton];omega⟩,by rw[List.length_append];rfl, ?_⟩
   have e9:sblk (ps++[tN (q % 1000000000)])=⟨9,true,.seq 1 (List.take ps.length (ps.map sel)++List.take 1 (List.drop 0 [SV.val (.string (tN (q % 1000000000)))]))⟩:=by
    rw[sblk,List.take_of_length_le (by omega),List.map_append];rfl
   rw[e9];rfl
 ·obtain rfl:q=0:=by omega
  obtain⟨_,hdec,_⟩:=hrel.resolve_left (fun h=>h.1 rfl)
  have t1:decide (((wInts 0).length:Int)>0)=false:=rfl
  have k2:=t_Reverse ps ps.length rfl (by omega) 2002
  have hdl:(Lib.decDigits n).length≤140737488355328:=by
   exact Nat.le_trans (dec_len (sz n) n (sz_le.1 (Nat.le_refl _))) (by omega)
  have k3:=t_JoinM ps.reverse ps.length (by rw[List.length_reverse]) ⟨#[]⟩ (by rw[List.length_reverse];omega) (by
   rw[show(⟨#[]⟩:ByteArray).data.toList=[]from rfl,join_empty]
   show(cat ps.reverse).length≤_
   rw[←hdec];exact hdl) 2002
  have e:(⟨(Lib.join (ps.reverse.map (·.data.toList)) (⟨#[]⟩:ByteArray).data.toList).toArray⟩:ByteArray)=tN n:=by
   rw[show(⟨#[]⟩:ByteArray).data.toList=[]from rfl,join_empty,tN_eq,hdec];rfl
  rw[e]at k3
  (repeat(first|(refine step_w2 rfl rfl ?_;conv=>whnf)|(refine g_c1 (by assumption) rfl ?_;conv=>whnf)|(refine g_c1u (by assumption) rfl rfl ?_;conv=>whnf)));(first|exact Recast.refl _|exact Frz.recast (Recast.refl _) rfl|(refine Frz.one rfl rfl ?_;skip)|(refine Frz.tup ?_;skip))
theorem tN_sizeG (n:Nat):(tN n).size≤sz n+1:=by
 rw[tN_eq]
 show(Lib.decDigits n).toArray.size≤_
 simpa using dec_len (sz n) n (sz_le.1 (Nat.le_refl _))
theorem t_NatG (n:Nat) (hs:sz n≤1073741824):CallOK Tryz.prog 122 [.nat n] [] (.val (.string (tN n))) [] []:=by
 by_cases h:n<18446744073709551616
 ·have k1:=t_FormatG n h
  have e1:low n=(n:Int):=low_small h
  have e2:((big n).toList==(ByteArray.mk #[]).toList)=true:=by rw[big_eq];exact decide_eq_true h
  refine callV (Z:=[]) tabOK mixedOK Tryz.func122 rfl (by kernel_rfl) rfl rfl (by kernel_rfl) rfl ?_
  intro W0 w0 ρ0 hE
  conv=>whnf
  (repeat((first|refine step_w1 rfl rfl ?_|refine g_c (by assumption) ?_|rw[e2]|rw[e1]);conv=>whnf));(first|exact Recast.refl _|exact Frz.recast (Recast.refl _) rfl|(refine Frz.one rfl rfl ?_;skip)|(refine Frz.tup ?_;skip))
 ·exact t_NatB n h hs
theorem t_IntG (z:Int) (h:sz z.natAbs≤1073741824):CallOK Tryz.prog 121 [.int z] [] (.val (.string (tZ z))) [] []:=by
 have k1:=t_NatG z.natAbs h
 have hs:=tN_sizeG z.natAbs
 have h1:(ByteArray.mk #[45]).size=1:=rfl
 have h2:(ByteArray.mk #[45]).size+(tN z.natAbs).size≤9223372036854775807:=by omega
 unfold tZ
 refine callV (Z:=[]) tabOK mixedOK Tryz.func121 rfl (by kernel_rfl) rfl rfl (by kernel_rfl) rfl ?_
 intro W0 w0 ρ0 hE
 conv=>whnf
 by_cases hz:z<0
 ·have t1:decide (z<0)=true:=decide_eq_true hz
  rw[if_pos hz]
  (repeat((first|refine step_w1 rfl rfl ?_|refine And.intro (by first|decide|omega|(simp only[tl0,dlen,List.length_replicate,List.length_set,List.length_map,List.length_zipWith,List.length_take,List.length_append,List.length_cons,List.length_nil];omega)) ?_|refine g_c (by assumption) ?_|rw[t1]);conv=>whnf));(first|exact Recast.refl _|exact Frz.recast (Recast.refl _) rfl|(refine Frz.one rfl rfl ?_;skip)|(refine Frz.tup ?_;skip))
 ·have t1:decide (z<0)=false:=decide_eq_false hz
  rw[if_neg hz]
  (repeat(first|(refine step_w2 rfl rfl ?_;conv=>whnf)|(refine g_c (by assumption) ?_;conv=>whnf)|(rw[t1];conv=>whnf)));(first|exact Recast.refl _|exact Frz.recast (Recast.refl _) rfl|(refine Frz.one rfl rfl ?_;skip)|(refine Frz.tup ?_;skip))
theorem tZ_sizeG (z:Int):(tZ z).size≤sz z.natAbs+2:=by
 have hs:=tN_sizeG z.natAbs
 unfold tZ
 split
 ·rw[ByteArray.size_append];have:("-".toUTF8).size=1:=rfl;omega
 ·omega
theorem t_FracG (q:Rat) (h:fs q≤1073741824):CallOK Tryz.prog 58 [.frac q] [] (.val (.string (tQ q))) [] []:=by
 have n1:=fsz_num q
 have n2:=fsz_den q
 unfold fs at h
 have kw:=c_Whole q
 have k1:=t_IntG q.num (by omega)
 have k2:=t_NatG q.den (by omega)
 have k3:=c_den natBig q (by omega)
 have hs:=tZ_sizeG q.num
 have hs2:=tN_sizeG q.den
 have h1:(ByteArray.mk #[47]).size=1:=rfl
 have h2:(tZ q.num).size+(ByteArray.mk #[47]).size≤9223372036854775807:=by omega
 have h3:(tZ q.num++(ByteArray.mk #[47])).size+(tN q.den).size≤9223372036854775807:=by rw[ByteArray.size_append];omega
 unfold tQ
 refine callV (Z:=[]) tabOK mixedOK Tryz.func58 rfl (by kernel_rfl) rfl rfl (by kernel_rfl) rfl ?_
 intro W0 w0 ρ0 hE
 conv=>whnf
 by_cases hd:q.den=1
 ·rw[decide_eq_true hd]at kw
  rw[if_pos hd]
  (repeat(first|(refine step_w1 rfl rfl ?_;conv=>whnf)|(refine g_c (by assumption) ?_;conv=>whnf)));(first|exact Recast.refl _|exact Frz.recast (Recast.refl _) rfl|(refine Frz.one rfl rfl ?_;skip)|(refine Frz.tup ?_;skip))
 ·rw[decide_eq_false hd]at kw
  rw[if_neg hd]
  (repeat((first|refine step_w2 rfl rfl ?_|refine step_i (by kernel_rfl) ?_|refine And.intro (by first|decide|omega|(simp only[tl0,dlen,List.length_replicate,List.length_set,List.length_map,List.length_zipWith,List.length_take,List.length_append,List.length_cons,List.length_nil];omega)) ?_|refine g_c (by assumption) ?_);conv=>whnf));(first|exact Recast.refl _|exact Frz.recast (Recast.refl _) rfl|(refine Frz.one rfl rfl ?_;skip)|(refine Frz.tup ?_;skip))
theorem tQ_size (q:Rat):(tQ q).size≤fs q+fs q+4:=by
 have n1:=fsz_num q
 have n2:=fsz_den q
 have hs:=tZ_sizeG q.num
 have hs2:=tN_sizeG q.den
 unfold fs
 unfold tQ
 split
 ·omega
 ·rw[ByteArray.size_append,ByteArray.size_append];have:("/".toUTF8).size=1:=rfl;omega
theorem join_size:∀(l:List (List UInt8)) (B:Nat),(∀x∈l,x.length≤B)→(Lib.join l [32]).length≤l.length*(B+1)
 |[],B,_=>by simp[Lib.join_nil]
 |[x],B,h=>by rw[Lib.join_one];have:=h x (List.mem_cons_self ..);simp;omega
 |x::y::l,B,h=>by
  have ih:=join_size (y::l) B (fun z hz=>h z (List.mem_cons_of_mem _ hz))
  have hx:=h x (List.mem_cons_self ..)
  have e:Lib.join (x::y::l) [32]=x++[32]++Lib.join (y::l) [32]:=by rw[Lib.join_cons,Lib.join_cons];simp[Lib.joinTail]
  rw[e]
  simp only[List.length_append,List.length_cons,List.length_nil]at*
  rw[Nat.succ_mul (l.length+1)]
  omega
theorem tV_join {a:List Rat} {B:Nat} (hl:a.length≤2048) (h:∀i,i<a.length→fs (a.getD i 0)≤B) (hB:B≤1000000000):(Lib.join ((a.map tQ).map (·.data.toList)) [32]).length≤140737488355328:=by
 refine Nat.le_trans (join_size _ (2*B+4) ?_) ?_
 ·intro x hx
  obtain⟨s,hs,rfl⟩:=List.mem_map.1 hx
  obtain⟨q,hq,rfl⟩:=List.mem_map.1 hs
  obtain⟨i,hi,rfl⟩:=mem_getD hq 0
  have h1:=tQ_size (a.getD i 0)
  have h2:=h i hi
  show(tQ (a.getD i 0)).data.toList.length≤_
  have:(tQ (a.getD i 0)).data.toList.length=(tQ (a.getD i 0)).size:=Array.length_toList
  omega
 ·rw[List.length_map,List.length_map]
  have:a.length*(2*B+4+1)≤2048*(2*B+4+1):=Nat.mul_le_mul_right _ hl
  omega
theorem t_VecG (a:List Rat) (B:Nat) (hl:a.length≤2048) (h:∀i,i<a.length→fs (a.getD i 0)≤B) (hB:B≤1000000000):CallOK Tryz.prog 55 [fvec a] [] (.val (.string (tV a))) [] []:=by
 have hJ:=tV_join hl h hB
 have hz:((a.map tQ).map sel).length=a.length:=by simp
 have hget:∀i,i<a.length→((a.map tQ).map sel).getD i .any= .val (.string (tQ (a.getD i 0))):=fun i hi=>by rw[map_get (d:=ByteArray.empty) (by simpa using hi),map_get (d:=0) hi];rfl
 have kj:=t_Join (a.map tQ) (by simp;omega) hJ
 refine callF (Z:=[]) tabOK mixedOK Tryz.func55 rfl (by kernel_rfl) (by first|rfl|(simp[keylessL,keyless,keylessL_map, *];done)) (by first|rfl|(simp[keylessL,keyless,keylessL_map, *];done)) (by kernel_rfl) rfl ?_
 intro w0 ρ0 hE
 conv=>whnf
 (repeat(first|(refine And.intro (by first|decide|omega|(simp only[tl0,dlen,List.length_replicate,List.length_set,List.length_map,List.length_zipWith,List.length_take,List.length_append,List.length_cons,List.length_nil];omega)) ?_;conv=>whnf)|(refine g_o (op_lenM rfl rfl rfl (ev_ok rfl) (tgt rfl) rfl) ?_;conv=>whnf)|(rw[Int.toNat_natCast];conv=>whnf)))
 refine SW_loopS hE (fun k=>k) [0,2,3,9,10,11] [8] (fun m fr hp=>∃i,m=a.length - i∧i≤a.length∧fr=[(0,fvec a),(2,.val (.string ⟨#[]⟩)),(3,.slc 8 1 0 a.length),(9,fvec a),(10,.val (.int .i64 (a.length:Nat))),(11,.val (.int .i64 (i:Nat)))]∧
  hp=[(8,⟨9,true,.seq 1 (((a.map tQ).map sel).take i++List.replicate (a.length - i) (.val (.string .empty)))⟩)]) a.length ?_ ?_ ?_
 ·kernel_rfl
 ·exact⟨0,rfl,Nat.zero_le _,rfl,rfl⟩
 rintro m _ _ ⟨i,rfl,hi,rfl,rfl⟩
 have hlen:=fill_len (d:=SV.val (.string .empty)) hi hz
 by_cases hlt:i<a.length
 ·have t1:=dlt hlt
  have t2:=winc (i:=i) (by omega)
  have k1:=t_FracG (a.getD i 0) (Nat.le_trans (h i hlt) (by omega))
  refine SWx.of hE ?_
  conv=>whnf
  have e3:=fill_get (d:=SV.val (.string .empty)) (e:=SV.any) hlt hz
  (repeat((first|refine step_w1 rfl rfl ?_|refine And.intro (by first|decide|omega|(simp only[tl0,dlen,List.length_replicate,List.length_set,List.length_map,List.length_zipWith,List.length_take,List.length_append,List.length_cons,List.length_nil];omega)) ?_|refine g_c (by assumption) ?_|refine g_o (op_indexN (α:=Rat) (d:=0) rfl (ev_ok rfl) (ev_ok rfl) (tgt rfl) rfl (tgt rfl) rfl (by omega)) ?_|refine g_o (op_loadA rfl (ev_ok rfl) (tgt rfl) rfl (Nat.succ_ne_zero _) rfl) ?_|rw[t1]|rw[e3]|rw[t2]|rw[Int.toNat_natCast]|rw[Nat.zero_add]);conv=>whnf))
  refine⟨a.length - (i+1),fun k=>k,[0,2,3,9,10,11],[8],by omega,by kernel_rfl,i+1,rfl,hlt,rfl, ?_⟩
  rw[←fill_set (e:=.any) hlt hz,hget i hlt]
  rfl
 ·have t1:=dge hlt
  have hI:i=a.length:=by omega
  subst hI
  rw[fill_all hz]
  refine SWx_freezeM 3 8 (fun _ h=>h) (fun _=>rfl) rfl rfl (by simp) ?_
  refine SWx.of hE ?_
  conv=>whnf
  have h91:(ByteArray.mk #[91]).size=1:=rfl
  have h93:(ByteArray.mk #[93]).size=1:=rfl
  have hjs:(ByteArray.mk (Lib.join ((a.map tQ).map (·.data.toList)) [32]).toArray).size=(Lib.join ((a.map tQ).map (·.data.toList)) [32]).length:=by show(Lib.join ((a.map tQ).map (·.data.toList)) [32]).toArray.size=_;simp
  have o1:(ByteArray.mk #[91]).size+(ByteArray.mk (Lib.join ((a.map tQ).map (·.data.toList)) [32]).toArray).size≤9223372036854775807:=by omega
  have o2:(ByteArray.mk #[91]++ByteArray.mk (Lib.join ((a.map tQ).map (·.data.toList)) [32]).toArray).size+(ByteArray.mk #[93]).size≤9223372036854775807:=by rw[ByteArray.size_append];omega
  (repeat((first|refine step_w2 rfl rfl ?_|refine And.intro (by first|decide|omega|(simp only[tl0,dlen,List.length_replicate,List.length_set,List.length_map,List.length_zipWith,List.length_take,List.length_append,List.length_cons,List.length_nil];omega)) ?_|refine g_c (by assumption) ?_|rw[t1]);conv=>whnf));(first|exact Recast.refl _|exact Frz.recast (Recast.refl _) rfl|(refine Frz.one rfl rfl ?_;skip)|(refine Frz.tup ?_;skip))
end Go.Proofs.YtfjhnollamkdcaaGreatDoor
namespace Go.Proofs.YtfjhnollamkdcaaGreatDoor
open Go.Sx
set_option linter.unusedSimpArgs false
set_option linter.unusedVariables false
set_option maxRecDepth 100000
set_option maxHeartbeats 4000000
abbrev iv (n:Int):SV:=.val (.int .i64 n)
abbrev mA (r c:Int) (a:List Rat):SV:=.agg [iv r,iv c,fvec a]
abbrev mC (r c:Int) (a:List Rat):List SV:=[iv r,iv c,fvec a]
abbrev MV:=Int×Int×List Rat
abbrev mB (m:MV):SV:=mA m.1 m.2.1 m.2.2
def sidesF (r c:Int):Int:=if r<0∨c<0 then 1 else if r>2048∨c>2048 then 3 else 0
theorem m_sides (r c:Int):CallOK Tryz.prog 100 [iv r,iv c] [] (iv (sidesF r c)) [] []:=by
 refine callV (Z:=[]) tabOK mixedOK Tryz.func100 rfl (by kernel_rfl) rfl rfl (by kernel_rfl) rfl ?_
 intro W0 w0 ρ0 hE
 conv=>whnf
 unfold sidesF
 by_cases h1:r<0
 ·have t1:decide (r<0)=true:=decide_eq_true h1
  rw[if_pos (.inl h1)]
  (repeat((first|refine step_w1 rfl rfl ?_|refine step_w2 rfl rfl ?_|refine g_o (op_pickT rfl (ev_ok rfl) (ev_ok rfl)) ?_|rw[t1]);conv=>whnf));(first|exact Recast.refl _|exact Frz.recast (Recast.refl _) rfl|(refine Frz.one rfl rfl ?_;skip)|(refine Frz.tup ?_;skip))
 have t1:decide (r<0)=false:=decide_eq_false h1
 by_cases h2:c<0
 ·have t2:decide (c<0)=true:=decide_eq_true h2
  rw[if_pos (.inr h2)]
  (repeat((first|refine step_w1 rfl rfl ?_|refine g_o (op_pickF rfl (ev_ok rfl) (ev_ok rfl)) ?_|rw[t1]|rw[t2]);conv=>whnf));(first|exact Recast.refl _|exact Frz.recast (Recast.refl _) rfl|(refine Frz.one rfl rfl ?_;skip)|(refine Frz.tup ?_;skip))
 have t2:decide (c<0)=false:=decide_eq_false h2
 rw[if_neg (by omega)]
 by_cases h3:r>2048
 ·have t3:decide (r>2048)=true:=decide_eq_true h3
  rw[if_pos (.inl h3)]
  (repeat((first|refine step_w1 rfl rfl ?_|refine step_w2 rfl rfl ?_|refine g_o (op_pickT rfl (ev_ok rfl) (ev_ok rfl)) ?_|refine g_o (op_pickF rfl (ev_ok rfl) (ev_ok rfl)) ?_|rw[t1]|rw[t2]|rw[t3]);conv=>whnf));(first|exact Recast.refl _|exact Frz.recast (Recast.refl _) rfl|(refine Frz.one rfl rfl ?_;skip)|(refine Frz.tup ?_;skip))
 have t3:decide (r>2048)=false:=decide_eq_false h3
 by_cases h4:c>2048
 ·have t4:decide (c>2048)=true:=decide_eq_true h4
  rw[if_pos (.inr h4)]
  (repeat((first|refine step_w1 rfl rfl ?_|refine step_w2 rfl rfl ?_|refine g_o (op_pickF rfl (ev_ok rfl) (ev_ok rfl)) ?_|rw[t1]|rw[t2]|rw[t3]|rw[t4]);conv=>whnf));(first|exact Recast.refl _|exact Frz.recast (Recast.refl _) rfl|(refine Frz.one rfl rfl ?_;skip)|(refine Frz.tup ?_;skip))
 have t4:decide (c>2048)=false:=decide_eq_false h4
 rw[if_neg (by omega)]
 (repeat((first|refine step_w1 rfl rfl ?_|refine step_w2 rfl rfl ?_|refine g_o (op_pickF rfl (ev_ok rfl) (ev_ok rfl)) ?_|rw[t1]|rw[t2]|rw[t3]|rw[t4]);conv=>whnf));(first|exact Recast.refl _|exact Frz.recast (Recast.refl _) rfl|(refine Frz.one rfl rfl ?_;skip)|(refine Frz.tup ?_;skip))
theorem sides_ok {r c:Int} (h:sidesF r c=0):(0≤r∧r≤2048)∧(0≤c∧c≤2048):=by
 unfold sidesF at h
 by_cases h1:r<0∨c<0
 ·rw[if_pos h1]at h;omega
 ·rw[if_neg h1]at h
  by_cases h2:r>2048∨c>2048
  ·rw[if_pos h2]at h;omega
  ·omega
theorem sides_of {r c:Int} (h:(0≤r∧r≤2048)∧(0≤c∧c≤2048)):sidesF r c=0:=by
 unfold sidesF;rw[if_neg (by omega),if_neg (by omega)]
theorem prod_le {r c:Int} (h:(0≤r∧r≤2048)∧(0≤c∧c≤2048)):0≤r*c∧r*c≤4194304:=by
 obtain⟨⟨a,b⟩,d,e⟩:=h
 refine⟨Int.mul_nonneg a d, ?_⟩
 exact Int.le_trans (Int.mul_le_mul b e d (by decide)) (by decide)
def checkF (r c:Int) (n:Nat):Int:=if sidesF r c≠0 then sidesF r c else if (n:Int)≠r*c then 1 else 0
theorem m_Check (r c:Int) (a:List Rat) (hn:a.length<1099511627776):CallOK Tryz.prog 77 [mA r c a] [] (iv (checkF r c a.length)) [] []:=by
 have k1:=m_sides r c
 refine callV (Z:=[]) tabOK mixedOK Tryz.func77 rfl (by kernel_rfl) rfl rfl (by kernel_rfl) rfl ?_
 intro W0 w0 ρ0 hE
 conv=>whnf
 unfold checkF
 by_cases h1:sidesF r c=0
 ·rw[if_neg (by omega)]
  rw[h1]at k1
  have hp:=prod_le (sides_ok h1)
  have t2:IntKind.i64.wrap (r*c)=r*c:=wrap_i64 (by omega) (by omega)
  by_cases h2:(a.length:Int)=r*c
  ·have t3:((a.length:Int) != r*c)=false:=by rw[h2];exact bne_self_eq_false _
   rw[if_neg (by omega)]
   clear hp
   (repeat((first|refine step_w2 rfl rfl ?_|refine g_c (by assumption) ?_|rw[bne_self_eq_false]|refine g_o (op_lenM rfl rfl rfl (ev_ok rfl) (tgt rfl) rfl) ?_|rw[t2]|rw[t3]);conv=>whnf));(first|exact Recast.refl _|exact Frz.recast (Recast.refl _) rfl|(refine Frz.one rfl rfl ?_;skip)|(refine Frz.tup ?_;skip))
  ·have t3:((a.length:Int) != r*c)=true:=bne_iff_ne.2 h2
   rw[if_pos h2]
   clear hp
   (repeat((first|refine step_w1 rfl rfl ?_|refine step_w2 rfl rfl ?_|refine g_c (by assumption) ?_|rw[bne_self_eq_false]|refine g_o (op_lenM rfl rfl rfl (ev_ok rfl) (tgt rfl) rfl) ?_|rw[t2]|rw[t3]);conv=>whnf));(first|exact Recast.refl _|exact Frz.recast (Recast.refl _) rfl|(refine Frz.one rfl rfl ?_;skip)|(refine Frz.tup ?_;skip))
 ·have t1:(sidesF r c != 0)=true:=bne_iff_ne.2 h1
  rw[if_pos h1]
  (repeat(first|(refine step_w1 rfl rfl ?_;conv=>whnf)|(refine g_c (by assumption) ?_;conv=>whnf)|(rw[t1];conv=>whnf)));(first|exact Recast.refl _|exact Frz.recast (Recast.refl _) rfl|(refine Frz.one rfl rfl ?_;skip)|(refine Frz.tup ?_;skip))
theorem check_ok {r c:Nat} {n:Nat} (hr:r≤2048) (hc:c≤2048) (hn:n=r*c):checkF r c n=0:=by
 unfold checkF
 rw[sides_of (by omega),if_neg (by omega),if_neg (by rw[hn];push_cast;omega)]
structure OKM (R C:Nat) (a:List Rat):Prop where
 r:R≤2048
 c:C≤2048
 n:a.length=R*C
theorem OKM.small {r c:Nat} {a:List Rat} (h:OKM r c a):a.length≤4194304:=by rw[h.n];exact Nat.mul_le_mul h.r h.c
theorem m_Check0 {r c:Nat} {a:List Rat} (h:OKM r c a):CallOK Tryz.prog 77 [mA r c a] [] (iv 0) [] []:=by
 have:=m_Check r c a (by have:=h.small;omega)
 rwa [check_ok h.r h.c h.n]at this
def allF:List MV→Int
 |[]=>0
 |m::l=>if checkF m.1 m.2.1 m.2.2.length≠0 then checkF m.1 m.2.1 m.2.2.length else allF l
theorem drop_one {α:Type} {l:List α} {i:Nat} (d:α) (h:i<l.length):l.drop i=l.getD i d::l.drop (i+1):=by
 rw[List.drop_eq_getElem_cons h,List.getD_eq_getElem?_getD,List.getElem?_eq_getElem h];rfl
abbrev nilM:MV:=(0,0,[])
theorem m_all (l:List MV) (hl:l.length<1099511627776) (h:∀m∈l,m.2.2.length<1099511627776):CallOK Tryz.prog 109 [mvec 3 mB l] [] (iv (allF l)) [] []:=by
 refine callV (Z:=[]) tabOK mixedOK Tryz.func109 rfl (by kernel_rfl) rfl rfl (by kernel_rfl) rfl ?_
 intro W0 w0 ρ0 hE
 conv=>whnf
 (repeat(first|(refine g_o (op_lenM rfl rfl rfl (ev_ok rfl) (tgt rfl) rfl) ?_;conv=>whnf)))
 refine SW_loopN hE (fun k=>k) [0,6,7,8] [] (fun m fr hp=>∃i:Nat,m=l.length - i∧i≤l.length∧allF (l.drop i)=allF l∧fr=[(0,mvec 3 mB l),(6,mvec 3 mB l),(7,iv (l.length:Nat)),(8,iv (i:Nat))]∧hp=[]) l.length ?_ ?_ ?_
 ·kernel_rfl
 ·exact⟨0,rfl,Nat.zero_le _,rfl,rfl,rfl⟩
 rintro m _ _ ⟨i,rfl,hi,hs,rfl,rfl⟩
 conv=>whnf
 by_cases hlt:i<l.length
 ·have t1:=dlt hlt
  have t2:=winc (i:=i) (by omega)
  have k1:=m_Check (l.getD i nilM).1 (l.getD i nilM).2.1 (l.getD i nilM).2.2 (h _ (getD_mem hlt))
  rw[drop_one nilM hlt,allF]at hs
  by_cases hc:checkF (l.getD i nilM).1 (l.getD i nilM).2.1 (l.getD i nilM).2.2.length=0
  ·rw[if_neg (by omega)]at hs
   rw[hc]at k1
   (repeat((first|refine step_w1 rfl rfl ?_|refine step_w2 rfl rfl ?_|refine g_c (by assumption) ?_|rw[bne_self_eq_false]|refine g_o (op_loadA rfl (ev_ok rfl) (tgt rfl) rfl (Nat.succ_ne_zero _) rfl) ?_|refine g_o (op_indexN (α:=MV) (d:=nilM) rfl (ev_ok rfl) (ev_ok rfl) (tgt rfl) rfl (tgt rfl) rfl (by omega)) ?_|rw[t1]|rw[t2]);conv=>whnf))
   exact⟨l.length - (i+1),fun k=>k,[0,6,7,8],[],by omega,by kernel_rfl,i+1,rfl,hlt,hs,rfl,rfl⟩
  ·have t3:(checkF (l.getD i nilM).1 (l.getD i nilM).2.1 (l.getD i nilM).2.2.length != 0)=true:=bne_iff_ne.2 hc
   rw[if_pos hc]at hs
   rw[←hs]
   (repeat((first|refine step_w1 rfl rfl ?_|refine g_c (by assumption) ?_|refine g_o (op_loadA rfl (ev_ok rfl) (tgt rfl) rfl (Nat.succ_ne_zero _) rfl) ?_|refine g_o (op_indexN (α:=MV) (d:=nilM) rfl (ev_ok rfl) (ev_ok rfl) (tgt rfl) rfl (tgt rfl) rfl (by omega)) ?_|rw[t1]|rw[t3]);conv=>whnf));(first|exact Recast.refl _|exact Frz.recast (Recast.refl _) rfl|(refine Frz.one rfl rfl ?_;skip)|(refine Frz.tup ?_;skip))
 ·have t1:=dge hlt
  have hI:i=l.length:=by omega
  rw[hI,List.drop_length]at hs
  rw[←hs]
  (repeat(first|(refine step_w2 rfl rfl ?_;conv=>whnf)|(rw[t1];conv=>whnf)));(first|exact Recast.refl _|exact Frz.recast (Recast.refl _) rfl|(refine Frz.one rfl rfl ?_;skip)|(refine Frz.tup ?_;skip))
theorem m_all1 {r c:Nat} {a:List Rat} (ha:OKM r c a):CallOK Tryz.prog 109 [mvec 3 mB [((r:Int),(c:Int),a)]] [] (iv 0) [] []:=by
 have:=m_all [((r:Int),(c:Int),a)] (by simp) (by
  intro m hm
  have h1:=ha.small
  simp only[List.mem_cons,List.not_mem_nil,or_false]at hm
  obtain rfl:=hm
  show a.length<_;omega)
 rwa [allF,if_neg (by rw[check_ok ha.r ha.c ha.n];decide),allF]at this
def shortF (l:List (List Rat)):Int:=if l.any (fun v=>decide (2048<v.length))then 3 else 0
theorem m_short (ls:List (List Rat)) (hn:ls.length<1099511627776) (hl:∀v∈ls,v.length<1099511627776):CallOK Tryz.prog 141 [mvec 1 fvec ls] [] (iv (shortF ls)) [] []:=by
 refine callV (Z:=[]) tabOK mixedOK Tryz.func141 rfl (by kernel_rfl) rfl rfl (by kernel_rfl) rfl ?_
 intro W0 w0 ρ0 hE
 conv=>whnf
 (repeat(first|(refine g_o (op_lenM rfl rfl rfl (ev_ok rfl) (tgt rfl) rfl) ?_;conv=>whnf)))
 refine SW_loopN hE (fun k=>k) [0,5,6,7] [] (fun m fr hp=>∃i:Nat,m=ls.length - i∧i≤ls.length∧(∀j,j<i→decide (2048<(ls.getD j []).length)=false)∧fr=[(0,mvec 1 fvec ls),(5,mvec 1 fvec ls),(6,iv (ls.length:Nat)),(7,iv (i:Nat))]∧hp=[]) ls.length ?_ ?_ ?_
 ·kernel_rfl
 ·exact⟨0,rfl,Nat.zero_le _,(fun j hj=>by omega),rfl,rfl⟩
 rintro m _ _ ⟨i,rfl,hi,hs,rfl,rfl⟩
 conv=>whnf
 by_cases hlt:i<ls.length
 ·have t1:=dlt hlt
  have t2:=winc (i:=i) (by omega)
  by_cases hL:2048<(ls.getD i []).length
  ·have t3:decide (((ls.getD i []).length:Int)>2048)=true:=decide_eq_true (by omega)
   have e:shortF ls=3:=by rw[shortF,if_pos (any_at (d:=[]) hlt (decide_eq_true hL))]
   rw[e]
   (repeat((first|refine step_w1 rfl rfl ?_|refine g_o (op_lenM rfl rfl rfl (ev_ok rfl) (tgt rfl) rfl) ?_|refine g_o (op_loadA rfl (ev_ok rfl) (tgt rfl) rfl (Nat.succ_ne_zero _) rfl) ?_|refine g_o (op_indexN (α:=List Rat) (d:=[]) rfl (ev_ok rfl) (ev_ok rfl) (tgt rfl) rfl (tgt rfl) rfl (by omega)) ?_|rw[t1]|rw[t3]);conv=>whnf));(first|exact Recast.refl _|exact Frz.recast (Recast.refl _) rfl|(refine Frz.one rfl rfl ?_;skip)|(refine Frz.tup ?_;skip))
  ·have t3:decide (((ls.getD i []).length:Int)>2048)=false:=decide_eq_false (by omega)
   (repeat((first|refine step_w1 rfl rfl ?_|refine step_w2 rfl rfl ?_|refine g_o (op_lenM rfl rfl rfl (ev_ok rfl) (tgt rfl) rfl) ?_|refine g_o (op_loadA rfl (ev_ok rfl) (tgt rfl) rfl (Nat.succ_ne_zero _) rfl) ?_|refine g_o (op_indexN (α:=List Rat) (d:=[]) rfl (ev_ok rfl) (ev_ok rfl) (tgt rfl) rfl (tgt rfl) rfl (by omega)) ?_|rw[t1]|rw[t3]|rw[t2]);conv=>whnf))
   refine⟨ls.length - (i+1),fun k=>k,[0,5,6,7],[],by omega,by kernel_rfl,i+1,rfl,hlt, ?_,rfl,rfl⟩
   intro j hj
   by_cases hji:j=i
   ·rw[hji];exact decide_eq_false hL
   ·exact hs j (by omega)
 ·have t1:=dge hlt
  have hI:i=ls.length:=by omega
  subst hI
  have e:shortF ls=0:=by rw[shortF,if_neg];rw[any_no [] hs];exact Bool.false_ne_true
  rw[e]
  (repeat(first|(refine step_w2 rfl rfl ?_;conv=>whnf)|(rw[t1];conv=>whnf)));(first|exact Recast.refl _|exact Frz.recast (Recast.refl _) rfl|(refine Frz.one rfl rfl ?_;skip)|(refine Frz.tup ?_;skip))
theorem idx_w {i k c:Nat} (hi:i≤2048) (hc:c≤2048) (hk:k≤2048):IntKind.i64.wrap ((i:Int)*(c:Int))=((i*c:Nat):Int)∧IntKind.i64.wrap (((i*c:Nat):Int)+(k:Int))=((i*c+k:Nat):Int):=by
 have h1:i*c≤2048*2048:=Nat.mul_le_mul hi hc
 constructor
 ·rw[←Int.natCast_mul,wrap_i64 (by omega) (by omega)]
 ·rw[wrap_i64 (by omega) (by omega)];omega
theorem m_at {r c:Nat} {a:List Rat} (h:OKM r c a) {i k:Nat} (hi:i<r) (hk:k<c):CallOK Tryz.prog 106 [mA r c a,iv i,iv k] [] (.frac (el a c i k)) [] []:=by
 obtain⟨t1,t2⟩:=idx_w (i:=i) (k:=k) (c:=c) (by have:=h.r;omega) h.c (by have:=h.c;omega)
 have hlt:=idx_lt hi hk
 rw[←h.n]at hlt
 refine callV (Z:=[]) tabOK mixedOK Tryz.func106 rfl (by kernel_rfl) rfl rfl (by kernel_rfl) rfl ?_
 intro W0 w0 ρ0 hE
 conv=>whnf
 (repeat((first|refine g_o (op_loadA rfl (ev_ok rfl) (tgt rfl) rfl (Nat.succ_ne_zero _) rfl) ?_|refine g_o (op_indexM (α:=Rat) (d:=0) rfl (ev_ok rfl) (ev_ok rfl) (tgt rfl) rfl (tgt rfl) rfl (by omega)) ?_|rw[t1]|rw[t2]|rw[Int.toNat_natCast]);conv=>whnf));(first|exact Recast.refl _|exact Frz.recast (Recast.refl _) rfl|(refine Frz.one rfl rfl ?_;skip)|(refine Frz.tup ?_;skip))
abbrev rowL (a:List Rat) (c i:Nat):List Rat:=(a.drop (i*c)).take c
theorem rowL_len {r c i:Nat} {a:List Rat} (hi:i<r) (h:a.length=r*c):(rowL a c i).length=c:=by
 have:=Nat.mul_le_mul_right c (show i+1≤r from hi)
 rw[Nat.succ_mul]at this
 rw[List.length_take,List.length_drop];omega
theorem rowL_get {a:List Rat} {c i k:Nat} (hk:k<c):(rowL a c i).getD k 0=el a c i k:=by
 simp[List.getD_eq_getElem?_getD,hk]
theorem row_w {i c:Nat} (hi:i≤2047) (hc:c≤2048):IntKind.i64.wrap ((i:Int)*(c:Int))=((i*c:Nat):Int)∧IntKind.i64.wrap (((i+1:Nat):Int)*(c:Int))=(((i+1)*c:Nat):Int)∧IntKind.i64.wrap ((i:Int)+1)=((i+1:Nat):Int):=
 ⟨(idx_w (i:=i) (k:=0) (by omega) hc (by omega)).1,(idx_w (i:=i+1) (k:=0) (by omega) hc (by omega)).1,winc (by omega)⟩
theorem m_rowV {r c:Nat} {a:List Rat} (h:OKM r c a) {i:Nat} (hi:i<r):CallOK Tryz.prog 123 [mA r c a,iv i] [] (fvec (rowL a c i)) [] []:=by
 obtain⟨t1,t2,t3⟩:=row_w (i:=i) (c:=c) (by have:=h.r;omega) h.c
 have hlt:=Nat.mul_le_mul_right c (show i+1≤r from hi)
 have hle:i*c≤(i+1)*c:=Nat.mul_le_mul_right c (by omega)
 rw[←h.n]at hlt
 have e1:(i+1)*c - i*c=c:=by rw[Nat.succ_mul];omega
 refine callV (Z:=[]) tabOK mixedOK Tryz.func123 rfl (by kernel_rfl) rfl rfl (by kernel_rfl) rfl ?_
 intro W0 w0 ρ0 hE
 conv=>whnf
 (repeat((first|refine step_i (by kernel_rfl) ?_|refine g_o (op_sliceM rfl (ev_ok rfl) (bound_spec rfl) (bound_spec rfl) (.inr ⟨Option.some_ne_none _,_,_,rfl,ev_ok rfl⟩) (tgt rfl) rfl (tgt rfl) rfl (by omega)) ?_|rw[t1]|rw[t3]|rw[t2]|rw[e1]|rw[Int.toNat_natCast]);conv=>whnf))
 (first|exact Recast.refl _|exact Frz.recast (Recast.refl _) rfl|(refine Frz.one rfl rfl ?_;skip)|(refine Frz.tup ?_;skip))
end Go.Proofs.YtfjhnollamkdcaaGreatDoor
