/- The texts Ek, Em, Ga, Gb, Gc, Gd, Ge, Shelf, Ha, Hb, Pa, Hd, Ja, Jb, Ta, Tb, Tc, Ka, Kb, Kc, Kd, Ke, Kg, Kf, Kh, Ra, Rb. -/
import Derived.Shelf.Strings.Builder1
import Derived.Shelf.Strings.Builder2
import Derived.Shelf.Strings.OnBuilder
import Derived.Shelf.Small.Bits
import Derived.Shelf.Strings.BuilderF
import Derived.Shelf.Strings.Builder2Cap
import Derived.Shelf.Strconv.Itoa0
import Derived.Shelf.Strconv.Itoa1
import Derived.Shelf.LaysM
import Derived.Shelf.Strconv.Itoa2
import Derived.Shelf.Strconv.Itoa3
import Derived.Shelf.Strings.Prefix
import Derived.Shelf.Bits.Mul64
import Derived.Shelf.Strings.Repeat
import Derived.Ground.Names2Prog
import Derived.Shelf.Slices.ReverseS
import Derived.Shelf.Slices.Cells
import Derived.Test.YtfpagioknjjacaaGreatDoorProg
import Derived.Lib.Walk
import Derived.Lib.ItoaMem
import Derived.Lib.AppendIntMem
import Derived.WalkKit
import Derived.BigCall
import Derived.BigGuard
import Derived.Test.YtfpagioknjjacaaGreatDoorQMMatsKnown4
namespace Go.Proofs.YtfpagioknjjacaaGreatDoor
open Go.Sx
set_option linter.unusedSimpArgs false
set_option linter.unusedVariables false
set_option maxRecDepth 100000
set_option maxHeartbeats 8000000
theorem c_Div (a b:Nat) (ha:(wInts a).length<274877906944) (hb:(wInts b).length<274877906944) (h0:b≠0):
  CallOK Tryz.prog 280 [.nat a,.nat b] [] (.tup [.nat (a/b),.nat (a % b),.val (.bool true)]) [] []:=by
 by_cases hs:a<18446744073709551616∧b<18446744073709551616
 ·exact s_Div a b hs.1 hs.2 h0
 have kz:=c_nZero b
 rw[decide_eq_false h0]at kz
 have kc:=c_Cmp a b (by omega) (by omega)
 have kb:=c_words b 1002 (by omega)
 have ka:=c_words a 1001 (by omega)
 by_cases hlt:a<b
 ·have t1:Hid (decide (((a:Int) - b).sign<0)=true):=show decide (((a:Int) - b).sign<0)=true from decide_eq_true (Int.sign_neg_iff.2 (by omega))
  rw[Nat.div_eq_of_lt hlt,Nat.mod_eq_of_lt hlt]
  refine callV (Z:=[]) tabOK mixedOK Tryz.func280 rfl (by kernel_rfl) rfl rfl (by kernel_rfl) rfl ?_
  intro W0 w0 ρ0 hE
  conv=>whnf
  (repeat((first|refine step_w1 rfl rfl ?_|refine step_w2 rfl rfl ?_|refine step_i (by kernel_rfl) ?_|refine g_c (by assumption) ?_|rw[t1.out]);conv=>whnf));exact Recast.refl _
 have t1:Hid (decide (((a:Int) - b).sign<0)=false):=show decide (((a:Int) - b).sign<0)=false from decide_eq_false (by have:=Int.sign_nonneg_iff.2 (show 0≤(a:Int) - b by omega);omega)
 have hbig:¬a<18446744073709551616:=by omega
 have hlen:(wInts b).length≤(wInts a).length:=len_le_of (Nat.lt_of_le_of_lt (Nat.le_of_not_lt hlt) (lt_of_len a))
 have hA:wArr a=wInts a:=if_neg hbig
 rw[hA]at ka
 have htop:=wt_top b
 have hb0:(wInts b).length≠0:=(wInts_top h0).1
 have hval:=wInts_val a
 have hvb:=wArr_val b
 have hbl:=wArr_len b
 have hbl2:(wArr b).length<549755813888:=by
  have:=wArr_len2 b (M:=274877906944) (by omega) (by omega)
  omega
 by_cases hone:(wInts b).length=1
 ·rw[hone]at kb hvb htop
  obtain⟨y,hy⟩:=Int.eq_ofNat_of_zero_le (wArr_w32 b 0).1
  have hy2:=(wArr_w32 b 0).2
  have hyb:y=b:=by
   rw[valI,valI,Int.pow_zero,hy]at hvb
   omega
  subst hyb
  have ks:=c_short (wInts a) (wInts a).length (Nat.le_refl _) (by omega) (wInts_w32 a) y h0 (by omega) 1001 2001 (by decide) true a hval
  have hq:(valI (digs (a/y) (wInts a).length) (wInts a).length).toNat=a/y:=by
   rw[valI_digs,Nat.mod_eq_of_lt (Nat.lt_of_le_of_lt (Nat.div_le_self _ _) (lt_of_len a))];exact Int.toNat_natCast _
  have ko:=c_of (digs (a/y) (wInts a).length) (wInts a).length (by rw[digs_len];exact Nat.le_refl _) (by rw[digs_len];omega) (digs_w32 _ _) 2001 true
  rw[hq]at ko
  have hr:a % y<y:=Nat.mod_lt _ (by omega)
  have i1:Hid (IntKind.u64.wrap ((a % y:Nat):Int)=((a % y:Nat):Int)):=show IntKind.u64.wrap ((a % y:Nat):Int)=((a % y:Nat):Int)from wu64 (by omega)
  have i2:Hid ((wArr y).getD (0+Int.toNat 0) 0=(y:Int)):=show(wArr y).getD (0+Int.toNat 0) 0=(y:Int)from hy
  refine callV (Z:=[]) tabOK mixedOK Tryz.func280 rfl (by kernel_rfl) rfl rfl (by kernel_rfl) rfl ?_
  intro W0 w0 ρ0 hE
  conv=>whnf
  (repeat(first|(refine step_w2 rfl rfl ?_;conv=>whnf)|(refine g_c (by assumption) ?_;conv=>whnf)|(rw[t1.out];conv=>whnf)))
  rw[big_eq,decide_eq_false hbig]
  (repeat((first|refine step_w1 rfl rfl ?_|refine step_w2 rfl rfl ?_|refine step_i (by kernel_rfl) ?_|refine step_oL (by first|omega|decide|(simp only[tl0,dlen,List.length_replicate,List.length_set,List.length_map,List.length_zipWith,List.length_take,List.length_append,List.length_cons,List.length_nil];omega)) ?_|refine step_oA (by first|omega|decide|(simp only[tl0,dlen,List.length_replicate,List.length_set,List.length_map,List.length_zipWith,List.length_take,List.length_append,List.length_cons,List.length_nil];omega)) ?_|refine g_cn (by assumption) rfl ?_|refine g_c1 (by assumption) rfl ?_|refine g_c1n (by assumption) rfl rfl ?_|rw[i2.out]|rw[i1.out]);conv=>whnf))
  refine recast_tup3 (fun _ _ h=>h) rfl (hasC_nat ?_ rfl (by omega)) rfl (fun _ _ h=>h) rfl
  rfl
 ·have hn2:2≤(wInts b).length:=by omega
  have htop':(wArr b).getD ((wInts b).length - 1) 0≠0:=htop.resolve_left hb0
  have hbg:4294967296^((wInts b).length - 1)≤b:=by
   have:=valI_ge (wArr_w32 b) htop'
   rw[show(wInts b).length - 1+1=(wInts b).length from by omega,hvb,←natPowW]at this
   omega
  have hqb:a/b<4294967296^((wInts a).length+1 - (wInts b).length):=by
   refine Nat.div_lt_of_lt_mul (Nat.lt_of_lt_of_le (lt_of_len a) ?_)
   have e:4294967296^(wInts a).length=4294967296^((wInts b).length - 1)*4294967296^((wInts a).length+1 - (wInts b).length):=by rw[←Nat.pow_add];congr 1;omega
   rw[e]
   exact Nat.mul_le_mul_right _ hbg
  have hrb:a % b<4294967296^((wInts a).length+1):=Nat.lt_of_le_of_lt (Nat.mod_le _ _) (Nat.lt_of_lt_of_le (lt_of_len a) (Nat.pow_le_pow_right (by decide) (by omega)))
  have kl:=CallOK.anyWr (c_long (wInts a) (wArr b) (wInts a).length (wInts b).length a b (Nat.le_refl _) hbl (by omega) hbl2 (wInts_w32 a) (wArr_w32 b) hval hvb hn2 htop' hlen 1001 1002 2001 2002 (by decide) (by decide) (by decide)) (fk:=[(1001,⟨23,true,.ints .u32 (wInts a)⟩),(1002,⟨23,true,.ints .u32 (wArr b)⟩)])
  have ko1:=c_of (digs (a/b) ((wInts a).length+1 - (wInts b).length)) ((wInts a).length+1 - (wInts b).length) (by rw[digs_len];exact Nat.le_refl _) (by rw[digs_len];omega) (digs_w32 _ _) 2001 true
  have ko2:=c_of (digs (a % b) ((wInts a).length+1)) ((wInts a).length+1) (by rw[digs_len];exact Nat.le_refl _) (by rw[digs_len];omega) (digs_w32 _ _) 2002 true
  rw[valI_digs,Nat.mod_eq_of_lt hqb,Int.toNat_natCast]at ko1
  rw[valI_digs,Nat.mod_eq_of_lt hrb,Int.toNat_natCast]at ko2
  have t2:Hid ((((wInts b).length:Int)==1)=false):=show(((wInts b).length:Int)==1)=false from by simp;omega
  have t3:Hid (decide (((wInts b).length:Int)=1)=false):=show decide (((wInts b).length:Int)=1)=false from by simp;omega
  refine callV (Z:=[]) tabOK mixedOK Tryz.func280 rfl (by kernel_rfl) rfl rfl (by kernel_rfl) rfl ?_
  intro W0 w0 ρ0 hE
  conv=>whnf
  (repeat(first|(refine step_w2 rfl rfl ?_;conv=>whnf)|(refine g_c (by assumption) ?_;conv=>whnf)|(rw[t1.out];conv=>whnf)))
  rw[big_eq,decide_eq_false hbig]
  (repeat((first|refine step_w2 rfl rfl ?_|refine g_cn (by assumption) rfl ?_|refine g_c1 (by assumption) rfl ?_|refine⟨[_,_],_,[_,_],[],(by assumption),two_fk rfl rfl,two_new rfl rfl,nil_upd, ?_⟩|rw[t2.out]);conv=>whnf))
  exact Recast.refl _
theorem c_Gcd (a b:Nat) (ha:(wInts a).length<274877906944) (hb:(wInts b).length<274877906944):
  CallOK Tryz.prog 178 [.nat a,.nat b] [] (.nat (Nat.gcd a b)) [] []:=by
 refine callV (Z:=[]) tabOK mixedOK Tryz.func178 rfl (by kernel_rfl) rfl rfl (by kernel_rfl) rfl ?_
 intro W0 w0 ρ0 hE
 conv=>whnf
 refine SW_loopN hE (fun k=>k) [2,3,4] [2,3,4] (fun m fr hp=>∃x,(wInts x).length<274877906944∧(wInts m).length<274877906944∧Nat.gcd x m=Nat.gcd a b∧fr=[(2,.ptr 2 0 0 0),(3,.ptr 3 0 0 0),(4,.ptr 4 0 0 0)]∧hp=[(2,⟨46,true,.one [.nat x]⟩),(3,⟨46,true,.one [.nat m]⟩),(4,⟨46,true,.one [.nat 0]⟩)]) b ?_ ?_ ?_
 ·kernel_rfl
 ·exact⟨a,ha,hb,rfl,rfl,rfl⟩
 rintro m _ _ ⟨x,hx,hm,hg,rfl,rfl⟩
 have kz:=c_nZero m
 by_cases h0:m=0
 ·rw[decide_eq_true h0]at kz
  subst h0
  rw[←hg,Nat.gcd_zero_right]
  conv=>whnf
  (repeat(first|(refine step_w2 rfl rfl ?_;conv=>whnf)|(refine g_c (by assumption) ?_;conv=>whnf)));exact Recast.refl _
 ·rw[decide_eq_false h0]at kz
  have kd:=c_Div x m hx hm h0
  have hlt:=Nat.mod_lt x (Nat.pos_of_ne_zero h0)
  conv=>whnf
  (repeat(first|(refine step_w1 rfl rfl ?_;conv=>whnf)|(refine step_i (by kernel_rfl) ?_;conv=>whnf)|(refine g_c (by assumption) ?_;conv=>whnf)))
  refine⟨x % m,fun k=>k,[2,3,4],[2,3,4],hlt,by kernel_rfl,m,hm, ?_, ?_,rfl,rfl⟩
  ·exact Nat.lt_of_le_of_lt (len_le_of (Nat.lt_trans hlt (lt_of_len m))) hm
  ·rw[←hg,Nat.gcd_comm m,←Nat.gcd_rec,Nat.gcd_comm]
end Go.Proofs.YtfpagioknjjacaaGreatDoor
namespace Go.Proofs.YtfpagioknjjacaaGreatDoor
open Go.Sx
set_option linter.unusedSimpArgs false
set_option linter.unusedVariables false
theorem len_sz {n:Nat} (h:sz n≤1073741824):(wInts n).length<274877906944:=by
 have:=wlen_sz (n:=n) (M:=33554432) (by omega)
 omega
theorem natBig:NatOK 1073741824 where
 big:=by decide
 cmp a b ha hb:=c_Cmp a b (by have:=len_sz ha;omega) (by have:=len_sz hb;omega)
 add a b h:=n_Add a b (by have:=len_sz (n:=a) (Nat.le_trans (sz_mono (by omega)) h);omega) (by have:=len_sz (n:=b) (Nat.le_trans (sz_mono (by omega)) h);omega)
 sub a b ha h:=n_Sub a b (by have:=len_sz ha;omega) h
 subF a b hb h:=c_SubF a b (by have:=len_sz hb;have:=len_le_of (Nat.lt_trans h (lt_of_len b));omega) (by have:=len_sz hb;omega) h
 mul a b h:=n_Mul a b (len_sz (by omega)) (len_sz (by omega))
 div a b ha hb h0:=c_Div a b (len_sz ha) (len_sz hb) h0
 divZ a:=c_DivZ a
 gcd a b ha hb:=c_Gcd a b (len_sz ha) (len_sz hb)
end Go.Proofs.YtfpagioknjjacaaGreatDoor
namespace Go.Proofs.YtfpagioknjjacaaGreatDoor
open Go.Sx
set_option linter.unusedSimpArgs false
set_option linter.unusedVariables false
set_option maxRecDepth 100000
set_option maxHeartbeats 4000000
def fs (q:Rat):Nat:=fsz q+1
theorem fs_add (a b:Rat):fs (a+b)≤fs a+fs b:=by have:=@fsz_add a b;unfold fs;omega
theorem fs_sub (a b:Rat):fs (a - b)≤fs a+fs b:=by have:=@fsz_sub a b;unfold fs;omega
theorem fs_mul (a b:Rat):fs (a*b)≤fs a+fs b:=by have:=@fsz_mul a b;unfold fs;omega
theorem fs_neg (a:Rat):fs (-a)=fs a:=by unfold fs;rw[fsz_neg]
theorem fs_inv (a:Rat):fs a⁻¹≤fs a:=by have:=fsz_inv a;unfold fs;omega
theorem fs_div (a b:Rat):fs (a/b)≤fs a+fs b:=by rw[Rat.div_def];have h1:=fs_mul a b⁻¹;have h2:=fs_inv b;omega
theorem fs_zero:fs 0=2:=by decide+kernel
theorem fs_int {n:Int} (h0: -9223372036854775808≤n) (h1:n<9223372036854775808):fs (n:Rat)≤65:=by
 have:=fsz_int (n:=n) (k:=64) (sz_i64 h0 h1) (by decide);unfold fs;omega
theorem f_Add (a b:Rat) (h:fs a+fs b≤1073741824):CallOK Tryz.prog 80 [.frac a,.frac b] [] (.frac (a+b)) [] []:=c_fAdd natBig a b (by unfold fs at h;omega)
theorem f_Mul (a b:Rat) (h:fs a+fs b≤1073741824):CallOK Tryz.prog 81 [.frac a,.frac b] [] (.frac (a*b)) [] []:=c_fMul natBig a b (by unfold fs at h;omega)
theorem f_Sub (a b:Rat) (h:fs a+fs b≤1073741824):CallOK Tryz.prog 142 [.frac a,.frac b] [] (.frac (a - b)) [] []:=by
 have k1:=c_fNeg b
 have k2:=f_Add a (-b) (by rw[fs_neg];exact h)
 rw[←Rat.sub_eq_add_neg]at k2
 refine callV (Z:=[]) tabOK mixedOK Tryz.func142 rfl (by kernel_rfl) rfl rfl (by kernel_rfl) rfl ?_
 intro W0 w0 ρ0 hE
 conv=>whnf
 (repeat(first|(refine step_i (by kernel_rfl) ?_;conv=>whnf)|(refine g_c (by assumption) ?_;conv=>whnf)));(first|exact Recast.refl _|exact Frz.recast (Recast.refl _) rfl|(refine Frz.one rfl rfl ?_;skip)|(refine Frz.tup ?_;skip))
end Go.Proofs.YtfpagioknjjacaaGreatDoor
namespace Go.Proofs.YtfpagioknjjacaaGreatDoor
open Go.Sx
set_option linter.unusedSimpArgs false
set_option linter.unusedVariables false
set_option maxRecDepth 100000
set_option maxHeartbeats 4000000
def fitsF (n:Int):Int:=if n<0 then 1 else if n>2048 then 3 else 0
theorem v_fits (n:Int):CallOK Tryz.prog 230 [.val (.int .i64 n)] [] (.val (.int .i64 (fitsF n))) [] []:=by
 refine callV (Z:=[]) tabOK mixedOK Tryz.func230 rfl (by kernel_rfl) rfl rfl (by kernel_rfl) rfl ?_
 intro W0 w0 ρ0 hE
 conv=>whnf
 unfold fitsF
 by_cases h1:n<0
 ·have t1:decide (n<0)=true:=decide_eq_true h1
  rw[if_pos h1]
  (repeat(first|(refine step_w1 rfl rfl ?_;conv=>whnf)|(rw[t1];conv=>whnf)));(first|exact Recast.refl _|exact Frz.recast (Recast.refl _) rfl|(refine Frz.one rfl rfl ?_;skip)|(refine Frz.tup ?_;skip))
 ·have t1:decide (n<0)=false:=decide_eq_false h1
  rw[if_neg h1]
  by_cases h2:n>2048
  ·have t2:decide (n>2048)=true:=decide_eq_true h2
   rw[if_pos h2]
   (repeat((first|refine step_w1 rfl rfl ?_|refine step_w2 rfl rfl ?_|rw[t1]|rw[t2]);conv=>whnf));(first|exact Recast.refl _|exact Frz.recast (Recast.refl _) rfl|(refine Frz.one rfl rfl ?_;skip)|(refine Frz.tup ?_;skip))
  ·have t2:decide (n>2048)=false:=decide_eq_false h2
   rw[if_neg h2]
   (repeat(first|(refine step_w2 rfl rfl ?_;conv=>whnf)|(rw[t1];conv=>whnf)|(rw[t2];conv=>whnf)));(first|exact Recast.refl _|exact Frz.recast (Recast.refl _) rfl|(refine Frz.one rfl rfl ?_;skip)|(refine Frz.tup ?_;skip))
def alikeF (ls:List (List Rat)):Int:=if ls.any (fun v=>decide (2048<v.length))then 3 else if ls.all (fun v=>v.length==(ls.headD []).length)then 0 else 1
theorem v_alike (ls:List (List Rat)) (hn:ls.length<1099511627776) (hl:∀v∈ls,v.length<1099511627776):CallOK Tryz.prog 302 [mvec 1 fvec ls] [] (.val (.int .i64 (alikeF ls))) [] []:=by
 refine callV (Z:=[]) tabOK mixedOK Tryz.func302 rfl (by kernel_rfl) rfl rfl (by kernel_rfl) rfl ?_
 intro W0 w0 ρ0 hE
 conv=>whnf
 (repeat(first|(refine g_o (op_lenM rfl rfl rfl (ev_ok rfl) (tgt rfl) rfl) ?_;conv=>whnf)))
 refine SW_loopN hE (fun k=>k) [0,2,7,8,9] [] (fun m fr hp=>∃i,m=ls.length - i∧i≤ls.length∧(∀j,j<i→decide (2048<(ls.getD j []).length)=false)∧fr=[(0,mvec 1 fvec ls),(2,.val (.int .i64 0)),(7,mvec 1 fvec ls),(8,.val (.int .i64 (ls.length:Nat))),(9,.val (.int .i64 (i:Nat)))]∧hp=[]) ls.length ?_ ?_ ?_
 ·kernel_rfl
 ·exact⟨0,rfl,Nat.zero_le _,(fun j hj=>by omega),rfl,rfl⟩
 rintro m _ _ ⟨i,rfl,hi,hs,rfl,rfl⟩
 conv=>whnf
 by_cases hlt:i<ls.length
 ·have t1:=dlt hlt
  have t2:=winc (i:=i) (by omega)
  by_cases hL:2048<(ls.getD i []).length
  ·have t3:decide (((ls.getD i []).length:Int)>2048)=true:=decide_eq_true (by omega)
   have e:alikeF ls=3:=by rw[alikeF,if_pos (any_at (d:=[]) hlt (decide_eq_true hL))]
   rw[e]
   (repeat((first|refine step_w1 rfl rfl ?_|refine g_o (op_lenM rfl rfl rfl (ev_ok rfl) (tgt rfl) rfl) ?_|refine g_o (op_loadA rfl (ev_ok rfl) (tgt rfl) rfl (Nat.succ_ne_zero _) rfl) ?_|refine g_o (op_indexN (α:=List Rat) (d:=[]) rfl (ev_ok rfl) (ev_ok rfl) (tgt rfl) rfl (tgt rfl) rfl (by omega)) ?_|rw[t1]|rw[t3]);conv=>whnf));(first|exact Recast.refl _|exact Frz.recast (Recast.refl _) rfl|(refine Frz.one rfl rfl ?_;skip)|(refine Frz.tup ?_;skip))
  ·have t3:decide (((ls.getD i []).length:Int)>2048)=false:=decide_eq_false (by omega)
   (repeat((first|refine step_w1 rfl rfl ?_|refine step_w2 rfl rfl ?_|refine g_o (op_lenM rfl rfl rfl (ev_ok rfl) (tgt rfl) rfl) ?_|refine g_o (op_loadA rfl (ev_ok rfl) (tgt rfl) rfl (Nat.succ_ne_zero _) rfl) ?_|refine g_o (op_indexN (α:=List Rat) (d:=[]) rfl (ev_ok rfl) (ev_ok rfl) (tgt rfl) rfl (tgt rfl) rfl (by omega)) ?_|rw[t1]|rw[t3]|rw[t2]);conv=>whnf))
   refine⟨ls.length - (i+1),fun k=>k,[0,2,7,8,9],[],by omega,by kernel_rfl,i+1,rfl,hlt, ?_,rfl,rfl⟩
   intro j hj
   by_cases hji:j=i
   ·rw[hji];exact decide_eq_false hL
   ·exact hs j (by omega)
 ·have t1:=dge hlt
  have hI:i=ls.length:=by omega
  subst hI
  have hshort:ls.any (fun v=>decide (2048<v.length))=false:=any_no [] hs
  (repeat(first|(refine step_w2 rfl rfl ?_;conv=>whnf)|(refine g_o (op_lenM rfl rfl rfl (ev_ok rfl) (tgt rfl) rfl) ?_;conv=>whnf)|(rw[t1];conv=>whnf)))
  refine SW_loopN hE (fun k=>k) [0,2,17,18,19] [] (fun m fr hp=>∃i,m=ls.length - i∧i≤ls.length∧(∀j,j<i→((ls.getD j []).length==(ls.headD []).length)=true)∧fr=[(0,mvec 1 fvec ls),(2,.val (.int .i64 0)),(17,mvec 1 fvec ls),(18,.val (.int .i64 (ls.length:Nat))),(19,.val (.int .i64 (i:Nat)))]∧hp=[]) ls.length ?_ ?_ ?_
  ·kernel_rfl
  ·exact⟨0,rfl,Nat.zero_le _,(fun j hj=>by omega),rfl,rfl⟩
  rintro m _ _ ⟨i,rfl,hi,hs,rfl,rfl⟩
  conv=>whnf
  by_cases hlt:i<ls.length
  ·have t1:=dlt hlt
   have t2:=winc (i:=i) (by omega)
   have h0:0<ls.length:=by omega
   have hh:ls.getD 0 []=ls.headD []:=by cases ls<;>rfl
   by_cases hL:(ls.getD i []).length=(ls.getD 0 []).length
   ·have t3:(((ls.getD i []).length:Int) != ((ls.getD 0 []).length:Int))=false:=by rw[hL];exact bne_self_eq_false _
    (repeat((first|refine step_w1 rfl rfl ?_|refine step_w2 rfl rfl ?_|refine g_o (op_lenM rfl rfl rfl (ev_ok rfl) (tgt rfl) rfl) ?_|refine g_o (op_loadA rfl (ev_ok rfl) (tgt rfl) rfl (Nat.succ_ne_zero _) rfl) ?_|refine g_o (op_indexN (α:=List Rat) (d:=[]) rfl (ev_ok rfl) (ev_ok rfl) (tgt rfl) rfl (tgt rfl) rfl (by omega)) ?_|rw[t1]|rw[t3]|rw[t2]);conv=>whnf))
    refine⟨ls.length - (i+1),fun k=>k,[0,2,17,18,19],[],by omega,by kernel_rfl,i+1,rfl,hlt, ?_,rfl,rfl⟩
    intro j hj
    by_cases hji:j=i
    ·rw[hji,hL,hh];exact beq_self_eq_true _
    ·exact hs j (by omega)
   ·have t3:(((ls.getD i []).length:Int) != ((ls.getD 0 []).length:Int))=true:=bne_iff_ne.2 (by omega)
    have e:alikeF ls=1:=by
     rw[alikeF,if_neg (by rw[hshort];exact Bool.false_ne_true),if_neg]
     rw[all_no (d:=[]) hlt (by rw[←hh];exact beq_false_of_ne hL)]
     exact Bool.false_ne_true
    rw[e]
    (repeat((first|refine step_w1 rfl rfl ?_|refine g_o (op_lenM rfl rfl rfl (ev_ok rfl) (tgt rfl) rfl) ?_|refine g_o (op_loadA rfl (ev_ok rfl) (tgt rfl) rfl (Nat.succ_ne_zero _) rfl) ?_|refine g_o (op_indexN (α:=List Rat) (d:=[]) rfl (ev_ok rfl) (ev_ok rfl) (tgt rfl) rfl (tgt rfl) rfl (by omega)) ?_|rw[t1]|rw[t3]);conv=>whnf));(first|exact Recast.refl _|exact Frz.recast (Recast.refl _) rfl|(refine Frz.one rfl rfl ?_;skip)|(refine Frz.tup ?_;skip))
  ·have t1:=dge hlt
   have hI:i=ls.length:=by omega
   subst hI
   have e:alikeF ls=0:=by
    rw[alikeF,if_neg (by rw[hshort];exact Bool.false_ne_true),if_pos (all_at [] hs)]
   rw[e]
   (repeat(first|(refine step_w2 rfl rfl ?_;conv=>whnf)|(rw[t1];conv=>whnf)));(first|exact Recast.refl _|exact Frz.recast (Recast.refl _) rfl|(refine Frz.one rfl rfl ?_;skip)|(refine Frz.tup ?_;skip))
theorem alike_two (a b:List Rat):alikeF [a,b]=if 2048<a.length∨2048<b.length then 3 else if a.length=b.length then 0 else 1:=by
 simp only[alikeF,List.any_cons,List.any_nil,Bool.or_false,Bool.or_eq_true,decide_eq_true_eq,List.all_cons,List.all_nil,Bool.and_true,List.headD_cons,beq_self_eq_true,Bool.true_and,beq_iff_eq]
 split
 ·rfl
 ·split
  ·rename_i h;rw[if_pos h.symm]
  ·rename_i h;rw[if_neg (fun h'=>h h'.symm)]
theorem v_each0 (F:Rat→Rat→Rat) (g:FuncId) (a b:List Rat) (hab:a.length=b.length) (hl:a.length≤2048)
  (hf:∀i,i<a.length→CallOK Tryz.prog g ([]++([.frac (a.getD i 0),.frac (b.getD i 0)]++[])) [] (.frac (F (a.getD i 0) (b.getD i 0))) [] []):
  CallOK Tryz.prog 213 [fvec a,fvec b,.clo g [] []] [] (.tup [fvec (List.zipWith F a b),.val (.int .i64 0)]) [] []:=by
 have k1:=v_alike [a,b] (by simp) (by simp;omega)
 rw[alike_two,if_neg (by omega),if_pos hab]at k1
 refine callF (Z:=[13]) tabOK mixedOK Tryz.func213 rfl (by kernel_rfl) (by first|rfl|(simp[keylessL,keyless,keylessL_map, *];done)) (by first|rfl|(simp[keylessL,keyless,keylessL_map, *];done)) (by kernel_rfl) rfl ?_
 intro w0 ρ0 hE
 conv=>whnf
 (repeat((first|refine step_w2 rfl rfl ?_|refine And.intro (by first|decide|omega|(simp only[tl0,dlen,List.length_replicate,List.length_set,List.length_map,List.length_zipWith,List.length_take,List.length_append,List.length_cons,List.length_nil];omega)) ?_|refine g_c (by assumption) ?_|rw[bne_self_eq_false]|refine g_o (op_lenM rfl rfl rfl (ev_ok rfl) (tgt rfl) rfl) ?_|rw[Int.toNat_natCast]);conv=>whnf))
 have hz:=zip_len (f:=F) rfl hab.symm
 refine SW_loopN hE (fun k=>k) [0,1,2,6,7,9,22,23] [20] (fun m fr hp=>∃i,m=a.length - i∧i≤a.length∧fr=[(0,fvec a),(1,fvec b),(2,.clo g [] []),(6,.val (.slice none 0 0)),(7,.val (.int .i64 0)),(9,.slc 20 5 0 a.length),(22,.val (.int .i64 (a.length:Nat))),(23,.val (.int .i64 (i:Nat)))]∧
  hp=[(20,⟨52,true,.fracs ((List.zipWith F a b).take i++List.replicate (a.length - i) 0)⟩)]) a.length ?_ ?_ ?_
 ·kernel_rfl
 ·exact⟨0,rfl,Nat.zero_le _,rfl,rfl⟩
 rintro m _ _ ⟨i,rfl,hi,rfl,rfl⟩
 conv=>whnf
 have hlen:=fill_len (d:=(0:Rat)) hi hz
 by_cases hlt:i<a.length
 ·have t1:=dlt hlt
  have t2:=winc (i:=i) (by omega)
  have k2:=hf i hlt
  rw[←zip_get (f:=F) (d3:=0) hlt (by omega)]at k2
  (repeat((first|refine step_w1 rfl rfl ?_|refine step_i (by kernel_rfl) ?_|refine And.intro (by first|decide|omega|(simp only[tl0,dlen,List.length_replicate,List.length_set,List.length_map,List.length_zipWith,List.length_take,List.length_append,List.length_cons,List.length_nil];omega)) ?_|refine g_c (by assumption) ?_|refine g_o (op_indexN (α:=Rat) (d:=0) rfl (ev_ok rfl) (ev_ok rfl) (tgt rfl) rfl (tgt rfl) rfl (by omega)) ?_|refine g_o (op_loadA rfl (ev_ok rfl) (tgt rfl) rfl (Nat.succ_ne_zero _) rfl) ?_|rw[t1]|rw[t2]|rw[Int.toNat_natCast]|rw[Nat.zero_add]);conv=>whnf))
  refine⟨a.length - (i+1),fun k=>k,[0,1,2,6,7,9,22,23],[20],by omega,by kernel_rfl,i+1,rfl,hlt,rfl, ?_⟩
  rw[←fill_set (e:=0) hlt hz]
  rfl
 ·have t1:=dge hlt
  have hI:i=a.length:=by omega
  subst hI
  rw[fill_all hz]
  (repeat(first|(refine step_w2 rfl rfl ?_;conv=>whnf)|(rw[t1];conv=>whnf)))
  (first|exact Recast.refl _|exact Frz.recast (Recast.refl _) rfl|(refine Frz.one rfl rfl ?_;skip)|(refine Frz.tup ?_;(repeat(first|exact FrzC.keyless rfl|exact FrzL.nil|refine FrzL.cons ?_ ?_|(refine FrzC.fracs rfl ?_;(first|rfl|omega|(simp<;>fail)|(simp<;>omega)))))))
end Go.Proofs.YtfpagioknjjacaaGreatDoor
namespace Go.Proofs.YtfpagioknjjacaaGreatDoor
open Go.Sx
set_option linter.unusedSimpArgs false
set_option linter.unusedVariables false
set_option maxRecDepth 100000
set_option maxHeartbeats 4000000
def fsL (l:List Rat):Nat:=(l.map fs).sum
theorem fs_sum (l:List Rat) (s:Rat):fs (l.foldl (·+·) s)≤fs s+fsL l:=by
 induction l generalizing s with
 |nil=>simp[fsL]
 |cons q l ih=>
  have:=ih (s+q)
  have:=fs_add s q
  simp only[List.foldl_cons,fsL,List.map_cons,List.sum_cons]at*
  omega
theorem f_totalAdd (s q:Rat) (h:fs s+fs q≤1073741824) (K:Nat):
  CallOK Tryz.prog 301 [.ptr K 0 0 0,.frac q] [(K,⟨336,true,.one [.frac s]⟩)] (.tup []) [] [(K,⟨336,true,.one [.frac (s+q)]⟩)]:=by
 have k1:=f_Add s q h
 refine callK (Z:=[]) tabOK mixedOK Tryz.func301 rfl (by kernel_rfl) (args:=[.ptr 0 0 0 0,.frac q]) (fk:=[(0,⟨336,true,.one [.frac s]⟩)]) (c:=.tup []) (new:=[]) (upd:=[(0,⟨336,true,.one [.frac (s+q)]⟩)]) (ShapeOK.of rfl rfl rfl rfl rfl rfl rfl rfl rfl rfl rfl) rfl (fun _=>K) NamesOK.upd ?_
 intro W0 w0 ρ0 hE
 conv=>whnf
 (repeat(first|(refine step_i (by kernel_rfl) ?_;conv=>whnf)|(refine g_c (by assumption) ?_;conv=>whnf)))
 exact⟨Recast.refl _,(fun _ _ h=>by cases h),fun k b hm=>by simp only[List.mem_singleton,Prod.mk.injEq]at hm;obtain⟨rfl,rfl⟩:=hm;rfl⟩
theorem take_snoc (l:List Rat) (i:Nat) (hi:i<l.length):l.take (i+1)=l.take i++[l.getD i 0]:=by rw[List.take_add_one,List.getD_eq_getElem?_getD,List.getElem?_eq_getElem hi];rfl
theorem foldl_take (l:List Rat) (i:Nat) (hi:i<l.length) (s:Rat):(l.take (i+1)).foldl (·+·) s=(l.take i).foldl (·+·) s+l.getD i 0:=by
 rw[take_snoc l i hi,List.foldl_append];rfl
theorem fsL_append (a b:List Rat):fsL (a++b)=fsL a+fsL b:=by unfold fsL;rw[List.map_append,List.sum_append]
theorem fsL_one (q:Rat):fsL [q]=fs q:=by simp[fsL]
theorem fsL_take (l:List Rat) (i:Nat) (hi:i<l.length):fsL (l.take i)+fs (l.getD i 0)≤fsL l:=by
 have h1:fsL (l.take (i+1))=fsL (l.take i)+fs (l.getD i 0):=by rw[take_snoc l i hi,fsL_append,fsL_one]
 have h3:fsL l=fsL (l.take (i+1))+fsL (l.drop (i+1)):=by rw[←fsL_append,List.take_append_drop]
 rw[h3,h1]
 exact Nat.le_add_right _ _
theorem f_each (l:List Rat) (s:Rat) (hn:l.length<1099511627776) (h:fs s+fsL l≤1073741824) (K:Nat):
  CallOK Tryz.prog 300 [.clo 301 [.ptr K 0 0 0] [],fvec l] [(K,⟨336,true,.one [.frac s]⟩)] (.tup []) [] [(K,⟨336,true,.one [.frac (l.foldl (·+·) s)]⟩)]:=by
 refine callK (Z:=[]) tabOK mixedOK Tryz.func300 rfl (by kernel_rfl) (args:=[.clo 301 [.ptr 1001 0 0 0] [],fvec l]) (fk:=[(1001,⟨336,true,.one [.frac s]⟩)]) (c:=.tup []) (new:=[]) (upd:=[(1001,⟨336,true,.one [.frac (l.foldl (·+·) s)]⟩)]) (ShapeOK.of rfl rfl rfl rfl rfl rfl rfl rfl rfl rfl rfl) rfl (fun _=>K) NamesOK.upd ?_
 intro W0 w0 ρ0 hE
 conv=>whnf
 (repeat(first|(refine g_o (op_lenM rfl rfl rfl (ev_ok rfl) (tgt rfl) rfl) ?_;conv=>whnf)))
 refine SW_loopN hE (fun k=>k) [0,1,6,7,8] [1001] (fun m fr hp=>∃i,m=l.length - i∧i≤l.length∧fr=[(0,.clo 301 [.ptr 1001 0 0 0] []),(1,fvec l),(6,fvec l),(7,.val (.int .i64 (l.length:Nat))),(8,.val (.int .i64 (i:Nat)))]∧
  hp=[(1001,⟨336,true,.one [.frac ((l.take i).foldl (·+·) s)]⟩)]) l.length ?_ ?_ ?_
 ·kernel_rfl
 ·exact⟨0,rfl,Nat.zero_le _,rfl,rfl⟩
 rintro m _ _ ⟨i,rfl,hi,rfl,rfl⟩
 conv=>whnf
 by_cases hlt:i<l.length
 ·have t1:=dlt hlt
  have t2:=winc (i:=i) (by omega)
  have hs:=fs_sum (l.take i) s
  have hs2:=fsL_take l i hlt
  have k1:=f_totalAdd ((l.take i).foldl (·+·) s) (l.getD i 0) (by omega) 1001
  rw[←foldl_take l i hlt s]at k1
  (repeat((first|refine step_w1 rfl rfl ?_|refine g_c1u (by assumption) rfl rfl ?_|refine g_o (op_indexN (α:=Rat) (d:=0) rfl (ev_ok rfl) (ev_ok rfl) (tgt rfl) rfl (tgt rfl) rfl (by omega)) ?_|refine g_o (op_loadA rfl (ev_ok rfl) (tgt rfl) rfl (Nat.succ_ne_zero _) rfl) ?_|rw[t1]|rw[t2]);conv=>whnf))
  exact⟨l.length - (i+1),fun k=>k,[0,1,6,7,8],[1001],by omega,by kernel_rfl,i+1,rfl,hlt,rfl,rfl⟩
 ·have t1:=dge hlt
  have hI:i=l.length:=by omega
  subst hI
  rw[List.take_length]
  (repeat(first|(refine step_w2 rfl rfl ?_;conv=>whnf)|(rw[t1];conv=>whnf)))
  exact⟨Recast.refl _,(fun _ _ h=>by cases h),fun k b hm=>by simp only[List.mem_singleton,Prod.mk.injEq]at hm;obtain⟨rfl,rfl⟩:=hm;rfl⟩
theorem f_Sum (l:List Rat) (hn:l.length<1099511627776) (h:fsL l+2≤1073741824):CallOK Tryz.prog 211 [fvec l] [] (.frac (l.foldl (·+·) 0)) [] []:=by
 have k1:=f_each l 0 hn (by rw[fs_zero];omega) 3
 refine callV (Z:=[]) tabOK mixedOK Tryz.func211 rfl (by kernel_rfl) rfl rfl (by kernel_rfl) rfl ?_
 intro W0 w0 ρ0 hE
 conv=>whnf
 (repeat(first|(refine g_c1u (by assumption) rfl rfl ?_;conv=>whnf)|(refine g_o (op_makeFunc rfl rfl rfl) ?_;conv=>whnf)));(first|exact Recast.refl _|exact Frz.recast (Recast.refl _) rfl|(refine Frz.one rfl rfl ?_;skip)|(refine Frz.tup ?_;skip))
end Go.Proofs.YtfpagioknjjacaaGreatDoor
namespace Go.Proofs.YtfpagioknjjacaaGreatDoor
open Go.Sx
set_option linter.unusedSimpArgs false
set_option linter.unusedVariables false
set_option maxRecDepth 100000
set_option maxHeartbeats 4000000
def Fit (a b:List Rat):Prop:=∀i,i<a.length→fs (a.getD i 0)+fs (b.getD i 0)≤1073741824
abbrev vadd (a b:List Rat):List Rat:=List.zipWith (·+·) a b
abbrev vsub (a b:List Rat):List Rat:=List.zipWith (· - ·) a b
abbrev vmul (a b:List Rat):List Rat:=List.zipWith (·*·) a b
abbrev vscale (c:Rat) (a:List Rat):List Rat:=List.zipWith (fun x _=>c*x) a a
def vdot (a b:List Rat):Rat:=(vmul a b).foldl (·+·) 0
theorem v_Dot (a b:List Rat) (hab:a.length=b.length) (hl:a.length≤2048) (h:Fit a b) (hs:fsL (vmul a b)+2≤1073741824):CallOK Tryz.prog 89 [fvec a,fvec b] [] (.tup [.frac (vdot a b),.val (.int .i64 0)]) [] []:=by
 have k1:=v_each0 (·*·) 81 a b hab hl (fun i hi=>f_Mul _ _ (h i hi))
 have k2:=f_Sum (vmul a b) (by simp;omega) hs
 refine callV (Z:=[]) tabOK mixedOK Tryz.func89 rfl (by kernel_rfl) rfl rfl (by kernel_rfl) rfl ?_
 intro W0 w0 ρ0 hE
 conv=>whnf
 (repeat(first|(refine g_c (by assumption) ?_;conv=>whnf)));(first|exact Recast.refl _|exact Frz.recast (Recast.refl _) rfl|(refine Frz.one rfl rfl ?_;skip)|(refine Frz.tup ?_;skip))
theorem v_ZeroM (n:Nat) (hn:n≤2048) (K:Nat):CallOK Tryz.prog 123 [.val (.int .i64 (n:Nat))] [] (.tup [.slc K 5 0 n,.val (.int .i64 0)]) [(K,⟨52,true,.fracs (List.replicate n 0)⟩)] []:=by
 have k1:=v_fits n
 rw[fitsF,if_neg (by omega),if_neg (by omega)]at k1
 refine callK (Z:=[]) tabOK mixedOK Tryz.func123 rfl (by kernel_rfl) (args:=[.val (.int .i64 (n:Nat))]) (fk:=[]) (c:=.tup [.slc 11 5 0 n,.val (.int .i64 0)]) (new:=[(11,⟨52,true,.fracs (List.replicate n 0)⟩)]) (upd:=[]) (ShapeOK.of rfl rfl rfl rfl rfl rfl rfl rfl rfl rfl rfl) rfl (fun _=>K) NamesOK.one ?_
 intro W0 w0 ρ0 hE
 conv=>whnf
 (repeat((first|refine step_w2 rfl rfl ?_|refine And.intro (by first|decide|omega|(simp only[tl0,dlen,List.length_replicate,List.length_set,List.length_map,List.length_zipWith,List.length_take,List.length_append,List.length_cons,List.length_nil];omega)) ?_|refine g_c (by assumption) ?_|rw[Int.toNat_natCast]);conv=>whnf))
 exact⟨Recast.refl _,(fun k b hm=>by simp only[List.mem_singleton,Prod.mk.injEq]at hm;obtain⟨rfl,rfl⟩:=hm;rfl),(fun _ _ h=>by cases h)⟩
theorem v_Unit (n i:Nat) (hn:n≤2048) (hi:i<n):CallOK Tryz.prog 94 [.val (.int .i64 (n:Nat)),.val (.int .i64 (i:Nat))] [] (.tup [fvec ((List.replicate n 0).set i 1),.val (.int .i64 0)]) [] []:=by
 have k1:=v_ZeroM n hn 1001
 have k2:=c_fInt 1 (by decide) (by decide)
 have t1:decide ((i:Int)<0)=false:=decide_eq_false (by omega)
 have t2:decide ((i:Int)≥(n:Int))=false:=decide_eq_false (by omega)
 refine callF (Z:=[]) tabOK mixedOK Tryz.func94 rfl (by kernel_rfl) (by first|rfl|(simp[keylessL,keyless,keylessL_map, *];done)) (by first|rfl|(simp[keylessL,keyless,keylessL_map, *];done)) (by kernel_rfl) rfl ?_
 intro w0 ρ0 hE
 conv=>whnf
 (repeat((first|refine step_w1 rfl rfl ?_|refine step_w2 rfl rfl ?_|refine And.intro (by first|decide|omega|(simp only[tl0,dlen,List.length_replicate,List.length_set,List.length_map,List.length_zipWith,List.length_take,List.length_append,List.length_cons,List.length_nil];omega)) ?_|refine g_c (by assumption) ?_|refine g_cn (by assumption) rfl ?_|refine g_o (op_pickF rfl (ev_ok rfl) (ev_ok rfl)) ?_|rw[bne_self_eq_false]|rw[t1]|rw[t2]|rw[Int.toNat_natCast]|rw[Nat.zero_add]);conv=>whnf));(first|exact Recast.refl _|exact Frz.recast (Recast.refl _) rfl|(refine Frz.one rfl rfl ?_;skip)|(refine Frz.tup ?_;(repeat(first|exact FrzC.keyless rfl|exact FrzL.nil|refine FrzL.cons ?_ ?_|(refine FrzC.fracs rfl ?_;(first|rfl|omega|(simp<;>fail)|(simp<;>omega)))))))
theorem q_guard:Tryz.prog.eqGuardType Tryz.prog.depth 52=false:=by kernel_rfl
theorem q_same (a b:Rat):eqTy tab good 10 52 (fracCells a) (fracCells b)=some (decide (a=b)):=by
 have e:eqTy tab good 10 52 (fracCells a) (fracCells b)=some (((((low a.num.natAbs==low b.num.natAbs)&&(((big a.num.natAbs).toList==(big b.num.natAbs).toList)&&true))&&true)&&((decide (a.num<0)==decide (b.num<0))&&true))&&
  (((low (a.den - 1)==low (b.den - 1))&&(((big (a.den - 1)).toList==(big (b.den - 1)).toList)&&true))&&true)):=rfl
 rw[e]
 simp only[Bool.and_true]
 rw[nat_eq_iff,nat_eq_iff]
 congr 1
 rw[Bool.eq_iff_iff]
 simp only[Bool.and_eq_true,decide_eq_true_eq,beq_iff_eq,decide_eq_decide]
 have h1:=a.den_pos
 have h2:=b.den_pos
 constructor
 ·rintro⟨⟨h3,h4⟩,h5⟩
  exact Rat.ext (by omega) (by omega)
 ·rintro rfl
  exact⟨⟨rfl,Iff.rfl⟩,rfl⟩
theorem v_Equal (a b:List Rat) (ha:a.length<1099511627776) (hb:b.length<1099511627776):CallOK Tryz.prog 212 [fvec a,fvec b] [] (.val (.bool (decide (a=b)))) [] []:=by
 refine callV (Z:=[]) tabOK mixedOK Tryz.func212 rfl (by kernel_rfl) rfl rfl (by kernel_rfl) rfl ?_
 intro W0 w0 ρ0 hE
 conv=>whnf
 by_cases hab:a.length=b.length
 ·have t0:((a.length:Int) != (b.length:Int))=false:=by rw[hab];exact bne_self_eq_false _
  (repeat(first|(refine step_w2 rfl rfl ?_;conv=>whnf)|(refine g_o (op_lenM rfl rfl rfl (ev_ok rfl) (tgt rfl) rfl) ?_;conv=>whnf)|(rw[t0];conv=>whnf)))
  refine SW_loopN hE (fun k=>k) [0,1,4,11,12,13] [] (fun m fr hp=>∃i,m=a.length - i∧i≤a.length∧a.take i=b.take i∧fr=[(0,fvec a),(1,fvec b),(4,.val (.bool false)),(11,fvec a),(12,.val (.int .i64 (a.length:Nat))),(13,.val (.int .i64 (i:Nat)))]∧hp=[]) a.length ?_ ?_ ?_
  ·kernel_rfl
  ·exact⟨0,rfl,Nat.zero_le _,rfl,rfl,rfl⟩
  rintro m _ _ ⟨i,rfl,hi,ht,rfl,rfl⟩
  conv=>whnf
  by_cases hlt:i<a.length
  ·have t1:=dlt hlt
   have t2:=winc (i:=i) (by omega)
   by_cases hv:a.getD i 0=b.getD i 0
   ·have t3:(!decide (a.getD i 0=b.getD i 0))=false:=by rw[decide_eq_true hv];rfl
    (repeat((first|refine step_w1 rfl rfl ?_|refine step_w2 rfl rfl ?_|refine step_i (by kernel_rfl) ?_|refine g_o (op_indexN (α:=Rat) (d:=0) rfl (ev_ok rfl) (ev_ok rfl) (tgt rfl) rfl (tgt rfl) rfl (by omega)) ?_|refine g_o (op_loadA rfl (ev_ok rfl) (tgt rfl) rfl (Nat.succ_ne_zero _) rfl) ?_|refine⟨_,op_neAgg tabOK goodOK rfl (ev_ok rfl) (ev_ok rfl) rfl rfl rfl rfl (q_same _ _) q_guard, ?_⟩|rw[t1]|rw[t3]|rw[t2]);conv=>whnf))
    exact⟨a.length - (i+1),fun k=>k,[0,1,4,11,12,13],[],by omega,by kernel_rfl,i+1,rfl,hlt,by rw[take_snoc a i hlt,take_snoc b i (by omega),ht,hv],rfl,rfl⟩
   ·have t3:(!decide (a.getD i 0=b.getD i 0))=true:=by rw[decide_eq_false hv];rfl
    have e:decide (a=b)=false:=decide_eq_false (fun h=>hv (by rw[h]))
    rw[e]
    (repeat((first|refine step_w1 rfl rfl ?_|refine step_i (by kernel_rfl) ?_|refine g_o (op_indexN (α:=Rat) (d:=0) rfl (ev_ok rfl) (ev_ok rfl) (tgt rfl) rfl (tgt rfl) rfl (by omega)) ?_|refine g_o (op_loadA rfl (ev_ok rfl) (tgt rfl) rfl (Nat.succ_ne_zero _) rfl) ?_|refine⟨_,op_neAgg tabOK goodOK rfl (ev_ok rfl) (ev_ok rfl) rfl rfl rfl rfl (q_same _ _) q_guard, ?_⟩|rw[t1]|rw[t3]);conv=>whnf));(first|exact Recast.refl _|exact Frz.recast (Recast.refl _) rfl|(refine Frz.one rfl rfl ?_;skip)|(refine Frz.tup ?_;skip))
  ·have t1:=dge hlt
   have hI:i=a.length:=by omega
   have e:decide (a=b)=true:=decide_eq_true (by rw[hI,List.take_length]at ht;rw[ht,hab,List.take_length])
   rw[e]
   (repeat(first|(refine step_w2 rfl rfl ?_;conv=>whnf)|(rw[t1];conv=>whnf)));(first|exact Recast.refl _|exact Frz.recast (Recast.refl _) rfl|(refine Frz.one rfl rfl ?_;skip)|(refine Frz.tup ?_;skip))
 ·have t0:((a.length:Int) != (b.length:Int))=true:=bne_iff_ne.2 (by omega)
  have e:decide (a=b)=false:=decide_eq_false (fun h=>hab (by rw[h]))
  rw[e]
  (repeat(first|(refine step_w1 rfl rfl ?_;conv=>whnf)|(refine g_o (op_lenM rfl rfl rfl (ev_ok rfl) (tgt rfl) rfl) ?_;conv=>whnf)|(rw[t0];conv=>whnf)));(first|exact Recast.refl _|exact Frz.recast (Recast.refl _) rfl|(refine Frz.one rfl rfl ?_;skip)|(refine Frz.tup ?_;skip))
theorem v_Same (a b:List Rat) (ha:a.length<1099511627776) (hb:b.length<1099511627776):CallOK Tryz.prog 87 [fvec a,fvec b] [] (.val (.bool (decide (a=b)))) [] []:=by
 have k1:=v_Equal a b ha hb
 refine callV (Z:=[]) tabOK mixedOK Tryz.func87 rfl (by kernel_rfl) rfl rfl (by kernel_rfl) rfl ?_
 intro W0 w0 ρ0 hE
 conv=>whnf
 (repeat(first|(refine g_c (by assumption) ?_;conv=>whnf)));(first|exact Recast.refl _|exact Frz.recast (Recast.refl _) rfl|(refine Frz.one rfl rfl ?_;skip)|(refine Frz.tup ?_;skip))
end Go.Proofs.YtfpagioknjjacaaGreatDoor
namespace Go.Proofs.YtfpagioknjjacaaGreatDoor
open Go.Sx
set_option linter.unusedSimpArgs false
set_option linter.unusedVariables false
set_option maxRecDepth 100000
set_option maxHeartbeats 4000000
def ofInts (l:List Int):List Rat:=l.map fun(n:Int)=>((n:Int):Rat)
theorem map_get {α β:Type} {f:α→β} {l:List α} {i:Nat} {d:α} {e:β} (h:i<l.length):(l.map f).getD i e=f (l.getD i d):=by
 simp[List.getD_eq_getElem?_getD,List.getElem?_eq_getElem h]
theorem v_Of (l:List Int) (hl:l.length<1099511627776) (h:∀i,i<l.length→ -9223372036854775808≤l.getD i 0∧l.getD i 0<9223372036854775808):CallOK Tryz.prog 109 [ivec .i64 l] [] (fvec (ofInts l)) [] []:=by
 refine callF (Z:=[]) tabOK mixedOK Tryz.func109 rfl (by kernel_rfl) (by first|rfl|(simp[keylessL,keyless,keylessL_map, *];done)) (by first|rfl|(simp[keylessL,keyless,keylessL_map, *];done)) (by kernel_rfl) rfl ?_
 intro w0 ρ0 hE
 conv=>whnf
 (repeat(first|(refine And.intro (by first|decide|omega|(simp only[tl0,dlen,List.length_replicate,List.length_set,List.length_map,List.length_zipWith,List.length_take,List.length_append,List.length_cons,List.length_nil];omega)) ?_;conv=>whnf)|(refine g_o (op_lenM rfl rfl rfl (ev_ok rfl) (tgt rfl) rfl) ?_;conv=>whnf)|(rw[Int.toNat_natCast];conv=>whnf)))
 have hz:(ofInts l).length=l.length:=by simp[ofInts]
 refine SW_loopN hE (fun k=>k) [0,2,3,9,10] [7] (fun m fr hp=>∃i,m=l.length - i∧i≤l.length∧fr=[(0,ivec .i64 l),(2,.val (.slice none 0 0)),(3,.slc 7 5 0 l.length),(9,.val (.int .i64 (l.length:Nat))),(10,.val (.int .i64 (i:Nat)))]∧
  hp=[(7,⟨52,true,.fracs ((ofInts l).take i++List.replicate (l.length - i) 0)⟩)]) l.length ?_ ?_ ?_
 ·kernel_rfl
 ·exact⟨0,rfl,Nat.zero_le _,rfl,rfl⟩
 rintro m _ _ ⟨i,rfl,hi,rfl,rfl⟩
 conv=>whnf
 have hlen:=fill_len (d:=(0:Rat)) hi hz
 by_cases hlt:i<l.length
 ·have t1:=dlt hlt
  have t2:=winc (i:=i) (by omega)
  obtain⟨b1,b2⟩:=h i hlt
  have k1:=c_fInt (l.getD i 0) b1 b2
  rw[←map_get (f:=fun(n:Int)=>((n:Int):Rat)) (e:=0) hlt]at k1
  (repeat((first|refine step_w1 rfl rfl ?_|refine And.intro (by first|decide|omega|(simp only[tl0,dlen,List.length_replicate,List.length_set,List.length_map,List.length_zipWith,List.length_take,List.length_append,List.length_cons,List.length_nil];omega)) ?_|refine g_c (by assumption) ?_|refine g_o (op_loadA rfl (ev_ok rfl) (tgt rfl) rfl (Nat.succ_ne_zero _) rfl) ?_|refine g_o (op_indexN (α:=Int) (d:=0) rfl (ev_ok rfl) (ev_ok rfl) (tgt rfl) rfl (tgt rfl) rfl (by omega)) ?_|rw[t1]|rw[t2]|rw[Int.toNat_natCast]|rw[Nat.zero_add]);conv=>whnf))
  refine⟨l.length - (i+1),fun k=>k,[0,2,3,9,10],[7],by omega,by kernel_rfl,i+1,rfl,hlt,rfl, ?_⟩
  rw[←fill_set (e:=0) hlt hz]
  rfl
 ·have t1:=dge hlt
  have hI:i=l.length:=by omega
  subst hI
  rw[fill_all hz]
  (repeat(first|(refine step_w2 rfl rfl ?_;conv=>whnf)|(rw[t1];conv=>whnf)));(first|exact Recast.refl _|exact Frz.recast (Recast.refl _) rfl|(refine Frz.one rfl rfl ?_;(repeat(first|(refine FrzC.fracs rfl ?_;(first|rfl|omega|(simp<;>fail)|(simp<;>omega))))))|(refine Frz.tup ?_;skip))
end Go.Proofs.YtfpagioknjjacaaGreatDoor
namespace Go.Proofs
open Go.Shelf
def Tryz.lays156_ren:Go.Shelf.Ren:=⟨fun|156=>220|165=>304|166=>305|169=>306|240=>344|241=>345|276=>363|277=>364|n=>n,fun|31=>262|9=>9|3=>3|4=>4|0=>0|20=>20|72=>342|76=>346|70=>340|37=>61|75=>345|127=>387|164=>400|5=>5|80=>348|n=>n,fun|n=>n⟩
theorem Tryz.lays156:Go.Proofs.Lays.n156 Tryz.prog Tryz.lays156_ren:={
 mixed:=by kernel_rfl
 f156:=Tryz.func220.trans (congrArg some (by kernel_rfl))
 f165:=Tryz.func304.trans (congrArg some (by kernel_rfl))
 f166:=Tryz.func305.trans (congrArg some (by kernel_rfl))
 f169:=Tryz.func306.trans (congrArg some (by kernel_rfl))
 f240:=Tryz.func344.trans (congrArg some (by kernel_rfl))
 f241:=Tryz.func345.trans (congrArg some (by kernel_rfl))
 f276:=Tryz.func363.trans (congrArg some (by kernel_rfl))
 f277:=Tryz.func364.trans (congrArg some (by kernel_rfl))
 t0:=Tryz.underlying0
 a0:=Tryz.isAgg0
 z0:=Tryz.sizeOf0
 v0:=Tryz.zeroValue0
 t3:=Tryz.underlying3
 a3:=Tryz.isAgg3
 z3:=Tryz.sizeOf3
 v3:=Tryz.zeroValue3
 t4:=Tryz.underlying4
 a4:=Tryz.isAgg4
 z4:=Tryz.sizeOf4
 v4:=Tryz.zeroValue4
 t9:=Tryz.underlying9
 a9:=Tryz.isAgg9
 z9:=Tryz.sizeOf9
 v9:=Tryz.zeroValue9
 t20:=Tryz.underlying20
 a20:=Tryz.isAgg20
 z20:=Tryz.sizeOf20
 v20:=Tryz.zeroValue20
 t31:=Tryz.underlying262
 a31:=Tryz.isAgg262
 z31:=Tryz.sizeOf262
 v31:=Tryz.zeroValue262
 t37:=Tryz.underlying61
 a37:=Tryz.isAgg61
 z37:=Tryz.sizeOf61
 v37:=Tryz.zeroValue61
 t70:=Tryz.underlying340
 a70:=Tryz.isAgg340
 z70:=Tryz.sizeOf340
 v70:=Tryz.zeroValue340
 t72:=Tryz.underlying342
 a72:=Tryz.isAgg342
 z72:=Tryz.sizeOf342
 v72:=Tryz.zeroValue342
 t75:=Tryz.underlying345
 a75:=Tryz.isAgg345
 z75:=Tryz.sizeOf345
 v75:=Tryz.zeroValue345
 t76:=Tryz.underlying346
 a76:=Tryz.isAgg346
 z76:=Tryz.sizeOf346
 v76:=Tryz.zeroValue346
 t127:=Tryz.underlying387
 a127:=Tryz.isAgg387
 z127:=Tryz.sizeOf387
 v127:=Tryz.zeroValue387
 t164:=Tryz.underlying400
 a164:=Tryz.isAgg400
 z164:=Tryz.sizeOf400
 v164:=Tryz.zeroValue400}
theorem Tryz.Builder_Extra_156:Builder.Extra Tryz.prog Tryz.lays156_ren:={
 sizeBuilder:=by kernel_rfl
 liesBuilder:=by kernel_rfl
 t5:=Tryz.underlying5
 a5:=Tryz.isAgg5
 z5:=Tryz.sizeOf5
 v5:=Tryz.zeroValue5
 infoByte:=by kernel_rfl
 cellsByte:=by kernel_rfl
 sizeByte:=by kernel_rfl
 neB5:=by decide}
open Go.RowKit in
theorem Tryz.strings_Join_none (a:Option Addr) (c:Nat) (sep:ByteArray) (w:World):
  Calls Tryz.prog 220 #[.slice a 0 c,.string sep] w fun e w'=>e= .returned (.string ⟨#[]⟩)∧w'=w:=Any.strings_Join_none Tryz.lays156 Tryz.Builder_Extra_156 a c sep w
open Go.RowKit in
/-- strings.Join: "Join concatenates the elements of its first argument to create a single string. The separator string sep is placed between elements in the resulting string.": HOWEVER MANY ELEMENTS. Below the heap's end the world is as it was. (LAID: no walk: one application.) -/
theorem Tryz.strings_Join (bk o c:Nat) (xs:List ByteArray) (sep:ByteArray) (w:World) (hcells:∀(j:Nat) x,xs[j]? =some x→w.cell? ⟨bk,o+j,none⟩=some (.string x)) (hbk:bk<w.heap.size) (hN:xs.length≤140737488355328) (hcap:xs.length≤c) (hlen:(Lib.join (xs.map (·.data.toList)) sep.data.toList).length≤140737488355328):
  Calls Tryz.prog 220 #[.slice (some ⟨bk,o,none⟩) xs.length c,.string sep] w fun e w'=>e= .returned (.string ⟨(Lib.join (xs.map (·.data.toList)) sep.data.toList).toArray⟩)∧Below w.heap.size w w':=Any.strings_Join Tryz.lays156 Tryz.Builder_Extra_156 bk o c xs sep w hcells hbk hN hcap hlen
def Tryz.lays283_ren:Go.Shelf.Ren:=⟨fun|283=>365|n=>n,fun|3=>3|9=>9|4=>4|n=>n,fun|n=>n⟩
theorem Tryz.lays283:Go.Proofs.Lays.n283 Tryz.prog Tryz.lays283_ren:={
 mixed:=by kernel_rfl
 f283:=Tryz.func365.trans (congrArg some (by kernel_rfl))
 t3:=Tryz.underlying3
 a3:=Tryz.isAgg3
 z3:=Tryz.sizeOf3
 v3:=Tryz.zeroValue3
 t4:=Tryz.underlying4
 a4:=Tryz.isAgg4
 z4:=Tryz.sizeOf4
 v4:=Tryz.zeroValue4
 t9:=Tryz.underlying9
 a9:=Tryz.isAgg9
 z9:=Tryz.sizeOf9
 v9:=Tryz.zeroValue9}
open Go.Lib in
/-- internal/strconv.small: "small returns the string for an i with 0 <= i < nSmalls.": i's decimal numeral. The world is as it was. (LAID: no walk: one application.) -/
theorem Tryz.internal_strconv_small (i:Nat) (h:i<100) (w:World):
  Calls Tryz.prog 365 #[.int .i64 i] w fun e w'=>e= .returned (.string ⟨(Lib.decDigits i).toArray⟩)∧w'=w:=Any.internal_strconv_small Tryz.lays283 i h w
def Tryz.laysM284_ren:Go.Shelf.Ren:=⟨fun|284=>366|129=>373|317=>372|318=>374|n=>n,fun|53=>44|3=>3|212=>411|0=>0|4=>4|46=>334|5=>5|9=>9|n=>n,fun|17=>2|n=>n⟩
theorem Tryz.laysM284:Go.Proofs.LaysM.n284 Tryz.prog Tryz.laysM284_ren:={
 mixed:=by kernel_rfl
 f129:=Tryz.func373.trans (congrArg some (by kernel_rfl))
 f284:=Tryz.func366.trans (congrArg some (by kernel_rfl))
 f317:=Tryz.func372.trans (congrArg some (by kernel_rfl))
 f318:=Tryz.func374.trans (congrArg some (by kernel_rfl))
 t0:=Tryz.underlying0
 a0:=Tryz.isAgg0
 z0:=Tryz.sizeOf0
 v0:=Tryz.zeroValue0
 t3:=Tryz.underlying3
 a3:=Tryz.isAgg3
 z3:=Tryz.sizeOf3
 v3:=Tryz.zeroValue3
 t4:=Tryz.underlying4
 a4:=Tryz.isAgg4
 z4:=Tryz.sizeOf4
 v4:=Tryz.zeroValue4
 t5:=Tryz.underlying5
 a5:=Tryz.isAgg5
 z5:=Tryz.sizeOf5
 v5:=Tryz.zeroValue5
 t9:=Tryz.underlying9
 a9:=Tryz.isAgg9
 z9:=Tryz.sizeOf9
 v9:=Tryz.zeroValue9
 t46:=Tryz.underlying334
 a46:=Tryz.isAgg334
 z46:=Tryz.sizeOf334
 v46:=Tryz.zeroValue334
 t53:=Tryz.underlying44
 a53:=Tryz.isAgg44
 z53:=Tryz.sizeOf44
 v53:=Tryz.zeroValue44
 t212:=Tryz.underlying411
 a212:=Tryz.isAgg411
 z212:=Tryz.sizeOf411
 v212:=Tryz.zeroValue411
 g17:=by kernel_rfl
 i0:=by kernel_rfl
 i3:=by kernel_rfl
 i4:=by kernel_rfl
 i5:=by kernel_rfl
 i9:=by kernel_rfl
 i46:=by kernel_rfl
 i53:=by kernel_rfl
 i212:=by kernel_rfl
 m17:=by kernel_rfl}
open Go.Lib in
theorem Tryz.internal_strconv_numDigits (u:Nat) (h1:1≤u) (h2:u<18446744073709551616) (w:World) (htab:Lib.TabIs Tryz.prog w "internal/strconv.uint64pow10" .u64 Lib.pow10Tab):
  Calls Tryz.prog 366 #[.int .u64 u] w fun e w'=>e= .returned (.int .i64 (Lib.nDigits u))∧w'=w:=Any.internal_strconv_numDigits Tryz.laysM284 u h1 h2 w htab
def Tryz.lays285_ren:Go.Shelf.Ren:=⟨fun|285=>367|n=>n,fun|37=>61|53=>44|3=>3|4=>4|51=>23|9=>9|5=>5|0=>0|n=>n,fun|n=>n⟩
theorem Tryz.lays285:Go.Proofs.Lays.n285 Tryz.prog Tryz.lays285_ren:={
 mixed:=by kernel_rfl
 f285:=Tryz.func367.trans (congrArg some (by kernel_rfl))
 t0:=Tryz.underlying0
 a0:=Tryz.isAgg0
 z0:=Tryz.sizeOf0
 v0:=Tryz.zeroValue0
 t3:=Tryz.underlying3
 a3:=Tryz.isAgg3
 z3:=Tryz.sizeOf3
 v3:=Tryz.zeroValue3
 t4:=Tryz.underlying4
 a4:=Tryz.isAgg4
 z4:=Tryz.sizeOf4
 v4:=Tryz.zeroValue4
 t5:=Tryz.underlying5
 a5:=Tryz.isAgg5
 z5:=Tryz.sizeOf5
 v5:=Tryz.zeroValue5
 t9:=Tryz.underlying9
 a9:=Tryz.isAgg9
 z9:=Tryz.sizeOf9
 v9:=Tryz.zeroValue9
 t37:=Tryz.underlying61
 a37:=Tryz.isAgg61
 z37:=Tryz.sizeOf61
 v37:=Tryz.zeroValue61
 t51:=Tryz.underlying23
 a51:=Tryz.isAgg23
 z51:=Tryz.sizeOf23
 v51:=Tryz.zeroValue23
 t53:=Tryz.underlying44
 a53:=Tryz.isAgg44
 z53:=Tryz.sizeOf44
 v53:=Tryz.zeroValue44}
open Go.RowKit Go.Sort Go.Lib in
/-- internal/strconv.formatBase10: "formatBase10 formats the decimal representation of u into a. The caller is responsible for ensuring that a is big enough to hold u. If a is too big, leading zeros will be filled in as needed.": THE ROW HOLDS u's DIGITS ('FmtInv .. 0 ..': every place t holds 'dg u (len - 1 - t)'); all else is as it was but for the count of draws. (LAID: no walk: one application.) -/
theorem Tryz.internal_strconv_formatBase10 (blk off cap:Nat) (u:Nat) (d:Array UInt8) (w:World) (hH:Holds (fun(b:UInt8)=>Value.int .u8 (b.toNat:Int)) w blk off d) (hu:u<10^d.size) (hu64:u<18446744073709551616) (hsz:d.size<4611686018427387904):
  Calls Tryz.prog 367 #[.slice (some ⟨blk,off,none⟩) d.size cap,.int .u64 u] w fun e w'=>
   e= .returned (.tuple #[])∧∃(n v':Nat) (dk:Array UInt8),w'=(putRow (fun(b:UInt8)=>Value.int .u8 (b.toNat:Int)) w blk off dk).drewN n∧FmtInv d.size u 0 v' dk:=Any.internal_strconv_formatBase10 Tryz.lays285 blk off cap u d w hH hu hu64 hsz
def Tryz.laysM171_ren:Go.Shelf.Ren:=⟨fun|171=>316|243=>352|246=>369|283=>365|284=>366|285=>367|286=>368|129=>373|317=>372|318=>374|319=>375|320=>376|337=>377|338=>378|n=>n,fun|3=>3|9=>9|2=>2|4=>4|171=>403|0=>0|53=>44|37=>61|5=>5|173=>406|212=>411|51=>23|20=>20|213=>412|46=>334|232=>414|233=>415|n=>n,fun|17=>2|18=>3|19=>4|n=>n⟩
theorem Tryz.laysM171:Go.Proofs.LaysM.n171 Tryz.prog Tryz.laysM171_ren:={
 mixed:=by kernel_rfl
 f129:=Tryz.func373.trans (congrArg some (by kernel_rfl))
 f171:=Tryz.func316.trans (congrArg some (by kernel_rfl))
 f243:=Tryz.func352.trans (congrArg some (by kernel_rfl))
 f246:=Tryz.func369.trans (congrArg some (by kernel_rfl))
 f283:=Tryz.func365.trans (congrArg some (by kernel_rfl))
 f284:=Tryz.func366.trans (congrArg some (by kernel_rfl))
 f285:=Tryz.func367.trans (congrArg some (by kernel_rfl))
 f286:=Tryz.func368.trans (congrArg some (by kernel_rfl))
 f317:=Tryz.func372.trans (congrArg some (by kernel_rfl))
 f318:=Tryz.func374.trans (congrArg some (by kernel_rfl))
 f319:=Tryz.func375.trans (congrArg some (by kernel_rfl))
 f320:=Tryz.func376.trans (congrArg some (by kernel_rfl))
 f337:=Tryz.func377.trans (congrArg some (by kernel_rfl))
 f338:=Tryz.func378.trans (congrArg some (by kernel_rfl))
 t0:=Tryz.underlying0
 a0:=Tryz.isAgg0
 z0:=Tryz.sizeOf0
 v0:=Tryz.zeroValue0
 t2:=Tryz.underlying2
 a2:=Tryz.isAgg2
 z2:=Tryz.sizeOf2
 v2:=Tryz.zeroValue2
 t3:=Tryz.underlying3
 a3:=Tryz.isAgg3
 z3:=Tryz.sizeOf3
 v3:=Tryz.zeroValue3
 t4:=Tryz.underlying4
 a4:=Tryz.isAgg4
 z4:=Tryz.sizeOf4
 v4:=Tryz.zeroValue4
 t5:=Tryz.underlying5
 a5:=Tryz.isAgg5
 z5:=Tryz.sizeOf5
 v5:=Tryz.zeroValue5
 t9:=Tryz.underlying9
 a9:=Tryz.isAgg9
 z9:=Tryz.sizeOf9
 v9:=Tryz.zeroValue9
 t20:=Tryz.underlying20
 a20:=Tryz.isAgg20
 z20:=Tryz.sizeOf20
 v20:=Tryz.zeroValue20
 t37:=Tryz.underlying61
 a37:=Tryz.isAgg61
 z37:=Tryz.sizeOf61
 v37:=Tryz.zeroValue61
 t46:=Tryz.underlying334
 a46:=Tryz.isAgg334
 z46:=Tryz.sizeOf334
 v46:=Tryz.zeroValue334
 t51:=Tryz.underlying23
 a51:=Tryz.isAgg23
 z51:=Tryz.sizeOf23
 v51:=Tryz.zeroValue23
 t53:=Tryz.underlying44
 a53:=Tryz.isAgg44
 z53:=Tryz.sizeOf44
 v53:=Tryz.zeroValue44
 t171:=Tryz.underlying403
 a171:=Tryz.isAgg403
 z171:=Tryz.sizeOf403
 v171:=Tryz.zeroValue403
 t173:=Tryz.underlying406
 a173:=Tryz.isAgg406
 z173:=Tryz.sizeOf406
 v173:=Tryz.zeroValue406
 t212:=Tryz.underlying411
 a212:=Tryz.isAgg411
 z212:=Tryz.sizeOf411
 v212:=Tryz.zeroValue411
 t213:=Tryz.underlying412
 a213:=Tryz.isAgg412
 z213:=Tryz.sizeOf412
 t232:=Tryz.underlying414
 a232:=Tryz.isAgg414
 z232:=Tryz.sizeOf414
 v232:=Tryz.zeroValue414
 t233:=Tryz.underlying415
 a233:=Tryz.isAgg415
 z233:=Tryz.sizeOf415
 v233:=Tryz.zeroValue415
 g17:=by kernel_rfl
 g18:=by kernel_rfl
 g19:=by kernel_rfl
 i0:=by kernel_rfl
 i2:=by kernel_rfl
 i3:=by kernel_rfl
 i4:=by kernel_rfl
 i5:=by kernel_rfl
 i9:=by kernel_rfl
 i20:=by kernel_rfl
 i37:=by kernel_rfl
 i46:=by kernel_rfl
 i51:=by kernel_rfl
 i53:=by kernel_rfl
 i171:=by kernel_rfl
 i173:=by kernel_rfl
 i212:=by kernel_rfl
 i232:=by kernel_rfl
 i233:=by kernel_rfl
 m17:=by kernel_rfl
 m18:=by kernel_rfl
 m19:=by kernel_rfl}
open Go.RowKit Go.Sort Go.Lib in
/-- strconv.Itoa: "Itoa is equivalent to FormatInt(int64(i), 10).": i's DECIMAL NUMERAL ('Lib.itoa': a '-' where i is negative, then the digits), FOR EVERY int. The world behind the call: the world before it, new blocks behind the heap (the library's 'var a [24]byte'), draws. (LAID: no walk: one application.) -/
theorem Tryz.strconv_Itoa (n:Int) (h0: -9223372036854775808≤n) (h1:n≤9223372036854775807) (w:World) (htab:Lib.TabIs Tryz.prog w "internal/strconv.uint64pow10" .u64 Lib.pow10Tab):
  Calls Tryz.prog 316 #[.int .i64 n] w fun e w'=>e= .returned (.string ⟨(Lib.itoa n).toArray⟩)∧∃k os,w'=grow (w.drewN k) os:=Any.strconv_Itoa Tryz.laysM171 n h0 h1 w htab
def Tryz.lays105_ren:Go.Shelf.Ren:=⟨fun|105=>317|212=>353|99=>354|165=>304|166=>305|170=>355|169=>306|263=>370|264=>298|206=>371|240=>344|241=>345|276=>363|277=>364|n=>n,fun|9=>9|3=>3|4=>4|20=>20|0=>0|46=>334|109=>391|5=>5|72=>342|76=>346|51=>23|146=>383|53=>44|148=>331|70=>340|37=>61|75=>345|127=>387|164=>400|80=>348|n=>n,fun|n=>n⟩
theorem Tryz.lays105:Go.Proofs.Lays.n105 Tryz.prog Tryz.lays105_ren:={
 mixed:=by kernel_rfl
 f99:=Tryz.func354.trans (congrArg some (by kernel_rfl))
 f105:=Tryz.func317.trans (congrArg some (by kernel_rfl))
 f165:=Tryz.func304.trans (congrArg some (by kernel_rfl))
 f166:=Tryz.func305.trans (congrArg some (by kernel_rfl))
 f169:=Tryz.func306.trans (congrArg some (by kernel_rfl))
 f170:=Tryz.func355.trans (congrArg some (by kernel_rfl))
 f206:=Tryz.func371.trans (congrArg some (by kernel_rfl))
 f212:=Tryz.func353.trans (congrArg some (by kernel_rfl))
 f240:=Tryz.func344.trans (congrArg some (by kernel_rfl))
 f241:=Tryz.func345.trans (congrArg some (by kernel_rfl))
 f263:=Tryz.func370.trans (congrArg some (by kernel_rfl))
 f264:=Tryz.func298.trans (congrArg some (by kernel_rfl))
 f276:=Tryz.func363.trans (congrArg some (by kernel_rfl))
 f277:=Tryz.func364.trans (congrArg some (by kernel_rfl))
 t0:=Tryz.underlying0
 a0:=Tryz.isAgg0
 z0:=Tryz.sizeOf0
 v0:=Tryz.zeroValue0
 t3:=Tryz.underlying3
 a3:=Tryz.isAgg3
 z3:=Tryz.sizeOf3
 v3:=Tryz.zeroValue3
 t4:=Tryz.underlying4
 a4:=Tryz.isAgg4
 z4:=Tryz.sizeOf4
 v4:=Tryz.zeroValue4
 t5:=Tryz.underlying5
 a5:=Tryz.isAgg5
 z5:=Tryz.sizeOf5
 v5:=Tryz.zeroValue5
 t9:=Tryz.underlying9
 a9:=Tryz.isAgg9
 z9:=Tryz.sizeOf9
 v9:=Tryz.zeroValue9
 t20:=Tryz.underlying20
 a20:=Tryz.isAgg20
 z20:=Tryz.sizeOf20
 v20:=Tryz.zeroValue20
 t37:=Tryz.underlying61
 a37:=Tryz.isAgg61
 z37:=Tryz.sizeOf61
 v37:=Tryz.zeroValue61
 t46:=Tryz.underlying334
 a46:=Tryz.isAgg334
 z46:=Tryz.sizeOf334
 v46:=Tryz.zeroValue334
 t51:=Tryz.underlying23
 a51:=Tryz.isAgg23
 z51:=Tryz.sizeOf23
 v51:=Tryz.zeroValue23
 t53:=Tryz.underlying44
 a53:=Tryz.isAgg44
 z53:=Tryz.sizeOf44
 v53:=Tryz.zeroValue44
 t70:=Tryz.underlying340
 a70:=Tryz.isAgg340
 z70:=Tryz.sizeOf340
 v70:=Tryz.zeroValue340
 t72:=Tryz.underlying342
 a72:=Tryz.isAgg342
 z72:=Tryz.sizeOf342
 v72:=Tryz.zeroValue342
 t75:=Tryz.underlying345
 a75:=Tryz.isAgg345
 z75:=Tryz.sizeOf345
 v75:=Tryz.zeroValue345
 t76:=Tryz.underlying346
 a76:=Tryz.isAgg346
 z76:=Tryz.sizeOf346
 v76:=Tryz.zeroValue346
 t109:=Tryz.underlying391
 a109:=Tryz.isAgg391
 z109:=Tryz.sizeOf391
 v109:=Tryz.zeroValue391
 t127:=Tryz.underlying387
 a127:=Tryz.isAgg387
 z127:=Tryz.sizeOf387
 v127:=Tryz.zeroValue387
 t146:=Tryz.underlying383
 a146:=Tryz.isAgg383
 z146:=Tryz.sizeOf383
 v146:=Tryz.zeroValue383
 t148:=Tryz.underlying331
 a148:=Tryz.isAgg331
 z148:=Tryz.sizeOf331
 v148:=Tryz.zeroValue331
 t164:=Tryz.underlying400
 a164:=Tryz.isAgg400
 z164:=Tryz.sizeOf400
 v164:=Tryz.zeroValue400}
theorem Tryz.Builder_Extra_105:Builder.Extra Tryz.prog Tryz.lays105_ren:={
 sizeBuilder:=by kernel_rfl
 liesBuilder:=by kernel_rfl
 t5:=Tryz.underlying5
 a5:=Tryz.isAgg5
 z5:=Tryz.sizeOf5
 v5:=Tryz.zeroValue5
 infoByte:=by kernel_rfl
 cellsByte:=by kernel_rfl
 sizeByte:=by kernel_rfl
 neB5:=by decide}
open Go.RowKit Go.Lib in
theorem Tryz.strings_Repeat (s:ByteArray) (c:Nat) (w:World) (hc:c≤9223372036854775807) (hlen:s.size*c≤140737488355328):
  Calls Tryz.prog 317 #[.string s,.int .i64 c] w fun e w'=>e= .returned (.string ⟨(Lib.repeatL s.data.toList c).toArray⟩)∧Below w.heap.size w w':=Any.strings_Repeat Tryz.lays105 Tryz.Builder_Extra_105 s c w hc hlen
end Go.Proofs
namespace Go.Proofs.YtfpagioknjjacaaGreatDoor
open Go.Sx
set_option linter.unusedSimpArgs false
set_option linter.unusedVariables false
set_option maxRecDepth 100000
set_option maxHeartbeats 4000000
def decF:Nat→Nat→List UInt8
 |0,_=>[]
 |f+1,n=>if n<10 then[UInt8.ofNat (48+n)]else decF f (n/10)++[UInt8.ofNat (48+n % 10)]
theorem decF_eq:∀f n,n<f→decF f n=Lib.decDigits n
 |0,n,h=>by omega
 |f+1,n,h=>by
  rw[decF,Lib.decDigits]
  by_cases h1:n<10
  ·rw[if_pos h1,dif_pos h1]
  ·rw[if_neg h1,dif_neg h1,decF_eq f (n/10) (by omega)]
def tN (n:Nat):ByteArray:=⟨(decF (n+1) n).toArray⟩
theorem tN_eq (n:Nat):tN n=⟨(Lib.decDigits n).toArray⟩:=by rw[tN,decF_eq _ _ (Nat.lt_succ_self n)]
def tZ (z:Int):ByteArray:=if z<0 then "-".toUTF8++tN z.natAbs else tN z.natAbs
def tQ (q:Rat):ByteArray:=if q.den=1 then tZ q.num else tZ q.num++ "/".toUTF8++tN q.den
theorem t_small (i:Nat) (h:i<100):CallOK Tryz.prog 365 [.val (.int .i64 (i:Nat))] [] (.val (.string (tN i))) [] []:=
 call_vals' (vs:=[.int .i64 (i:Nat)]) ⟨Tryz.f365,Tryz.func365,rfl,by kernel_rfl⟩ rfl (fun w=>by rw[tN_eq];exact Tryz.internal_strconv_small i h w)
theorem t_iFormat (n:Nat) (h:n<100):CallOK Tryz.prog 350 [.val (.int .u64 (n:Nat)),.val (.int .i64 10)] [] (.val (.string (tN n))) [] []:=by
 have k1:=t_small n h
 have t1:decide ((n:Int)<100)=true:=decide_eq_true (by omega)
 have t2:IntKind.i64.wrap (n:Int)=n:=wrap_i64 (by omega) (by omega)
 refine callV (Z:=[]) tabOK mixedOK Tryz.func350 rfl (by kernel_rfl) rfl rfl (by kernel_rfl) rfl ?_
 intro W0 w0 ρ0 hE
 conv=>whnf
 (repeat((first|refine step_w1 rfl rfl ?_|refine g_c (by assumption) ?_|rw[beq_self_eq_true]|rw[t1]|rw[t2]);conv=>whnf));(first|exact Recast.refl _|exact Frz.recast (Recast.refl _) rfl|(refine Frz.one rfl rfl ?_;skip)|(refine Frz.tup ?_;skip))
theorem t_Format (n:Nat) (h:n<100):CallOK Tryz.prog 313 [.val (.int .u64 (n:Nat)),.val (.int .i64 10)] [] (.val (.string (tN n))) [] []:=by
 have k1:=t_iFormat n h
 refine callV (Z:=[]) tabOK mixedOK Tryz.func313 rfl (by kernel_rfl) rfl rfl (by kernel_rfl) rfl ?_
 intro W0 w0 ρ0 hE
 conv=>whnf
 (repeat(first|(refine g_c (by assumption) ?_;conv=>whnf)));(first|exact Recast.refl _|exact Frz.recast (Recast.refl _) rfl|(refine Frz.one rfl rfl ?_;skip)|(refine Frz.tup ?_;skip))
def tV (a:List Rat):ByteArray:= "[".toUTF8++⟨(Lib.join ((a.map tQ).map (·.data.toList)) [32]).toArray⟩++ "]".toUTF8
theorem t_Join (ss:List ByteArray) (hN:ss.length≤1099511627776) (hlen:(Lib.join (ss.map (·.data.toList)) [32]).length≤140737488355328):
  CallOK Tryz.prog 220 [mvec 1 sel ss,.val (.string ⟨#[32]⟩)] [] (.val (.string ⟨(Lib.join (ss.map (·.data.toList)) [32]).toArray⟩)) [] []:=by
 refine call_strs ⟨Tryz.f220,Tryz.func220,rfl,by kernel_rfl⟩ rfl ?_ ?_
 ·rintro rfl a w
  exact Tryz.strings_Join_none a 0 ⟨#[32]⟩ w
 ·intro bk o c w hc hb hcap
  exact Tryz.strings_Join bk o c ss ⟨#[32]⟩ w hc hb (by omega) hcap hlen
end Go.Proofs.YtfpagioknjjacaaGreatDoor
namespace Go.Proofs.YtfpagioknjjacaaGreatDoor
open Go.Sx
set_option linter.unusedSimpArgs false
set_option linter.unusedVariables false
set_option maxRecDepth 100000
set_option maxHeartbeats 4000000
abbrev qA:Int×Int→SV:=ag2 (iel .i64) (iel .u32)
def qV (q:Int×Int):Rat:=(q.1:Rat)/((if q.2<1 then 1 else q.2:Int):Rat)
def qOK (q:Int×Int):Prop:=(-9223372036854775808≤q.1∧q.1<9223372036854775808)∧(0≤q.2∧q.2<4294967296)
theorem fs_qV {q:Int×Int} (h:qOK q):fs (qV q)≤130:=by
 have h1:=fs_div (q.1:Rat) ((if q.2<1 then 1 else q.2:Int):Rat)
 have h2:=fs_int h.1.1 h.1.2
 have h3:fs ((if q.2<1 then 1 else q.2:Int):Rat)≤65:=fs_int (by have:=h.2;split<;>omega) (by have:=h.2;split<;>omega)
 unfold qV
 omega
theorem c_QOf (q:Int×Int) (h:qOK q):CallOK Tryz.prog 39 [qA q] [] (.frac (qV q)) [] []:=by
 have hd:(if q.2<1 then 1 else q.2)≠0:=by have:=h.2;split<;>omega
 have e1:(if (1:Int)>q.2 then 1 else q.2)=(if q.2<1 then 1 else q.2):=rfl
 have e2:IntKind.i64.wrap (if (1:Int)>q.2 then 1 else q.2)=(if q.2<1 then 1 else q.2):=wrap_i64 (by have:=h.2;split<;>omega) (by have:=h.2;split<;>omega)
 have g2:=fs_int h.1.1 h.1.2
 have g3:fs ((if q.2<1 then 1 else q.2:Int):Rat)≤65:=fs_int (by have:=h.2;split<;>omega) (by have:=h.2;split<;>omega)
 have k1:=c_fOf natBig q.1 (if q.2<1 then 1 else q.2) (by unfold fs at g2 g3;omega) h.1.1 h.1.2 (by have:=h.2;split<;>omega) (by have:=h.2;split<;>omega) hd
 refine callV (Z:=[]) tabOK mixedOK Tryz.func39 rfl (by kernel_rfl) rfl rfl (by kernel_rfl) rfl ?_
 intro W0 w0 ρ0 hE
 conv=>whnf
 (repeat(first|(refine g_c (by assumption) ?_;conv=>whnf)|(rw[e2];conv=>whnf)));(first|exact Recast.refl _|exact Frz.recast (Recast.refl _) rfl|(refine Frz.one rfl rfl ?_;skip)|(refine Frz.tup ?_;skip))
theorem app_snoc {α:Type} {l:List α} {i:Nat} {d:α} (h:i<l.length):(l.take i).take i++(([l.getD i d]:List α).drop 0).take 1=l.take (i+1):=by
 have e:l.take (i+1)=l.take i++[l.getD i d]:=by rw[List.take_add_one,List.getD_eq_getElem?_getD,List.getElem?_eq_getElem h];rfl
 rw[List.take_take,Nat.min_self,e];rfl
theorem c_V (l:List (Int×Int)) (hl:l.length<1048576) (h:∀q∈l,qOK q):CallOK Tryz.prog 99 [mvec 2 qA l] [] (fvec (l.map qV)) [] []:=by
 have hz:(l.map qV).length=l.length:=by simp
 refine callF (Z:=[]) tabOK mixedOK Tryz.func99 rfl (by kernel_rfl) (by first|rfl|(simp[keylessL,keyless,keylessL_map, *];done)) (by first|rfl|(simp[keylessL,keyless,keylessL_map, *];done)) (by kernel_rfl) rfl ?_
 intro w0 ρ0 hE
 conv=>whnf
 skip
 refine SWx_adopt (t:=3) (k:=2001) (s:=5) (blk:=⟨52,true,.fracs []⟩) rfl rfl rfl ?_
 refine SW_loopN hE (fun k=>k) [0,2,3,4] [2001] (fun m fr hp=>∃i,m=l.length - i∧i≤l.length∧fr=[(0,mvec 2 qA l),(2,.val (.slice none 0 0)),(3,.slc 2001 5 0 i),(4,.val (.int .i64 (i:Nat)))]∧hp=[(2001,⟨52,true,.fracs ((l.map qV).take i)⟩)]) l.length ?_ ?_ ?_
 ·kernel_rfl
 ·exact⟨0,rfl,Nat.zero_le _,rfl,rfl⟩
 rintro m _ _ ⟨i,rfl,hi,rfl,rfl⟩
 have hlen:((l.map qV).take i).length=i:=by simp;omega
 conv=>whnf
 by_cases hlt:i<l.length
 ·have t1:=dlt hlt
  have t2:=winc (i:=i) (by omega)
  have k1:=c_QOf (l.getD i (0,0)) (h _ (getD_mem hlt))
  rw[←map_get (f:=qV) (e:=0) hlt]at k1
  (repeat((first|refine step_w1 rfl rfl ?_|refine And.intro (by first|decide|omega|(simp only[tl0,dlen,List.length_replicate,List.length_set,List.length_map,List.length_zipWith,List.length_take,List.length_append,List.length_cons,List.length_nil];omega)) ?_|refine g_c (by assumption) ?_|refine g_o (op_lenM rfl rfl rfl (ev_ok rfl) (tgt rfl) rfl) ?_|refine g_o (op_loadA rfl (ev_ok rfl) (tgt rfl) rfl (Nat.succ_ne_zero _) rfl) ?_|refine g_o (op_indexN (α:=Int×Int) (d:=(0,0)) rfl (ev_ok rfl) (ev_ok rfl) (tgt rfl) rfl (tgt rfl) rfl (by omega)) ?_|rw[t1]|rw[t2]);conv=>whnf))
  refine⟨l.length - (i+1),renBy [(18,2001)],[0,2,3,4],[18],by omega,by kernel_rfl,i+1,rfl,hlt,rfl, ?_⟩
  rw[←app_snoc (d:=0) (show i<(l.map qV).length by rw[hz];exact hlt)]
  rfl
 ·have t1:=dge hlt
  have hI:i=l.length:=by omega
  subst hI
  rw[List.take_of_length_le (by simp)]
  (repeat(first|(refine step_w2 rfl rfl ?_;conv=>whnf)|(refine g_o (op_lenM rfl rfl rfl (ev_ok rfl) (tgt rfl) rfl) ?_;conv=>whnf)|(rw[t1];conv=>whnf)));(first|exact Recast.refl _|exact Frz.recast (Recast.refl _) rfl|(refine Frz.one rfl rfl ?_;(repeat(first|(refine FrzC.fracs rfl ?_;(first|rfl|omega|(simp<;>fail)|(simp<;>omega))))))|(refine Frz.tup ?_;skip))
end Go.Proofs.YtfpagioknjjacaaGreatDoor
namespace Go.Proofs.YtfpagioknjjacaaGreatDoor
open Go.Sx
set_option linter.unusedSimpArgs false
set_option linter.unusedVariables false
def sumR:Nat→(Nat→Rat)→Rat
 |0,_=>0
 |n+1,f=>sumR n f+f n
theorem foldl_sum (l:List Rat):∀n,n≤l.length→(l.take n).foldl (·+·) 0=sumR n (fun i=>l.getD i 0)
 |0,_=>rfl
 |n+1,h=>by rw[foldl_take l n (by omega),foldl_sum l n (by omega),sumR]
theorem vdot_sum {a b:List Rat} {n:Nat} (ha:a.length=n) (hb:b.length=n):vdot a b=sumR n (fun i=>a.getD i 0*b.getD i 0):=by
 have hz:(vmul a b).length=n:=zip_len ha hb
 have h1:=foldl_sum (vmul a b) n (by omega)
 rw[List.take_of_length_le (by omega)]at h1
 rw[vdot,h1]
 clear h1
 have key:∀m,m≤n→sumR m (fun i=>(vmul a b).getD i 0)=sumR m (fun i=>a.getD i 0*b.getD i 0):=by
  intro m
  induction m with
  |zero=>intro _;rfl
  |succ m ih=>intro h;rw[sumR,sumR,ih (by omega),zip_get (d1:=0) (d2:=0) (by omega) (by omega)]
 exact key n (Nat.le_refl _)
section
variable (x y:Nat→Rat)
end
theorem sq_nonneg (q:Rat):0≤q*q:=by
 rcases Rat.le_total (a:=0) (b:=q)with h|h
 ·exact Rat.mul_nonneg h h
 ·have:0≤ -q:=by grind
  have:=Rat.mul_nonneg this this
  grind
theorem sum_nonneg {f:Nat→Rat} (h:∀i,0≤f i):∀n,0≤sumR n f
 |0=>Rat.le_refl
 |n+1=>by rw[sumR];have:=sum_nonneg h n;have:=h n;grind
theorem sum_congr {f g:Nat→Rat}:∀n,(∀i,i<n→f i=g i)→sumR n f=sumR n g
 |0,_=>rfl
 |n+1,h=>by rw[sumR,sumR,sum_congr n (fun i hi=>h i (by omega)),h n (by omega)]
end Go.Proofs.YtfpagioknjjacaaGreatDoor
namespace Go.Proofs.YtfpagioknjjacaaGreatDoor
open Go.Sx
set_option linter.unusedSimpArgs false
set_option linter.unusedVariables false
set_option maxRecDepth 100000
set_option maxHeartbeats 4000000
def Sm (B:Nat) (l:List Rat):Prop:=∀i,i<l.length→fs (l.getD i 0)≤B
theorem Sm_zip {op:Rat→Rat→Rat} {a b:List Rat} {A B:Nat} (hop:∀x y,fs (op x y)≤fs x+fs y) (ha:Sm A a) (hb:Sm B b) (hab:a.length=b.length):Sm (A+B) (List.zipWith op a b):=by
 intro i hi
 rw[List.length_zipWith]at hi
 rw[zip_get (d1:=0) (d2:=0) (by omega) (by omega)]
 have h1:=hop (a.getD i 0) (b.getD i 0)
 have h2:=ha i (by omega)
 have h3:=hb i (by omega)
 omega
theorem Sm_scale {c:Rat} {a:List Rat} {A C:Nat} (hc:fs c≤C) (ha:Sm A a):Sm (C+A) (vscale c a):=by
 intro i hi
 rw[List.length_zipWith]at hi
 rw[zip_get (d1:=0) (d2:=0) (by omega) (by omega)]
 have h1:=fs_mul c (a.getD i 0)
 have h2:=ha i (by omega)
 omega
theorem fsL_Sm:∀{l:List Rat} {B:Nat},Sm B l→fsL l≤l.length*B
 |[],_,_=>by simp[fsL]
 |q::l,B,h=>by
  have h1:=h 0 (by simp)
  have h2:=fsL_Sm (l:=l) (B:=B) (fun i hi=>h (i+1) (by simpa using hi))
  have e:fsL (q::l)=fs q+fsL l:=by simp[fsL]
  rw[e,List.length_cons,Nat.succ_mul]
  have:fs q≤B:=h1
  omega
theorem Fit_Sm {a b:List Rat} {A B:Nat} (ha:Sm A a) (hb:Sm B b) (hab:a.length=b.length) (h:A+B≤1073741824):Fit a b:=by
 intro i hi
 have h1:=ha i hi
 have h2:=hb i (by omega)
 omega
theorem fs_vdot {a b:List Rat} {A B n:Nat} (ha:Sm A a) (hb:Sm B b) (h1:a.length=n) (h2:b.length=n):fs (vdot a b)≤2+n*(A+B):=by
 have h:=fsL_Sm (Sm_zip fs_mul ha hb (h1.trans h2.symm))
 rw[zip_len h1 h2]at h
 have h3:=fs_sum (vmul a b) 0
 rw[fs_zero]at h3
 unfold vdot
 exact Nat.le_trans h3 (Nat.add_le_add_left h 2)
theorem Sm_le {A B:Nat} {l:List Rat} (h:A≤B) (ha:Sm A l):Sm B l:=fun i hi=>Nat.le_trans (ha i hi) h
theorem Sm_zero (n:Nat):Sm 2 (List.replicate n 0):=by
 intro i hi
 rw[List.length_replicate]at hi
 simp[List.getD_eq_getElem?_getD,hi,fs_zero]
section
variable {a b z:List Rat} {n i:Nat} {c:Rat}
theorem vec_ext (ha:a.length=n) (hb:b.length=n) (h:∀i,i<n→a.getD i 0=b.getD i 0):a=b:=by
 refine List.ext_getElem (ha.trans hb.symm) fun i h1 h2=> ?_
 have:=h i (by omega)
 rwa [List.getD_eq_getElem?_getD,List.getD_eq_getElem?_getD,List.getElem?_eq_getElem h1,List.getElem?_eq_getElem h2]at this
theorem get_scale (ha:a.length=n) (hi:i<n):(vscale c a).getD i 0=c*a.getD i 0:=zip_get (d2:=0) (by omega) (by omega)
theorem get_zero (hi:i<n):(List.replicate n (0:Rat)).getD i 0=0:=by simp[List.getD_eq_getElem?_getD,hi]
theorem sum_add (f g:Nat→Rat):∀n,sumR n (fun i=>f i+g i)=sumR n f+sumR n g
 |0=>by simp only[sumR];grind
 |n+1=>by simp only[sumR];rw[sum_add f g n];grind
theorem sum_smul (c:Rat) (f:Nat→Rat):∀n,sumR n (fun i=>c*f i)=c*sumR n f
 |0=>by simp only[sumR];grind
 |n+1=>by simp only[sumR];rw[sum_smul c f n];grind
theorem s_same (ha:a.length=n) (hb:b.length=n) (hn:n≤2048) (h:a=b):CallOK Tryz.prog 87 [fvec a,fvec b] [] (.val (.bool true)) [] []:=by
 have:=v_Same a b (by omega) (by omega)
 rwa [decide_eq_true h]at this
end
end Go.Proofs.YtfpagioknjjacaaGreatDoor
namespace Go.Proofs.YtfpagioknjjacaaGreatDoor
open Go.Sx
set_option linter.unusedSimpArgs false
set_option linter.unusedVariables false
set_option maxRecDepth 100000
set_option maxHeartbeats 4000000
def mk (r c:Nat) (f:Nat→Nat→Rat):List Rat:=(List.range (r*c)).map fun p=>f (p/c) (p % c)
abbrev el (a:List Rat) (c i k:Nat):Rat:=a.getD (i*c+k) 0
theorem mk_len (r c:Nat) (f:Nat→Nat→Rat):(mk r c f).length=r*c:=by simp[mk]
theorem idx_lt {r c i k:Nat} (hi:i<r) (hk:k<c):i*c+k<r*c:=by
 have:=Nat.mul_le_mul_right c (show i+1≤r from hi)
 rw[Nat.succ_mul]at this;omega
theorem idx_div {c i k:Nat} (hk:k<c):(i*c+k)/c=i:=by
 rw[Nat.mul_comm,Nat.mul_add_div (by omega),Nat.div_eq_of_lt hk,Nat.add_zero]
theorem idx_mod {c i k:Nat} (hk:k<c):(i*c+k) % c=k:=by
 rw[Nat.mul_comm,Nat.mul_add_mod,Nat.mod_eq_of_lt hk]
theorem mk_at {r c:Nat} {f:Nat→Nat→Rat} {p:Nat} (hp:p<r*c):(mk r c f).getD p 0=f (p/c) (p % c):=by
 simp[mk,List.getD_eq_getElem?_getD,hp]
theorem mk_el {r c i k:Nat} {f:Nat→Nat→Rat} (hi:i<r) (hk:k<c):el (mk r c f) c i k=f i k:=by
 rw[el,mk_at (idx_lt hi hk),idx_div hk,idx_mod hk]
theorem idx_split {r c p:Nat} (hp:p<r*c):p/c<r∧p % c<c∧p/c*c+p % c=p:=by
 have hc:0<c:=by rcases Nat.eq_zero_or_pos c with h|h
                 ·subst h;omega
                 ·exact h
 refine⟨(Nat.div_lt_iff_lt_mul hc).2 hp,Nat.mod_lt _ hc, ?_⟩
 rw[Nat.mul_comm];exact Nat.div_add_mod p c
theorem mat_ext {a b:List Rat} {r c:Nat} (ha:a.length=r*c) (hb:b.length=r*c) (h:∀i k,i<r→k<c→el a c i k=el b c i k):a=b:=by
 refine vec_ext ha hb fun p hp=> ?_
 obtain⟨h1,h2,h3⟩:=idx_split hp
 have:=h _ _ h1 h2
 rwa [el,el,h3]at this
theorem mk_ext {a:List Rat} {r c:Nat} {f:Nat→Nat→Rat} (ha:a.length=r*c) (h:∀i k,i<r→k<c→f i k=el a c i k):mk r c f=a:=
 mat_ext (mk_len ..) ha fun i k hi hk=>by rw[mk_el hi hk,h i k hi hk]
theorem mk_congr {r c:Nat} {f g:Nat→Nat→Rat} (h:∀i k,i<r→k<c→f i k=g i k):mk r c f=mk r c g:=
 mk_ext (mk_len ..) fun i k hi hk=>by rw[mk_el hi hk,h i k hi hk]
theorem Sm_mk {r c B:Nat} {f:Nat→Nat→Rat} (h:∀i k,i<r→k<c→fs (f i k)≤B):Sm B (mk r c f):=by
 intro p hp
 rw[mk_len]at hp
 obtain⟨h1,h2,_⟩:=idx_split hp
 rw[mk_at hp];exact h _ _ h1 h2
theorem el_sm {a:List Rat} {r c B i k:Nat} (h:Sm B a) (ha:a.length=r*c) (hi:i<r) (hk:k<c):fs (el a c i k)≤B:=h _ (by rw[ha];exact idx_lt hi hk)
theorem sum_swap (f:Nat→Nat→Rat) (m:Nat):∀n,sumR n (fun i=>sumR m (f i))=sumR m (fun k=>sumR n (fun i=>f i k))
 |0=>by
  rw[sumR]
  have:sumR m (fun _=>(0:Rat))=0:=by induction m with
   |zero=>rfl
   |succ m ih=>rw[sumR,ih];grind
  exact(show sumR m (fun k=>sumR 0 (fun i=>f i k))=0 from this).symm
 |n+1=>by rw[sumR,sum_swap f m n,←sum_add];exact sum_congr m fun k _=>rfl
theorem sum_mul (c:Rat) (f:Nat→Rat) (n:Nat):sumR n (fun i=>f i*c)=sumR n f*c:=by
 rw[Rat.mul_comm,←sum_smul]
 exact sum_congr n fun i _=>Rat.mul_comm _ _
theorem sum_fs {f:Nat→Rat} {B:Nat}:∀n,(∀i,i<n→fs (f i)≤B)→fs (sumR n f)≤2+n*B
 |0,_=>by rw[sumR,fs_zero];omega
 |n+1,h=>by
  have h1:=sum_fs n (fun i hi=>h i (by omega))
  have h2:=h n (by omega)
  have:=fs_add (sumR n f) (f n)
  rw[sumR,Nat.succ_mul];omega
def delta (i k:Nat):Rat:=if i=k then 1 else 0
theorem sum_deltaL {f:Nat→Rat} {i:Nat}:∀n,sumR n (fun j=>delta i j*f j)=if i<n then f i else 0
 |0=>by simp[sumR]
 |n+1=>by
  rw[sumR,sum_deltaL n,delta]
  by_cases h:i=n
  ·subst h;simp;grind
  ·by_cases h2:i<n
   ·simp[h,h2,show i<n+1 by omega];grind
   ·simp[h,h2,show ¬i<n+1 by omega];grind
theorem delta_comm (i k:Nat):delta i k=delta k i:=by unfold delta;by_cases h:i=k<;>simp[h,eq_comm]
theorem sum_deltaR {f:Nat→Rat} {i n:Nat}:sumR n (fun j=>f j*delta j i)=if i<n then f i else 0:=by
 rw[←sum_deltaL n];exact sum_congr n fun j _=>by rw[delta_comm,Rat.mul_comm]
abbrev mmul (r s t:Nat) (a b:List Rat):List Rat:=mk r t fun i k=>sumR s fun p=>el a s i p*el b t p k
abbrev mturn (r c:Nat) (a:List Rat):List Rat:=mk c r fun i k=>el a c k i
abbrev mone (n:Nat):List Rat:=mk n n delta
abbrev mapply (r c:Nat) (a v:List Rat):List Rat:=(List.range r).map fun i=>sumR c fun p=>el a c i p*v.getD p 0
theorem mapply_len {r c:Nat} {a v:List Rat}:(mapply r c a v).length=r:=by simp
theorem mapply_get {r c i:Nat} {a v:List Rat} (hi:i<r):(mapply r c a v).getD i 0=sumR c fun p=>el a c i p*v.getD p 0:=by
 simp[List.getD_eq_getElem?_getD,hi]
theorem sum_mulL {f:Nat→Rat} (c:Rat) (n:Nat):c*sumR n f=sumR n fun i=>c*f i:=(sum_smul c f n).symm
theorem sum_mulR {f:Nat→Rat} (c:Rat) (n:Nat):sumR n f*c=sumR n fun i=>f i*c:=(sum_mul c f n).symm
theorem mul_assocM {r s t u:Nat} (x y z:List Rat):mmul r t u (mmul r s t x y) z=mmul r s u x (mmul s t u y z):=by
 refine mk_congr fun i l hi hl=> ?_
 have e1:(sumR t fun j=>el (mmul r s t x y) t i j*el z u j l)=sumR t fun j=>sumR s fun k=>el x s i k*el y t k j*el z u j l:=
  sum_congr t fun j hj=>by rw[mk_el hi hj,sum_mulR]
 have e2:(sumR s fun k=>el x s i k*el (mmul s t u y z) u k l)=sumR s fun k=>sumR t fun j=>el x s i k*el y t k j*el z u j l:=
  sum_congr s fun k hk=>by rw[mk_el hk hl,sum_mulL];exact sum_congr t fun j _=>by grind
 rw[e1,e2,sum_swap]
theorem mul_addM {r s t:Nat} (x y z:List Rat):mmul r s t x (mk s t fun i k=>el y t i k+el z t i k)=mk r t fun i k=>el (mmul r s t x y) t i k+el (mmul r s t x z) t i k:=by
 refine mk_congr fun i k hi hk=> ?_
 rw[mk_el hi hk,mk_el hi hk,←sum_add]
 exact sum_congr s fun p hp=>by rw[mk_el hp hk];grind
theorem add_mulM {r s t:Nat} (x y z:List Rat):mmul r s t (mk r s fun i k=>el x s i k+el y s i k) z=mk r t fun i k=>el (mmul r s t x z) t i k+el (mmul r s t y z) t i k:=by
 refine mk_congr fun i k hi hk=> ?_
 rw[mk_el hi hk,mk_el hi hk,←sum_add]
 exact sum_congr s fun p hp=>by rw[mk_el hi hp];grind
theorem scale_mulM {r s t:Nat} (c:Rat) (x y:List Rat):mmul r s t (mk r s fun i k=>c*el x s i k) y=mk r t fun i k=>c*el (mmul r s t x y) t i k:=by
 refine mk_congr fun i k hi hk=> ?_
 rw[mk_el hi hk,sum_mulL]
 exact sum_congr s fun p hp=>by rw[mk_el hi hp];grind
theorem mul_oneM {r s:Nat} {x:List Rat} (hx:x.length=r*s):mmul r s s x (mone s)=x:=by
 refine mk_ext hx fun i k hi hk=> ?_
 rw[sum_congr s (g:=fun p=>el x s i p*delta p k) (fun p hp=>by rw[mk_el hp hk]),sum_deltaR,if_pos hk]
theorem one_mulM {r s:Nat} {x:List Rat} (hx:x.length=r*s):mmul r r s (mone r) x=x:=by
 refine mk_ext hx fun i k hi hk=> ?_
 rw[sum_congr r (g:=fun p=>delta i p*el x s p k) (fun p hp=>by rw[mk_el hi hp]),sum_deltaL,if_pos hi]
theorem turn_mulM {r s t:Nat} (x y:List Rat):mturn r t (mmul r s t x y)=mmul t s r (mturn s t y) (mturn r s x):=by
 refine mk_congr fun i k hi hk=> ?_
 rw[mk_el hk hi]
 exact sum_congr s fun p hp=>by rw[mk_el hi hp,mk_el hp hk,Rat.mul_comm]
theorem turn_turnM {r s:Nat} {x:List Rat} (hx:x.length=r*s):mturn s r (mturn r s x)=x:=
 mk_ext hx fun i k hi hk=>by rw[mk_el hk hi]
theorem mul_applyM {r s t:Nat} (x y v:List Rat):mapply r t (mmul r s t x y) v=mapply r s x (mapply s t y v):=by
 refine vec_ext mapply_len mapply_len fun i hi=> ?_
 rw[mapply_get hi,mapply_get hi]
 have e1:(sumR t fun j=>el (mmul r s t x y) t i j*v.getD j 0)=sumR t fun j=>sumR s fun k=>el x s i k*el y t k j*v.getD j 0:=
  sum_congr t fun j hj=>by rw[mk_el hi hj,sum_mulR]
 have e2:(sumR s fun k=>el x s i k*(mapply s t y v).getD k 0)=sumR s fun k=>sumR t fun j=>el x s i k*el y t k j*v.getD j 0:=
  sum_congr s fun k hk=>by rw[mapply_get hk,sum_mulL];exact sum_congr t fun j _=>by grind
 rw[e1,e2,sum_swap]
end Go.Proofs.YtfpagioknjjacaaGreatDoor
namespace Go.Proofs.YtfpagioknjjacaaGreatDoor
open Go.Sx
set_option linter.unusedSimpArgs false
set_option linter.unusedVariables false
set_option maxRecDepth 100000
set_option maxHeartbeats 4000000
abbrev mform (r c:Nat) (a v w:List Rat):Rat:=vdot v (mapply r c a w)
theorem form_sum {r c:Nat} {a v w:List Rat} (hv:v.length=r):mform r c a v w=sumR r fun i=>sumR c fun k=>v.getD i 0*el a c i k*w.getD k 0:=by
 rw[mform,vdot_sum hv mapply_len]
 exact sum_congr r fun i hi=>by rw[mapply_get hi,sum_mulL];exact sum_congr c fun k _=>by grind
theorem form_turn {r c:Nat} {a v w:List Rat} (hv:v.length=r) (hw:w.length=c):mform r c a v w=mform c r (mturn r c a) w v:=by
 rw[form_sum hv,form_sum hw,sum_swap]
 exact sum_congr c fun k hk=>sum_congr r fun i hi=>by rw[mk_el hk hi];grind
theorem gram_sym {r c:Nat} {a:List Rat}:mturn c c (mmul c r c (mturn r c a) a)=mmul c r c (mturn r c a) a:=by
 refine mk_ext (mk_len ..) fun i k hi hk=> ?_
 rw[mk_el hk hi,mk_el hi hk]
 exact sum_congr r fun p hp=>by rw[mk_el hk hp,mk_el hi hp];grind
theorem gram_form {r c:Nat} {a y:List Rat} (hy:y.length=c):mform c c (mmul c r c (mturn r c a) a) y y=vdot (mapply r c a y) (mapply r c a y):=by
 rw[show vdot (mapply r c a y) (mapply r c a y)=mform r c a (mapply r c a y) y from rfl,form_turn mapply_len hy,mform,mform,mul_applyM]
theorem self_nonneg {v:List Rat} {n:Nat} (hv:v.length=n):0≤vdot v v:=by
 rw[vdot_sum hv hv];exact sum_nonneg (f:=fun i=>v.getD i 0*v.getD i 0) (fun i=>sq_nonneg _) n
theorem sign_lt {q:Rat} (h:0≤q):decide (q.num.sign<0)=false:=by
 have h1:=Rat.num_nonneg.2 h
 refine decide_eq_false fun h2=> ?_
 rcases Int.lt_trichotomy q.num 0 with g|g|g
 ·omega
 ·rw[g]at h2;exact absurd h2 (by decide)
 ·rw[Int.sign_eq_one_of_pos g]at h2;omega
def SymM (n:Nat) (a:List Rat):Prop:=∀i k,i<n→k<n→el a n i k=el a n k i
theorem sym_turn {n:Nat} {a:List Rat} (ha:a.length=n*n) (h:SymM n a):mturn n n a=a:=mk_ext ha fun i k hi hk=>h k i hk hi
theorem sym_form {n:Nat} {a v w:List Rat} (ha:a.length=n*n) (h:SymM n a) (hv:v.length=n) (hw:w.length=n):mform n n a v w=mform n n a w v:=by
 rw[form_turn hv hw,sym_turn ha h]
theorem set_el {a:List Rat} {n i k j l:Nat} {q:Rat} (ha:a.length=n*n) (hi:i<n) (hk:k<n) (hj:j<n) (hl:l<n):el (a.set (i*n+k) q) n j l=if i=j∧k=l then q else el a n j l:=by
 have h1:=idx_lt hi hk
 have h2:=idx_lt hj hl
 simp only[el,List.getD_eq_getElem?_getD,List.getElem?_set]
 by_cases e:i*n+k=j*n+l
 ·have e1:=congrArg (·/n) e
  have e2:=congrArg (· % n) e
  simp only[idx_div hk,idx_div hl,idx_mod hk,idx_mod hl]at e1 e2
  subst e1 e2
  simp[ha,h1]
 ·rw[if_neg e,if_neg (by rintro⟨rfl,rfl⟩;exact e rfl)]
theorem SymM_set {a:List Rat} {n i k:Nat} {q:Rat} (ha:a.length=n*n) (h:SymM n a) (hi:i<n) (hk:k<n):SymM n ((a.set (i*n+k) q).set (k*n+i) q):=by
 intro j l hj hl
 have hb:(a.set (i*n+k) q).length=n*n:=by rw[List.length_set,ha]
 rw[set_el hb hk hi hj hl,set_el hb hk hi hl hj,set_el ha hi hk hj hl,set_el ha hi hk hl hj]
 by_cases e1:k=j∧i=l
 ·rw[if_pos e1];split
  ·rfl
  ·rw[if_pos ⟨e1.2,e1.1⟩]
 ·rw[if_neg e1]
  by_cases e2:k=l∧i=j
  ·rw[if_pos e2,if_pos ⟨e2.2,e2.1⟩]
  ·rw[if_neg e2,if_neg (fun h=>e2 ⟨h.2,h.1⟩),if_neg (fun h=>e1 ⟨h.2,h.1⟩)];exact h j l hj hl
theorem Sm_set {a:List Rat} {B p:Nat} {q:Rat} (h:Sm B a) (hq:fs q≤B):Sm B (a.set p q):=by
 intro i hi
 rw[List.length_set]at hi
 rw[List.getD_eq_getElem?_getD,List.getElem?_set]
 by_cases e:p=i
 ·subst e;simp[hi];exact hq
 ·rw[if_neg e,←List.getD_eq_getElem?_getD];exact h i hi
end Go.Proofs.YtfpagioknjjacaaGreatDoor
namespace Go.Proofs.YtfpagioknjjacaaGreatDoor
open Go.Sx
set_option linter.unusedSimpArgs false
set_option linter.unusedVariables false
section
open Go.Shelf Go.RowKit Go.Sort Go.Lib
set_option maxHeartbeats 6400000 in
set_option maxRecDepth 100000 in
theorem fmt_big (u:Nat) (hu:100≤u) (hu64:u<18446744073709551616) (w:World) (htab:Lib.TabIs Tryz.prog w "internal/strconv.uint64pow10" .u64 Lib.pow10Tab):
  Calls Tryz.prog 350 #[.int .u64 u,.int .i64 10] w fun e w'=>e= .returned (.string ⟨(Lib.decDigits u).toArray⟩)∧∃k os,w'=grow (w.drewN k) os:=by
 have mixed:Tryz.prog.follows .mixedOrders=true:=by kernel_rfl
 have t3:=Tryz.underlying3;have a3:=Tryz.isAgg3;have z3:=Tryz.sizeOf3;have v3:=Tryz.zeroValue3
 have t9:=Tryz.underlying9;have a9:=Tryz.isAgg9;have z9:=Tryz.sizeOf9;have v9:=Tryz.zeroValue9
 have t4:=Tryz.underlying4;have a4:=Tryz.isAgg4;have z4:=Tryz.sizeOf4;have v4:=Tryz.zeroValue4
 have t53:=Tryz.underlying44;have a53:=Tryz.isAgg44;have z53:=Tryz.sizeOf44;have v53:=Tryz.zeroValue44
 have t5:=Tryz.underlying5;have a5:=Tryz.isAgg5;have z5:=Tryz.sizeOf5;have v5:=Tryz.zeroValue5
 have t37:=Tryz.underlying61;have a37:=Tryz.isAgg61;have z37:=Tryz.sizeOf61;have v37:=Tryz.zeroValue61
 have t171:=Tryz.underlying403;have a171:=Tryz.isAgg403;have z171:=Tryz.sizeOf403;have v171:=Tryz.zeroValue403
 have t0:=Tryz.underlying0;have a0:=Tryz.isAgg0;have z0:=Tryz.sizeOf0;have v0:=Tryz.zeroValue0
 have e284:∀args w,(callFunc 366 args).run Tryz.prog w= .ok (.enter 366 args) w:=enters_of Tryz.func366 (by kernel_rfl) rfl
 have e285:∀args w,(callFunc 367 args).run Tryz.prog w= .ok (.enter 367 args) w:=enters_of Tryz.func367 (by kernel_rfl) rfl
 have hu1:1≤u:=by omega
 have hnd20:Lib.nDigits u≤20:=by have:=Lib.numDigits_eq u hu1 hu64;split at this<;>omega
 have hal:Tryz.prog.arrayLen 403=24:=by simp[Program.arrayLen,t171]
 have hsl:∀W,(Instr.sliceAt 403 (.pointer (some ⟨w.heap.size,0,none⟩)) none (some (.int .i64 (Lib.nDigits u:Int))) none).run Tryz.prog W= .ok (.slice (some ⟨w.heap.size,0,none⟩) (Lib.nDigits u) 24) W:=fun W=>by
  rw[run_sliceAt_array_h W 403 ⟨w.heap.size,0,none⟩ (by simp[Program.arrayLen,Program.elem,t171]) .i64 (Lib.nDigits u:Int) (by omega) (by rw[hal];omega)]
  go_simp
 have hH0:=Lib.holds_zero0 w 403 (Lib.nDigits u) (by omega)
 have hfmt:=Tryz.internal_strconv_formatBase10 w.heap.size 0 24 u (Array.replicate (Lib.nDigits u) 0) (w.alloc (.cells Lib.zeros24 403)) hH0 (by rw[Array.size_replicate];exact Lib.lt_pow_nDigits u) hu64 (by rw[Array.size_replicate];omega)
 rw[Array.size_replicate]at hfmt
 have HH0:=Lib.hid hH0
 have iu:¬(u:Int)<100:=by omega
 clear hH0 hal
 go_enter Tryz.func350,Tryz.ntmps350
 go_wp2_with (first
  |(go_at_fn 366;refine(Tryz.internal_strconv_numDigits u hu1 hu64 _ (Lib.tabIs_alloc htab _)).mono ?_;rintro e w' ⟨rfl,rfl⟩))
 go_at_fn 367
 refine hfmt.mono ?_
 rintro e w' ⟨rfl,k,v',dk,rfl,hF⟩
 have hcv:(convert 61 9 (.slice (some ⟨w.heap.size,0,none⟩) (Lib.nDigits u) 24)).run Tryz.prog ((putRow (fun(b:UInt8)=>Value.int .u8 (b.toNat:Int)) (w.alloc (.cells Lib.zeros24 403)) w.heap.size 0 dk).drewN k)= .ok (.string ⟨(Lib.decDigits u).toArray⟩) ((putRow (fun(b:UInt8)=>Value.int .u8 (b.toNat:Int)) (w.alloc (.cells Lib.zeros24 403)) w.heap.size 0 dk).drewN k):=by
  have h:=run_convert_bytes_back (P:=Tryz.prog) ((putRow (fun(b:UInt8)=>Value.int .u8 (b.toNat:Int)) (w.alloc (.cells Lib.zeros24 403)) w.heap.size 0 dk).drewN k) 61 9 5 ⟨w.heap.size,0,none⟩ 24 (Lib.decDigits u) t37 t5 t9 (fun j hj=>by
   rw[Lib.row_is_numeral hF j hj,Lib.add_plain,World.cell?_drewN]
   exact cell?_putRow (fun(b:UInt8)=>Value.int .u8 (b.toNat:Int)) _ w.heap.size 0 _ dk HH0.out (by rw[hF.size,Array.size_replicate]) j (by rw[hF.size];rw[Lib.decDigits_length]at hj;exact hj))
  rw[Lib.decDigits_length]at h
  exact h
 go_wp2
 go_ret
 obtain⟨os,eo⟩:=Lib.fin_at w (.cells Lib.zeros24 403) dk k 0
 exact⟨rfl,k,os,eo⟩
end
end Go.Proofs.YtfpagioknjjacaaGreatDoor
namespace Go.Proofs.YtfpagioknjjacaaGreatDoor
open Go.Sx
set_option linter.unusedSimpArgs false
set_option linter.unusedVariables false
set_option maxRecDepth 100000
set_option maxHeartbeats 4000000
def padF:Nat→Nat→List UInt8
 |0,_=>[]
 |k+1,r=>padF k (r/10)++[UInt8.ofNat (48+r % 10)]
theorem dec_big {n:Nat} (h:10≤n):Lib.decDigits n=Lib.decDigits (n/10)++[UInt8.ofNat (48+n % 10)]:=by rw[Lib.decDigits,dif_neg (by omega)]
theorem dec_lt {n:Nat} (h:n<10):Lib.decDigits n=[UInt8.ofNat (48+n)]:=by rw[Lib.decDigits,dif_pos h]
theorem dec_split:∀k q r,0<q→r<10^k→Lib.decDigits (q*10^k+r)=Lib.decDigits q++padF k r
 |0,q,r,hq,hr=>by
  obtain rfl:r=0:=by simp at hr;exact hr
  simp[padF]
 |k+1,q,r,hq,hr=>by
  have hp:0<10^k:=Nat.pow_pos (by decide)
  have e:q*10^(k+1)=10*(q*10^k):=by rw[Nat.pow_succ,←Nat.mul_assoc,Nat.mul_comm]
  have hqp:0<q*10^k:=Nat.mul_pos hq hp
  rw[Nat.pow_succ]at hr
  rw[dec_big (by omega),show(q*10^(k+1)+r)/10=q*10^k+r/10 by omega,show(q*10^(k+1)+r) % 10=r % 10 by omega,dec_split k q (r/10) hq (by omega),padF,List.append_assoc]
theorem pad_zero:∀k,padF k 0=List.replicate k 48
 |0=>rfl
 |k+1=>by rw[padF,Nat.zero_div,pad_zero k,List.replicate_succ'];rfl
theorem pad_dec:∀k r,r<10^k→0<k→padF k r=List.replicate (k - (Lib.decDigits r).length) 48++Lib.decDigits r∧(Lib.decDigits r).length≤k
 |0,r,h,h0=>by omega
 |k+1,r,h,_=>by
  by_cases h1:r<10
  ·rw[padF,show r/10=0 by omega,pad_zero,dec_lt h1,show r % 10=r by omega]
   exact⟨rfl,by simp⟩
  ·have hk:0<k:=by rcases Nat.eq_zero_or_pos k with g|g
                   ·subst g;simp at h;omega
                   ·exact g
   rw[Nat.pow_succ]at h
   obtain⟨h2,h3⟩:=pad_dec k (r/10) (by omega) hk
   have e:=dec_big (n:=r) (by omega)
   rw[padF,h2,e,List.length_append,List.append_assoc,List.length_singleton]
   exact⟨by rw[show k+1 - ((Lib.decDigits (r/10)).length+1)=k - (Lib.decDigits (r/10)).length by omega],by omega⟩
theorem pow_tab {ρ:Rho} {w:World} (h:∀b o,ρ.imm b=some o→w.heap[b]? =some o):Lib.TabIs Tryz.prog w "internal/strconv.uint64pow10" .u64 Lib.pow10Tab:=by
 obtain⟨o,h1,_,ty,fz,rfl⟩:=ρ.glob 2 .u64 Lib.pow10Tab (by decide+kernel)
 exact tab_is (g:=2) (by kernel_rfl) (h _ _ h1)
theorem call_valsT {f:FuncId} {vs:List Value} {v:Value} (hf:FnOK Tryz.prog f) (hv:v.oneCell'=true) (h:∀w:World,Lib.TabIs Tryz.prog w "internal/strconv.uint64pow10" .u64 Lib.pow10Tab→Calls Tryz.prog f vs.toArray w fun e w'=>e= .returned v∧RowKit.Below w.heap.size w w'):CallOK Tryz.prog f (vs.map .val) [] (.val v) [] []:=by
 refine .inl ⟨hf,fun ρ w z hz hp=> ?_⟩
 rw[zip_vals hz]
 refine(h w (pow_tab hp.imm)).mono ?_
 rintro e w' ⟨rfl,hb⟩
 exact⟨v,ρ,rfl,.of_below hb (has_val hv)⟩
theorem t_iFmtB (n:Nat) (h1:100≤n) (h2:n<18446744073709551616):CallOK Tryz.prog 350 [.val (.int .u64 (n:Nat)),.val (.int .i64 10)] [] (.val (.string (tN n))) [] []:=
 call_valsT (vs:=[.int .u64 (n:Nat),.int .i64 10]) ⟨Tryz.f350,Tryz.func350,rfl,by kernel_rfl⟩ rfl fun w ht=>by
  rw[tN_eq]
  refine(fmt_big n h1 h2 w ht).mono ?_
  rintro e w' ⟨rfl,k,os,rfl⟩
  exact⟨rfl,Lib.below_grow w.heap.size w (Nat.le_refl _) k os⟩
theorem t_FormatG (n:Nat) (h:n<18446744073709551616):CallOK Tryz.prog 313 [.val (.int .u64 (n:Nat)),.val (.int .i64 10)] [] (.val (.string (tN n))) [] []:=by
 by_cases hs:n<100
 ·exact t_Format n hs
 ·have k1:=t_iFmtB n (by omega) h
  refine callV (Z:=[]) tabOK mixedOK Tryz.func313 rfl (by kernel_rfl) rfl rfl (by kernel_rfl) rfl ?_
  intro W0 w0 ρ0 hE
  conv=>whnf
  (repeat(first|(refine g_c (by assumption) ?_;conv=>whnf)));(first|exact Recast.refl _|exact Frz.recast (Recast.refl _) rfl|(refine Frz.one rfl rfl ?_;skip)|(refine Frz.tup ?_;skip))
theorem t_Itoa (n:Nat) (h:n<9223372036854775808):CallOK Tryz.prog 316 [.val (.int .i64 (n:Nat))] [] (.val (.string (tN n))) [] []:=
 call_valsT (vs:=[.int .i64 (n:Nat)]) ⟨Tryz.f316,Tryz.func316,rfl,by kernel_rfl⟩ rfl fun w ht=>by
  rw[tN_eq]
  refine(Tryz.strconv_Itoa n (by omega) (by omega) w ht).mono ?_
  rintro e w' ⟨rfl,k,os,rfl⟩
  refine⟨?_,Lib.below_grow w.heap.size w (Nat.le_refl _) k os⟩
  rw[Lib.itoa_nonneg]
theorem t_Repeat (c:Nat) (hc:c≤100):CallOK Tryz.prog 317 [.val (.string ⟨#[48]⟩),.val (.int .i64 (c:Nat))] [] (.val (.string ⟨(List.replicate c 48).toArray⟩)) [] []:=
 call_vals (vs:=[.string ⟨#[48]⟩,.int .i64 (c:Nat)]) ⟨Tryz.f317,Tryz.func317,rfl,by kernel_rfl⟩ rfl fun w=>by
  have e:∀c,Lib.repeatL [48] c=List.replicate c 48:=fun c=>by
   induction c with
   |zero=>rfl
   |succ c ih=>show[48]++Lib.repeatL [48] c=_;rw[ih,List.replicate_succ,List.singleton_append]
  refine(Tryz.strings_Repeat ⟨#[48]⟩ c w (by omega) (by show 1*c≤_;omega)).mono ?_
  rintro e' w' ⟨rfl,hb⟩
  exact⟨by rw[show(⟨#[48]⟩:ByteArray).data.toList=[48]from rfl,e],hb⟩
abbrev sblk (ss:List ByteArray):Blk:=⟨9,true,.seq 1 (ss.map sel)⟩
theorem str_ext {a b:List ByteArray} {n:Nat} (ha:a.length=n) (hb:b.length=n) (h:∀i,i<n→a.getD i .empty=b.getD i .empty):a=b:=by
 refine List.ext_getElem (ha.trans hb.symm) fun i h1 h2=> ?_
 have:=h i (by omega)
 rwa [List.getD_eq_getElem?_getD,List.getD_eq_getElem?_getD,List.getElem?_eq_getElem h1,List.getElem?_eq_getElem h2]at this
theorem str_set {l:List ByteArray} {i j:Nat} {v:ByteArray} (hi:i<l.length):(l.set i v).getD j .empty=if i=j then v else l.getD j .empty:=by
 simp only[List.getD_eq_getElem?_getD,List.getElem?_set]
 by_cases h:i=j
 ·subst h;simp[hi]
 ·simp[h]
theorem str_rev {l:List ByteArray} {n k:Nat} (hl:l.length=n) (hk:k<n):l.reverse.getD k .empty=l.getD (n - 1 - k) .empty:=by
 simp only[List.getD_eq_getElem?_getD]
 rw[List.getElem?_reverse (by omega),hl]
theorem t_Reverse (ss:List ByteArray) (n:Nat) (hn:ss.length=n) (hl:n<1099511627776) (K:Nat):CallOK Tryz.prog 318 [.slc K 1 0 n] [(K,sblk ss)] (.tup []) [] [(K,sblk ss.reverse)]:=by
 have e0:IntKind.i64.wrap ((n:Int) - 1)=(n:Int) - 1:=wrap_i64 (by omega) (by omega)
 refine callK (Z:=[]) tabOK mixedOK Tryz.func318 rfl (by kernel_rfl) (args:=[.slc 1001 1 0 n]) (fk:=[(1001,sblk ss)]) (c:=.tup []) (new:=[]) (upd:=[(1001,sblk ss.reverse)]) (ShapeOK.of rfl rfl rfl rfl rfl rfl rfl rfl rfl rfl rfl) rfl (fun _=>K) NamesOK.upd ?_
 intro W0 w0 ρ0 hE
 conv=>whnf
 (repeat(first|(rw[e0];conv=>whnf)))
 refine SW_loopN hE (fun k=>k) [0,2,3] [1001] (fun q fr hp=>∃(i:Nat) (ys:List ByteArray),q=n - i∧(2*i≤n)∧ys.length=n∧(∀k,k<n→ys.getD k .empty=if k<i∨n - i≤k then ss.getD (n - 1 - k) .empty else ss.getD k .empty)∧
  fr=[(0,.slc 1001 1 0 n),(2,.val (.int .i64 (i:Nat))),(3,.val (.int .i64 ((n:Int) - 1 - i)))]∧hp=[(1001,sblk ys)]) n ?_ ?_ ?_
 ·kernel_rfl
 ·exact⟨0,ss,rfl,by omega,hn,(fun k hk=>by rw[if_neg (by omega)]),by rw[show(n:Int) - 1 - ((0:Nat):Int)=(n:Int) - 1 by omega];rfl,rfl⟩
 rintro q _ _ ⟨i,ys,rfl,hi,hy,hv,rfl,rfl⟩
 conv=>whnf
 by_cases hgo:i+i+1<n
 ·obtain⟨j,hj⟩:∃j,j=n - 1 - i:=⟨_,rfl⟩
  have ej:(n:Int) - 1 - i=(j:Int):=by omega
  rw[ej]
  have t1:decide ((i:Int)<(j:Int))=true:=decide_eq_true (by omega)
  have e1:=winc (i:=i) (by omega)
  have e2:IntKind.i64.wrap ((j:Int) - 1)=(n:Int) - 1 - ((i+1:Nat):Int):=by rw[wrap_i64 (by omega) (by omega)];omega
  have g1:(ys.map sel).getD i .any= .val (.string (ys.getD i .empty)):=by rw[map_get (d:=ByteArray.empty) (by omega)];rfl
  have g2:(ys.map sel).getD j .any= .val (.string (ys.getD j .empty)):=by rw[map_get (d:=ByteArray.empty) (by omega)];rfl
  have g3:((ys.map sel).set i (.val (.string (ys.getD j .empty)))).getD j .any= .val (.string (ys.getD j .empty)):=by rw[←g2,List.getD_eq_getElem?_getD,List.getElem?_set_ne (by omega),←List.getD_eq_getElem?_getD]
  have hlm:(ys.map sel).length=n:=by rw[List.length_map];exact hy
  have hset:(((ys.set i (ys.getD j .empty)).set j (ys.getD i .empty)).map sel)=((ys.map sel).set i (.val (.string (ys.getD j .empty)))).set j (.val (.string (ys.getD i .empty))):=by rw[List.map_set,List.map_set];rfl
  have hnew:∀k,k<n→((ys.set i (ys.getD j .empty)).set j (ys.getD i .empty)).getD k .empty=if k<i+1∨n - (i+1)≤k then ss.getD (n - 1 - k) .empty else ss.getD k .empty:=by
   intro k hk
   rw[str_set (by rw[List.length_set];omega),str_set (by omega)]
   by_cases h1:j=k
   ·rw[if_pos h1,if_pos (by omega),hv i (by omega),if_neg (by omega),show n - 1 - k=i by omega]
   ·rw[if_neg h1]
    by_cases h2:i=k
    ·rw[if_pos h2,if_pos (by omega),hv j (by omega),if_neg (by omega),show n - 1 - k=j by omega]
    ·rw[if_neg h2,hv k hk]
     by_cases h3:k<i∨n - i≤k
     ·rw[if_pos h3,if_pos (by omega)]
     ·rw[if_neg h3,if_neg (by omega)]
  (repeat((first|refine step_w1 rfl rfl ?_|refine step_i (by kernel_rfl) ?_|refine And.intro (by first|decide|omega|(simp only[tl0,dlen,List.length_replicate,List.length_set,List.length_map,List.length_zipWith,List.length_take,List.length_append,List.length_cons,List.length_nil];omega)) ?_|rw[t1]|rw[show 0+(i:Int).toNat=i from by omega]|rw[show 0+(j:Int).toNat=j from by omega]|rw[g1]|rw[g2]|rw[g3]|rw[e1]|rw[e2]);conv=>whnf))
  refine⟨n - (i+1),fun k=>k,[0,2,3],[1001],by omega,by kernel_rfl,i+1,_,rfl,by omega, ?_,hnew,rfl, ?_⟩
  ·rw[List.length_set,List.length_set];exact hy
  ·rw[sblk,hset];rfl
 ·have t1:decide ((i:Int)<(n:Int) - 1 - i)=false:=decide_eq_false (by omega)
  have e:ys=ss.reverse:=str_ext hy (by rw[List.length_reverse];exact hn) fun k hk=>by
   rw[hv k hk,str_rev hn hk]
   split
   ·rfl
   ·rw[show n - 1 - k=k by omega]
  rw[e]
  (repeat(first|(refine step_w2 rfl rfl ?_;conv=>whnf)|(rw[t1];conv=>whnf)))
  exact⟨Recast.refl _,(fun _ _ h=>by cases h),fun k b hm=>by simp only[List.mem_singleton,Prod.mk.injEq]at hm;obtain⟨rfl,rfl⟩:=hm;rfl⟩
theorem call_strsM {P:Program} {f:FuncId} {ss:List ByteArray} {n:Nat} {sep:ByteArray} {v:Value} {ty:TypeId} (hn:ss.length=n) (hf:FnOK P f) (hv:v.oneCell'=true)
  (h0:ss=[]→∀(a:Option Addr) (w:World),Calls P f #[.slice a 0 0,.string sep] w fun e w'=>e= .returned v∧w'=w)
  (h:∀(bk o c:Nat) (w:World),(∀(j:Nat) x,ss[j]? =some x→w.cell? ⟨bk,o+j,none⟩=some (.string x))→bk<w.heap.size→ss.length≤c→Calls P f #[.slice (some ⟨bk,o,none⟩) ss.length c,.string sep] w fun e w'=>e= .returned v∧RowKit.Below w.heap.size w w') (K:Nat):
  CallOK P f [.slc K 1 0 n,.val (.string sep)] [(K,⟨ty,true,.seq 1 (ss.map sel)⟩)] (.val v) [] []:=by
 subst hn
 refine .inl ⟨hf,fun ρ w z hz hp=> ?_⟩
 simp only[HasZ]at hz
 obtain⟨x,_,rfl,hx,y,_,rfl,hy,rfl⟩:=hz
 simp only[HasC]at hy
 obtain⟨rfl,_⟩:=hy
 have fin:∀(a:Value),(Calls P f #[a,.string sep] w fun e w'=>e= .returned v∧RowKit.Below w.heap.size w w')→Calls P f (List.zipWith mkV [.slc K 1 0 ss.length,SV.val (.string sep)] [[a],[.string sep]]).toArray w fun e w'=>∃v' ρ',e= .returned v'∧Post ρ w (.val v) [] [] v' ρ' w':=fun a hc=>by
  have e:(List.zipWith mkV [.slc K 1 0 ss.length,SV.val (.string sep)] [[a],[.string sep]]).toArray= #[a,.string sep]:=by simp[mkV,SV.isOne]
  rw[e]
  refine hc.mono ?_
  rintro e w' ⟨rfl,hb⟩
  exact⟨v,ρ,rfl,.of_below hb (has_val hv)⟩
 obtain⟨z,hz,hcase⟩:=blk_rows (hp.hfk K _ (List.mem_cons_self ..)) rfl rfl
 simp only[HasC]at hx
 rcases hx with⟨b,t,cap,e1,e2,e3,rfl⟩|⟨hn,a,rfl⟩
 ·rcases hcase with⟨b',t',ex,h1,h2,h3,h4⟩|⟨h1,_⟩
  ·rw[e1]at h1
   cases h1
   have hzf:∀(l:List ByteArray) (z:List (List Value)),HasZ (bareR ρ.imm ρ.glob) (l.map sel) z→z.flatten=l.map .string:=by
    intro l
    induction l with
    |nil=>intro z hz;simp only[List.map_nil,HasZ]at hz;subst hz;rfl
    |cons s l ih=>
     intro z hz
     simp only[List.map_cons,HasZ,sel,HasC]at hz
     obtain⟨x,r,rfl,⟨rfl,_⟩,h⟩:=hz
     simp[ih r h]
   refine fin _ ((h b 0 cap w (fun j x hj=> ?_) ?_ e2))
   ·rw[cell_of_row w b _ _ _ _ h2,List.getElem?_toArray,hzf ss z hz.2.1,Nat.zero_add]
    rw[List.getElem?_append_left (by rw[List.length_map];exact(List.getElem?_eq_some_iff.1 hj).1),List.getElem?_map,hj];rfl
   ·rcases Nat.lt_or_ge b w.heap.size with h'|h'
    ·exact h'
    ·simp[Array.getElem?_eq_none h']at h2
  ·rw[e1]at h1;cases h1
 ·refine fin _ ?_
  have hn:ss=[]:=List.length_eq_zero_iff.1 hn
  subst hn
  exact(h0 rfl a w).mono fun _ _ ⟨he,hw⟩=>⟨he,hw▸RowKit.Below.refl _ _⟩
theorem t_JoinM (ss:List ByteArray) (n:Nat) (hn:ss.length=n) (sep:ByteArray) (hN:ss.length≤1099511627776) (hlen:(Lib.join (ss.map (·.data.toList)) sep.data.toList).length≤140737488355328) (K:Nat):
  CallOK Tryz.prog 220 [.slc K 1 0 n,.val (.string sep)] [(K,sblk ss)] (.val (.string ⟨(Lib.join (ss.map (·.data.toList)) sep.data.toList).toArray⟩)) [] []:=by
 refine call_strsM hn ⟨Tryz.f220,Tryz.func220,rfl,by kernel_rfl⟩ rfl ?_ ?_ K
 ·rintro rfl a w
  exact Tryz.strings_Join_none a 0 sep w
 ·intro bk o c w hc hb hcap
  exact Tryz.strings_Join bk o c ss sep w hc hb (by omega) hcap hlen
end Go.Proofs.YtfpagioknjjacaaGreatDoor
namespace Go.Proofs.YtfpagioknjjacaaGreatDoor
open Go.Sx
set_option linter.unusedSimpArgs false
set_option linter.unusedVariables false
set_option maxRecDepth 100000
set_option maxHeartbeats 4000000
theorem dec_len:∀k n,n<2^k→(Lib.decDigits n).length≤k+1
 |0,n,h=>by
  obtain rfl:n=0:=by simp at h;exact h
  rw[dec_lt (by decide)];simp
 |k+1,n,h=>by
  by_cases h1:n<10
  ·rw[dec_lt h1];simp
  ·rw[dec_big (by omega),List.length_append,List.length_singleton]
   have:=dec_len k (n/10) (by rw[Nat.pow_succ]at h;omega)
   omega
def cat (ss:List ByteArray):List UInt8:=(ss.map (·.data.toList)).flatten
theorem join_empty (l:List (List UInt8)):Lib.join l []=l.flatten:=by
 cases l with
 |nil=>rfl
 |cons x r=>rw[Lib.join_cons,Lib.joinTail];simp
theorem cut_digs {v m:Nat} (h:v<4294967296^m):cutN (digs v m) m=(wInts v).length∧(wInts v).length≤m:=by
 have hlen:=digs_len v m
 have hv:=valI_digs v m
 rw[Nat.mod_eq_of_lt h]at hv
 have hc:=valI_cut (digs v m) m
 have hle:=cutN_le (digs v m) m
 have htop:=cutN_top (digs v m) m
 have:=wInts_of (cutN (digs v m) m) (digs v m) (digs_w32 v m) (by omega) htop
 rw[hc,hv,Int.toNat_natCast]at this
 have e:(wInts v).length=cutN (digs v m) m:=by rw[this,List.length_take];omega
 exact⟨e.symm,by omega⟩
theorem sz_div9 {v:Nat} (h:1000000000≤v):sz (v/1000000000)+29≤sz v:=by
 have h1:v<2^sz v:=sz_le.1 (Nat.le_refl _)
 have h2:29≤sz v:=by
  rcases Nat.lt_or_ge (sz v) 29 with g|g
  ·have:2^sz v≤2^29:=Nat.pow_le_pow_right (by decide) (by omega)
   omega
  ·exact g
 have h3:sz (v/1000000000)≤sz v - 29:=sz_le.2 (by
  rw[Nat.div_lt_iff_lt_mul (by decide)]
  have e:2^sz v=2^(sz v - 29)*2^29:=by rw[←Nat.pow_add];congr 1;omega
  have:2^(sz v - 29)*2^29≤2^(sz v - 29)*1000000000:=Nat.mul_le_mul_left _ (by decide)
  omega)
 omega
theorem tN_size9 {r:Nat} (h:r<1000000000):(tN r).size≤9:=by
 rw[tN_eq]
 show(Lib.decDigits r).toArray.size≤9
 have:=(pad_dec 9 r h (by decide)).2
 simpa using this
theorem pad_tN {r:Nat} (h:r<1000000000):((⟨(List.replicate (9 - (tN r).size) 48).toArray⟩:ByteArray)++tN r).data.toList=padF 9 r:=by
 have hs:(tN r).size=(Lib.decDigits r).length:=by rw[tN_eq];show(Lib.decDigits r).toArray.size=_;simp
 rw[(pad_dec 9 r h (by decide)).1,hs,tN_eq,ByteArray.data_append]
 simp
theorem cat_snoc (ps:List ByteArray) (s:ByteArray):cat (ps++[s]).reverse=s.data.toList++cat ps.reverse:=by simp[cat]
theorem wl_of {n M:Nat} (h:sz n≤M):(wInts n).length≤M:=len_le_of (Nat.lt_of_lt_of_le (sz_le.1 h) (Nat.pow_le_pow_left (by decide) M))
theorem t_NatB (n:Nat) (h:¬n<18446744073709551616) (hs:sz n≤1073741824):CallOK Tryz.prog 240 [.nat n] [] (.val (.string (tN n))) [] []:=by
 have hwl:(wInts n).length<1099511627776:=Nat.lt_of_le_of_lt (wl_of hs) (by decide)
 have k1:=c_words n 3001 hwl
 have e2:((big n).toList==(ByteArray.mk #[]).toList)=false:=by rw[big_eq];exact decide_eq_false h
 have hwa:=wArr_len n
 refine callF (Z:=[]) tabOK mixedOK Tryz.func240 rfl (by kernel_rfl) (by first|rfl|(simp[keylessL,keyless,keylessL_map, *];done)) (by first|rfl|(simp[keylessL,keyless,keylessL_map, *];done)) (by kernel_rfl) rfl ?_
 intro w0 ρ0 hE
 conv=>whnf
 (repeat((first|refine step_w2 rfl rfl ?_|refine g_cn (by assumption) rfl ?_|rw[e2]|rw[Nat.zero_add]);conv=>whnf))
 refine SWx_adopt (t:=3) (k:=2002) (s:=1) (blk:=sblk []) rfl rfl rfl ?_
 have hwn:=wInts_val n
 refine SW_loopN hE (fun k=>k) [3,4] [2002,3001] (fun q fr hp=>∃(v:Nat) (L:List Int) (ps:List ByteArray),q=v∧(wInts v).length≤L.length∧L.length<1099511627776∧W32 L∧valI L (wInts v).length=(v:Int)∧((v≠0∧Lib.decDigits n=Lib.decDigits v++cat ps.reverse∧ps.length*29+sz v≤sz n)∨(v=0∧Lib.decDigits n=cat ps.reverse∧ps.length*29≤sz n+29))∧
  fr=[(3,.slc 2002 1 0 ps.length),(4,.slc 3001 1 0 (wInts v).length)]∧hp=[(2002,sblk ps),(3001,⟨23,true,.ints .u32 L⟩)]) n ?_ ?_ ?_
 ·kernel_rfl
 ·have hwA:(wArr n)=wInts n:=by rw[wArr,if_neg h]
  refine⟨n,wArr n,[],rfl,hwa,by rw[hwA];exact hwl,by rw[hwA];exact wInts_w32 n,by rw[hwA];exact hwn,.inl ⟨by omega, ?_,by simp⟩,rfl,rfl⟩
  simp[cat]
 rintro q _ _ ⟨v,L,ps,rfl,hL,hLl,hLw,hLv,hrel,rfl,rfl⟩
 conv=>whnf
 have hpl:ps.length<1099511627776:=by rcases hrel with⟨_,_,g⟩|⟨_,_,g⟩<;>omega
 by_cases h0:0<q
 ·obtain⟨_,hdec,hlen⟩:=hrel.resolve_right (by omega)
  clear hrel
  have hm:=wInts_top (n:=q) (by omega)
  have t1:decide (((wInts q).length:Int)>0)=true:=decide_eq_true (by omega)
  have hqm:q<4294967296^(wInts q).length:=lt_of_len q
  have k2:=c_short L (wInts q).length hL (by omega) hLw 1000000000 (by decide) (by decide) 3001 3002 (by decide) true q hLv
  obtain⟨hcut,hcle⟩:=cut_digs (v:=q/1000000000) (m:=(wInts q).length) (Nat.lt_of_le_of_lt (Nat.div_le_self _ _) hqm)
  have hdl:=digs_len (q/1000000000) (wInts q).length
  have k3:=c_cut (digs (q/1000000000) (wInts q).length) (wInts q).length (by omega) (by omega) 3002 true
  rw[hcut]at k3
  have hr:q % 1000000000<1000000000:=Nat.mod_lt _ (by decide)
  have k4:=t_Itoa (q % 1000000000) (by omega)
  have e1:IntKind.i64.wrap ((q % 1000000000:Nat):Int)=((q % 1000000000:Nat):Int):=wrap_i64 (by omega) (by omega)
  have hsz:=tN_size9 hr
  have hdw:W32 (digs (q/1000000000) (wInts q).length):=digs_w32 _ _
  have hdv:valI (digs (q/1000000000) (wInts q).length) (wInts (q/1000000000)).length=((q/1000000000:Nat):Int):=by
   have h1:=valI_cut (digs (q/1000000000) (wInts q).length) (wInts q).length
   rw[hcut,valI_digs,Nat.mod_eq_of_lt (Nat.lt_of_le_of_lt (Nat.div_le_self _ _) hqm)]at h1
   exact h1
  have hqv:q/1000000000*1000000000+q % 1000000000=q:=by have:=Nat.div_add_mod q 1000000000;omega
  by_cases hq:1000000000≤q
  ·have hv0:0<q/1000000000:=Nat.div_pos hq (by decide)
   have hs9:=sz_div9 hq
   have hsplit:=dec_split 9 (q/1000000000) (q % 1000000000) hv0 hr
   rw[show 10^9=1000000000 from rfl,hqv,←pad_tN hr]at hsplit
   have hm2:=wInts_top (n:=q/1000000000) (by omega)
   have t2:decide (((wInts (q/1000000000)).length:Int)>0)=true:=decide_eq_true (by omega)
   have e2:IntKind.i64.wrap (9 - ((tN (q % 1000000000)).size:Int))=((9 - (tN (q % 1000000000)).size:Nat):Int):=by rw[wrap_i64 (by omega) (by omega)];omega
   have k5:=t_Repeat (9 - (tN (q % 1000000000)).size) (by omega)
   have hrs:(⟨(List.replicate (9 - (tN (q % 1000000000)).size) 48).toArray⟩:ByteArray).size=9 - (tN (q % 1000000000)).size:=by show(List.replicate _ _).toArray.size=_;simp
   have hob:(⟨(List.replicate (9 - (tN (q % 1000000000)).size) 48).toArray⟩:ByteArray).size+(tN (q % 1000000000)).size≤9223372036854775807:=by omega
   have hd2:Lib.decDigits n=Lib.decDigits (q/1000000000)++cat (ps++[(⟨(List.replicate (9 - (tN (q % 1000000000)).size) 48).toArray⟩:ByteArray)++tN (q % 1000000000)]).reverse:=by
    rw[hdec,hsplit,cat_snoc,List.append_assoc]
   clear hdec hsplit
   generalize (⟨(List.replicate (9 - (tN (q % 1000000000)).size) 48).toArray⟩:ByteArray)=z9 at*
   have hpm:(ps.map sel).length=ps.length:=List.length_map ..
   (repeat((first|refine step_w1 rfl rfl ?_|refine And.intro (by first|decide|omega|(simp only[tl0,dlen,List.length_replicate,List.length_set,List.length_map,List.length_zipWith,List.length_take,List.length_append,List.length_cons,List.length_nil];omega)) ?_|refine g_c (by assumption) ?_|refine g_c1 (by assumption) rfl ?_|refine g_c1n (by assumption) rfl rfl ?_|rw[t1]|rw[e1]|rw[t2]|rw[e2]);conv=>whnf))
   refine⟨q/1000000000,renBy [(41,2002),(3002,3001)],[3,4],[41,3002],by omega,by kernel_rfl,q/1000000000,_,ps++[z9++tN (q % 1000000000)],rfl,by rw[hdl];exact hcle,by omega,hdw,hdv,.inl ⟨by omega,hd2,by rw[List.length_append,List.length_singleton];omega⟩,by rw[List.length_append];rfl, ?_⟩
   have e9:sblk (ps++[z9++tN (q % 1000000000)])=⟨9,true,.seq 1 (List.take ps.length (ps.map sel)++List.take 1 (List.drop 0 [SV.val (.string (z9++tN (q % 1000000000)))]))⟩:=by
    rw[sblk,List.take_of_length_le (by omega),List.map_append];rfl
   rw[e9];rfl
  ·have hv0:q/1000000000=0:=Nat.div_eq_of_lt (by omega)
   have t2:decide (((wInts (q/1000000000)).length:Int)>0)=false:=by rw[hv0];rfl
   have hmod:q % 1000000000=q:=Nat.mod_eq_of_lt (by omega)
   have hd2:Lib.decDigits n=cat (ps++[tN (q % 1000000000)]).reverse:=by
    rw[hdec,cat_snoc,hmod,tN_eq]
   clear hdec
   have hpm:(ps.map sel).length=ps.length:=List.length_map ..
   (repeat((first|refine step_w1 rfl rfl ?_|refine step_w2 rfl rfl ?_|refine And.intro (by first|decide|omega|(simp only[tl0,dlen,List.length_replicate,List.length_set,List.length_map,List.length_zipWith,List.length_take,List.length_append,List.length_cons,List.length_nil];omega)) ?_|refine g_c (by assumption) ?_|refine g_c1 (by assumption) rfl ?_|refine g_c1n (by assumption) rfl rfl ?_|rw[t1]|rw[e1]|rw[t2]);conv=>whnf))
   refine⟨q/1000000000,renBy [(41,2002),(3002,3001)],[3,4],[41,3002],by omega,by kernel_rfl,q/1000000000,_,ps++[tN (q % 1000000000)],rfl,by rw[hdl];exact hcle,by omega,hdw,hdv,.inr ⟨hv0,hd2,by rw[List.length_append,List.length_singleton];omega⟩,by rw[List.length_append];rfl, ?_⟩
   have e9:sblk (ps++[tN (q % 1000000000)])=⟨9,true,.seq 1 (List.take ps.length (ps.map sel)++List.take 1 (List.drop 0 [SV.val (.string (tN (q % 1000000000)))]))⟩:=by
    rw[sblk,List.take_of_length_le (by omega),List.map_append];rfl
   rw[e9];rfl
 ·obtain rfl:q=0:=by omega
  obtain⟨_,hdec,_⟩:=hrel.resolve_left (fun h=>h.1 rfl)
  have t1:decide (((wInts 0).length:Int)>0)=false:=rfl
  have k2:=t_Reverse ps ps.length rfl (by omega) 2002
  have hdl:(Lib.decDigits n).length≤140737488355328:=by
   exact Nat.le_trans (dec_len (sz n) n (sz_le.1 (Nat.le_refl _))) (by omega)
  have k3:=t_JoinM ps.reverse ps.length (by rw[List.length_reverse]) ⟨#[]⟩ (by rw[List.length_reverse];omega) (by
   rw[show(⟨#[]⟩:ByteArray).data.toList=[]from rfl,join_empty]
   show(cat ps.reverse).length≤_
   rw[←hdec];exact hdl) 2002
  have e:(⟨(Lib.join (ps.reverse.map (·.data.toList)) (⟨#[]⟩:ByteArray).data.toList).toArray⟩:ByteArray)=tN n:=by
   rw[show(⟨#[]⟩:ByteArray).data.toList=[]from rfl,join_empty,tN_eq,hdec];rfl
  rw[e]at k3
  (repeat(first|(refine step_w2 rfl rfl ?_;conv=>whnf)|(refine g_c1 (by assumption) rfl ?_;conv=>whnf)|(refine g_c1u (by assumption) rfl rfl ?_;conv=>whnf)));(first|exact Recast.refl _|exact Frz.recast (Recast.refl _) rfl|(refine Frz.one rfl rfl ?_;skip)|(refine Frz.tup ?_;skip))
theorem tN_sizeG (n:Nat):(tN n).size≤sz n+1:=by
 rw[tN_eq]
 show(Lib.decDigits n).toArray.size≤_
 simpa using dec_len (sz n) n (sz_le.1 (Nat.le_refl _))
theorem t_NatG (n:Nat) (hs:sz n≤1073741824):CallOK Tryz.prog 240 [.nat n] [] (.val (.string (tN n))) [] []:=by
 by_cases h:n<18446744073709551616
 ·have k1:=t_FormatG n h
  have e1:low n=(n:Int):=low_small h
  have e2:((big n).toList==(ByteArray.mk #[]).toList)=true:=by rw[big_eq];exact decide_eq_true h
  refine callV (Z:=[]) tabOK mixedOK Tryz.func240 rfl (by kernel_rfl) rfl rfl (by kernel_rfl) rfl ?_
  intro W0 w0 ρ0 hE
  conv=>whnf
  (repeat((first|refine step_w1 rfl rfl ?_|refine g_c (by assumption) ?_|rw[e2]|rw[e1]);conv=>whnf));(first|exact Recast.refl _|exact Frz.recast (Recast.refl _) rfl|(refine Frz.one rfl rfl ?_;skip)|(refine Frz.tup ?_;skip))
 ·exact t_NatB n h hs
theorem t_IntG (z:Int) (h:sz z.natAbs≤1073741824):CallOK Tryz.prog 239 [.int z] [] (.val (.string (tZ z))) [] []:=by
 have k1:=t_NatG z.natAbs h
 have hs:=tN_sizeG z.natAbs
 have h1:(ByteArray.mk #[45]).size=1:=rfl
 have h2:(ByteArray.mk #[45]).size+(tN z.natAbs).size≤9223372036854775807:=by omega
 unfold tZ
 refine callV (Z:=[]) tabOK mixedOK Tryz.func239 rfl (by kernel_rfl) rfl rfl (by kernel_rfl) rfl ?_
 intro W0 w0 ρ0 hE
 conv=>whnf
 by_cases hz:z<0
 ·have t1:decide (z<0)=true:=decide_eq_true hz
  rw[if_pos hz]
  (repeat((first|refine step_w1 rfl rfl ?_|refine And.intro (by first|decide|omega|(simp only[tl0,dlen,List.length_replicate,List.length_set,List.length_map,List.length_zipWith,List.length_take,List.length_append,List.length_cons,List.length_nil];omega)) ?_|refine g_c (by assumption) ?_|rw[t1]);conv=>whnf));(first|exact Recast.refl _|exact Frz.recast (Recast.refl _) rfl|(refine Frz.one rfl rfl ?_;skip)|(refine Frz.tup ?_;skip))
 ·have t1:decide (z<0)=false:=decide_eq_false hz
  rw[if_neg hz]
  (repeat(first|(refine step_w2 rfl rfl ?_;conv=>whnf)|(refine g_c (by assumption) ?_;conv=>whnf)|(rw[t1];conv=>whnf)));(first|exact Recast.refl _|exact Frz.recast (Recast.refl _) rfl|(refine Frz.one rfl rfl ?_;skip)|(refine Frz.tup ?_;skip))
theorem tZ_sizeG (z:Int):(tZ z).size≤sz z.natAbs+2:=by
 have hs:=tN_sizeG z.natAbs
 unfold tZ
 split
 ·rw[ByteArray.size_append];have:("-".toUTF8).size=1:=rfl;omega
 ·omega
theorem t_FracG (q:Rat) (h:fs q≤1073741824):CallOK Tryz.prog 138 [.frac q] [] (.val (.string (tQ q))) [] []:=by
 have n1:=fsz_num q
 have n2:=fsz_den q
 unfold fs at h
 have kw:=c_Whole q
 have k1:=t_IntG q.num (by omega)
 have k2:=t_NatG q.den (by omega)
 have k3:=c_den natBig q (by omega)
 have hs:=tZ_sizeG q.num
 have hs2:=tN_sizeG q.den
 have h1:(ByteArray.mk #[47]).size=1:=rfl
 have h2:(tZ q.num).size+(ByteArray.mk #[47]).size≤9223372036854775807:=by omega
 have h3:(tZ q.num++(ByteArray.mk #[47])).size+(tN q.den).size≤9223372036854775807:=by rw[ByteArray.size_append];omega
 unfold tQ
 refine callV (Z:=[]) tabOK mixedOK Tryz.func138 rfl (by kernel_rfl) rfl rfl (by kernel_rfl) rfl ?_
 intro W0 w0 ρ0 hE
 conv=>whnf
 by_cases hd:q.den=1
 ·rw[decide_eq_true hd]at kw
  rw[if_pos hd]
  (repeat(first|(refine step_w1 rfl rfl ?_;conv=>whnf)|(refine g_c (by assumption) ?_;conv=>whnf)));(first|exact Recast.refl _|exact Frz.recast (Recast.refl _) rfl|(refine Frz.one rfl rfl ?_;skip)|(refine Frz.tup ?_;skip))
 ·rw[decide_eq_false hd]at kw
  rw[if_neg hd]
  (repeat((first|refine step_w2 rfl rfl ?_|refine step_i (by kernel_rfl) ?_|refine And.intro (by first|decide|omega|(simp only[tl0,dlen,List.length_replicate,List.length_set,List.length_map,List.length_zipWith,List.length_take,List.length_append,List.length_cons,List.length_nil];omega)) ?_|refine g_c (by assumption) ?_);conv=>whnf));(first|exact Recast.refl _|exact Frz.recast (Recast.refl _) rfl|(refine Frz.one rfl rfl ?_;skip)|(refine Frz.tup ?_;skip))
theorem tQ_size (q:Rat):(tQ q).size≤fs q+fs q+4:=by
 have n1:=fsz_num q
 have n2:=fsz_den q
 have hs:=tZ_sizeG q.num
 have hs2:=tN_sizeG q.den
 unfold fs
 unfold tQ
 split
 ·omega
 ·rw[ByteArray.size_append,ByteArray.size_append];have:("/".toUTF8).size=1:=rfl;omega
theorem join_size:∀(l:List (List UInt8)) (B:Nat),(∀x∈l,x.length≤B)→(Lib.join l [32]).length≤l.length*(B+1)
 |[],B,_=>by simp[Lib.join_nil]
 |[x],B,h=>by rw[Lib.join_one];have:=h x (List.mem_cons_self ..);simp;omega
 |x::y::l,B,h=>by
  have ih:=join_size (y::l) B (fun z hz=>h z (List.mem_cons_of_mem _ hz))
  have hx:=h x (List.mem_cons_self ..)
  have e:Lib.join (x::y::l) [32]=x++[32]++Lib.join (y::l) [32]:=by rw[Lib.join_cons,Lib.join_cons];simp[Lib.joinTail]
  rw[e]
  simp only[List.length_append,List.length_cons,List.length_nil]at*
  rw[Nat.succ_mul (l.length+1)]
  omega
theorem tV_join {a:List Rat} {B:Nat} (hl:a.length≤2048) (h:∀i,i<a.length→fs (a.getD i 0)≤B) (hB:B≤1000000000):(Lib.join ((a.map tQ).map (·.data.toList)) [32]).length≤140737488355328:=by
 refine Nat.le_trans (join_size _ (2*B+4) ?_) ?_
 ·intro x hx
  obtain⟨s,hs,rfl⟩:=List.mem_map.1 hx
  obtain⟨q,hq,rfl⟩:=List.mem_map.1 hs
  obtain⟨i,hi,rfl⟩:=mem_getD hq 0
  have h1:=tQ_size (a.getD i 0)
  have h2:=h i hi
  show(tQ (a.getD i 0)).data.toList.length≤_
  have:(tQ (a.getD i 0)).data.toList.length=(tQ (a.getD i 0)).size:=Array.length_toList
  omega
 ·rw[List.length_map,List.length_map]
  have:a.length*(2*B+4+1)≤2048*(2*B+4+1):=Nat.mul_le_mul_right _ hl
  omega
theorem t_VecG (a:List Rat) (B:Nat) (hl:a.length≤2048) (h:∀i,i<a.length→fs (a.getD i 0)≤B) (hB:B≤1000000000):CallOK Tryz.prog 111 [fvec a] [] (.val (.string (tV a))) [] []:=by
 have hJ:=tV_join hl h hB
 have hz:((a.map tQ).map sel).length=a.length:=by simp
 have hget:∀i,i<a.length→((a.map tQ).map sel).getD i .any= .val (.string (tQ (a.getD i 0))):=fun i hi=>by rw[map_get (d:=ByteArray.empty) (by simpa using hi),map_get (d:=0) hi];rfl
 have kj:=t_Join (a.map tQ) (by simp;omega) hJ
 refine callF (Z:=[]) tabOK mixedOK Tryz.func111 rfl (by kernel_rfl) (by first|rfl|(simp[keylessL,keyless,keylessL_map, *];done)) (by first|rfl|(simp[keylessL,keyless,keylessL_map, *];done)) (by kernel_rfl) rfl ?_
 intro w0 ρ0 hE
 conv=>whnf
 (repeat(first|(refine And.intro (by first|decide|omega|(simp only[tl0,dlen,List.length_replicate,List.length_set,List.length_map,List.length_zipWith,List.length_take,List.length_append,List.length_cons,List.length_nil];omega)) ?_;conv=>whnf)|(refine g_o (op_lenM rfl rfl rfl (ev_ok rfl) (tgt rfl) rfl) ?_;conv=>whnf)|(rw[Int.toNat_natCast];conv=>whnf)))
 refine SW_loopS hE (fun k=>k) [0,2,3,9,10,11] [8] (fun m fr hp=>∃i,m=a.length - i∧i≤a.length∧fr=[(0,fvec a),(2,.val (.string ⟨#[]⟩)),(3,.slc 8 1 0 a.length),(9,fvec a),(10,.val (.int .i64 (a.length:Nat))),(11,.val (.int .i64 (i:Nat)))]∧
  hp=[(8,⟨9,true,.seq 1 (((a.map tQ).map sel).take i++List.replicate (a.length - i) (.val (.string .empty)))⟩)]) a.length ?_ ?_ ?_
 ·kernel_rfl
 ·exact⟨0,rfl,Nat.zero_le _,rfl,rfl⟩
 rintro m _ _ ⟨i,rfl,hi,rfl,rfl⟩
 have hlen:=fill_len (d:=SV.val (.string .empty)) hi hz
 by_cases hlt:i<a.length
 ·have t1:=dlt hlt
  have t2:=winc (i:=i) (by omega)
  have k1:=t_FracG (a.getD i 0) (Nat.le_trans (h i hlt) (by omega))
  refine SWx.of hE ?_
  conv=>whnf
  have e3:=fill_get (d:=SV.val (.string .empty)) (e:=SV.any) hlt hz
  (repeat((first|refine step_w1 rfl rfl ?_|refine And.intro (by first|decide|omega|(simp only[tl0,dlen,List.length_replicate,List.length_set,List.length_map,List.length_zipWith,List.length_take,List.length_append,List.length_cons,List.length_nil];omega)) ?_|refine g_c (by assumption) ?_|refine g_o (op_indexN (α:=Rat) (d:=0) rfl (ev_ok rfl) (ev_ok rfl) (tgt rfl) rfl (tgt rfl) rfl (by omega)) ?_|refine g_o (op_loadA rfl (ev_ok rfl) (tgt rfl) rfl (Nat.succ_ne_zero _) rfl) ?_|rw[t1]|rw[e3]|rw[t2]|rw[Int.toNat_natCast]|rw[Nat.zero_add]);conv=>whnf))
  refine⟨a.length - (i+1),fun k=>k,[0,2,3,9,10,11],[8],by omega,by kernel_rfl,i+1,rfl,hlt,rfl, ?_⟩
  rw[←fill_set (e:=.any) hlt hz,hget i hlt]
  rfl
 ·have t1:=dge hlt
  have hI:i=a.length:=by omega
  subst hI
  rw[fill_all hz]
  refine SWx_freezeM 3 8 (fun _ h=>h) (fun _=>rfl) rfl rfl (by simp) ?_
  refine SWx.of hE ?_
  conv=>whnf
  have h91:(ByteArray.mk #[91]).size=1:=rfl
  have h93:(ByteArray.mk #[93]).size=1:=rfl
  have hjs:(ByteArray.mk (Lib.join ((a.map tQ).map (·.data.toList)) [32]).toArray).size=(Lib.join ((a.map tQ).map (·.data.toList)) [32]).length:=by show(Lib.join ((a.map tQ).map (·.data.toList)) [32]).toArray.size=_;simp
  have o1:(ByteArray.mk #[91]).size+(ByteArray.mk (Lib.join ((a.map tQ).map (·.data.toList)) [32]).toArray).size≤9223372036854775807:=by omega
  have o2:(ByteArray.mk #[91]++ByteArray.mk (Lib.join ((a.map tQ).map (·.data.toList)) [32]).toArray).size+(ByteArray.mk #[93]).size≤9223372036854775807:=by rw[ByteArray.size_append];omega
  (repeat((first|refine step_w2 rfl rfl ?_|refine And.intro (by first|decide|omega|(simp only[tl0,dlen,List.length_replicate,List.length_set,List.length_map,List.length_zipWith,List.length_take,List.length_append,List.length_cons,List.length_nil];omega)) ?_|refine g_c (by assumption) ?_|rw[t1]);conv=>whnf));(first|exact Recast.refl _|exact Frz.recast (Recast.refl _) rfl|(refine Frz.one rfl rfl ?_;skip)|(refine Frz.tup ?_;skip))
end Go.Proofs.YtfpagioknjjacaaGreatDoor
namespace Go.Proofs.YtfpagioknjjacaaGreatDoor
open Go.Sx
set_option linter.unusedSimpArgs false
set_option linter.unusedVariables false
set_option maxRecDepth 100000
set_option maxHeartbeats 4000000
abbrev iv (n:Int):SV:=.val (.int .i64 n)
abbrev mA (r c:Int) (a:List Rat):SV:=.agg [iv r,iv c,fvec a]
abbrev mC (r c:Int) (a:List Rat):List SV:=[iv r,iv c,fvec a]
abbrev MV:=Int×Int×List Rat
abbrev mB (m:MV):SV:=mA m.1 m.2.1 m.2.2
def sidesF (r c:Int):Int:=if r<0∨c<0 then 1 else if r>2048∨c>2048 then 3 else 0
theorem m_sides (r c:Int):CallOK Tryz.prog 197 [iv r,iv c] [] (iv (sidesF r c)) [] []:=by
 refine callV (Z:=[]) tabOK mixedOK Tryz.func197 rfl (by kernel_rfl) rfl rfl (by kernel_rfl) rfl ?_
 intro W0 w0 ρ0 hE
 conv=>whnf
 unfold sidesF
 by_cases h1:r<0
 ·have t1:decide (r<0)=true:=decide_eq_true h1
  rw[if_pos (.inl h1)]
  (repeat((first|refine step_w1 rfl rfl ?_|refine step_w2 rfl rfl ?_|refine g_o (op_pickT rfl (ev_ok rfl) (ev_ok rfl)) ?_|rw[t1]);conv=>whnf));(first|exact Recast.refl _|exact Frz.recast (Recast.refl _) rfl|(refine Frz.one rfl rfl ?_;skip)|(refine Frz.tup ?_;skip))
 have t1:decide (r<0)=false:=decide_eq_false h1
 by_cases h2:c<0
 ·have t2:decide (c<0)=true:=decide_eq_true h2
  rw[if_pos (.inr h2)]
  (repeat((first|refine step_w1 rfl rfl ?_|refine g_o (op_pickF rfl (ev_ok rfl) (ev_ok rfl)) ?_|rw[t1]|rw[t2]);conv=>whnf));(first|exact Recast.refl _|exact Frz.recast (Recast.refl _) rfl|(refine Frz.one rfl rfl ?_;skip)|(refine Frz.tup ?_;skip))
 have t2:decide (c<0)=false:=decide_eq_false h2
 rw[if_neg (by omega)]
 by_cases h3:r>2048
 ·have t3:decide (r>2048)=true:=decide_eq_true h3
  rw[if_pos (.inl h3)]
  (repeat((first|refine step_w1 rfl rfl ?_|refine step_w2 rfl rfl ?_|refine g_o (op_pickT rfl (ev_ok rfl) (ev_ok rfl)) ?_|refine g_o (op_pickF rfl (ev_ok rfl) (ev_ok rfl)) ?_|rw[t1]|rw[t2]|rw[t3]);conv=>whnf));(first|exact Recast.refl _|exact Frz.recast (Recast.refl _) rfl|(refine Frz.one rfl rfl ?_;skip)|(refine Frz.tup ?_;skip))
 have t3:decide (r>2048)=false:=decide_eq_false h3
 by_cases h4:c>2048
 ·have t4:decide (c>2048)=true:=decide_eq_true h4
  rw[if_pos (.inr h4)]
  (repeat((first|refine step_w1 rfl rfl ?_|refine step_w2 rfl rfl ?_|refine g_o (op_pickF rfl (ev_ok rfl) (ev_ok rfl)) ?_|rw[t1]|rw[t2]|rw[t3]|rw[t4]);conv=>whnf));(first|exact Recast.refl _|exact Frz.recast (Recast.refl _) rfl|(refine Frz.one rfl rfl ?_;skip)|(refine Frz.tup ?_;skip))
 have t4:decide (c>2048)=false:=decide_eq_false h4
 rw[if_neg (by omega)]
 (repeat((first|refine step_w1 rfl rfl ?_|refine step_w2 rfl rfl ?_|refine g_o (op_pickF rfl (ev_ok rfl) (ev_ok rfl)) ?_|rw[t1]|rw[t2]|rw[t3]|rw[t4]);conv=>whnf));(first|exact Recast.refl _|exact Frz.recast (Recast.refl _) rfl|(refine Frz.one rfl rfl ?_;skip)|(refine Frz.tup ?_;skip))
theorem sides_ok {r c:Int} (h:sidesF r c=0):(0≤r∧r≤2048)∧(0≤c∧c≤2048):=by
 unfold sidesF at h
 by_cases h1:r<0∨c<0
 ·rw[if_pos h1]at h;omega
 ·rw[if_neg h1]at h
  by_cases h2:r>2048∨c>2048
  ·rw[if_pos h2]at h;omega
  ·omega
theorem sides_of {r c:Int} (h:(0≤r∧r≤2048)∧(0≤c∧c≤2048)):sidesF r c=0:=by
 unfold sidesF;rw[if_neg (by omega),if_neg (by omega)]
theorem prod_le {r c:Int} (h:(0≤r∧r≤2048)∧(0≤c∧c≤2048)):0≤r*c∧r*c≤4194304:=by
 obtain⟨⟨a,b⟩,d,e⟩:=h
 refine⟨Int.mul_nonneg a d, ?_⟩
 exact Int.le_trans (Int.mul_le_mul b e d (by decide)) (by decide)
def checkF (r c:Int) (n:Nat):Int:=if sidesF r c≠0 then sidesF r c else if (n:Int)≠r*c then 1 else 0
theorem m_Check (r c:Int) (a:List Rat) (hn:a.length<1099511627776):CallOK Tryz.prog 69 [mA r c a] [] (iv (checkF r c a.length)) [] []:=by
 have k1:=m_sides r c
 refine callV (Z:=[]) tabOK mixedOK Tryz.func69 rfl (by kernel_rfl) rfl rfl (by kernel_rfl) rfl ?_
 intro W0 w0 ρ0 hE
 conv=>whnf
 unfold checkF
 by_cases h1:sidesF r c=0
 ·rw[if_neg (by omega)]
  rw[h1]at k1
  have hp:=prod_le (sides_ok h1)
  have t2:IntKind.i64.wrap (r*c)=r*c:=wrap_i64 (by omega) (by omega)
  by_cases h2:(a.length:Int)=r*c
  ·have t3:((a.length:Int) != r*c)=false:=by rw[h2];exact bne_self_eq_false _
   rw[if_neg (by omega)]
   clear hp
   (repeat((first|refine step_w2 rfl rfl ?_|refine g_c (by assumption) ?_|rw[bne_self_eq_false]|refine g_o (op_lenM rfl rfl rfl (ev_ok rfl) (tgt rfl) rfl) ?_|rw[t2]|rw[t3]);conv=>whnf));(first|exact Recast.refl _|exact Frz.recast (Recast.refl _) rfl|(refine Frz.one rfl rfl ?_;skip)|(refine Frz.tup ?_;skip))
  ·have t3:((a.length:Int) != r*c)=true:=bne_iff_ne.2 h2
   rw[if_pos h2]
   clear hp
   (repeat((first|refine step_w1 rfl rfl ?_|refine step_w2 rfl rfl ?_|refine g_c (by assumption) ?_|rw[bne_self_eq_false]|refine g_o (op_lenM rfl rfl rfl (ev_ok rfl) (tgt rfl) rfl) ?_|rw[t2]|rw[t3]);conv=>whnf));(first|exact Recast.refl _|exact Frz.recast (Recast.refl _) rfl|(refine Frz.one rfl rfl ?_;skip)|(refine Frz.tup ?_;skip))
 ·have t1:(sidesF r c != 0)=true:=bne_iff_ne.2 h1
  rw[if_pos h1]
  (repeat(first|(refine step_w1 rfl rfl ?_;conv=>whnf)|(refine g_c (by assumption) ?_;conv=>whnf)|(rw[t1];conv=>whnf)));(first|exact Recast.refl _|exact Frz.recast (Recast.refl _) rfl|(refine Frz.one rfl rfl ?_;skip)|(refine Frz.tup ?_;skip))
theorem check_ok {r c:Nat} {n:Nat} (hr:r≤2048) (hc:c≤2048) (hn:n=r*c):checkF r c n=0:=by
 unfold checkF
 rw[sides_of (by omega),if_neg (by omega),if_neg (by rw[hn];push_cast;omega)]
structure OKM (R C:Nat) (a:List Rat):Prop where
 r:R≤2048
 c:C≤2048
 n:a.length=R*C
theorem OKM.small {r c:Nat} {a:List Rat} (h:OKM r c a):a.length≤4194304:=by rw[h.n];exact Nat.mul_le_mul h.r h.c
theorem m_Check0 {r c:Nat} {a:List Rat} (h:OKM r c a):CallOK Tryz.prog 69 [mA r c a] [] (iv 0) [] []:=by
 have:=m_Check r c a (by have:=h.small;omega)
 rwa [check_ok h.r h.c h.n]at this
def allF:List MV→Int
 |[]=>0
 |m::l=>if checkF m.1 m.2.1 m.2.2.length≠0 then checkF m.1 m.2.1 m.2.2.length else allF l
theorem drop_one {α:Type} {l:List α} {i:Nat} (d:α) (h:i<l.length):l.drop i=l.getD i d::l.drop (i+1):=by
 rw[List.drop_eq_getElem_cons h,List.getD_eq_getElem?_getD,List.getElem?_eq_getElem h];rfl
abbrev nilM:MV:=(0,0,[])
theorem m_all (l:List MV) (hl:l.length<1099511627776) (h:∀m∈l,m.2.2.length<1099511627776):CallOK Tryz.prog 195 [mvec 3 mB l] [] (iv (allF l)) [] []:=by
 refine callV (Z:=[]) tabOK mixedOK Tryz.func195 rfl (by kernel_rfl) rfl rfl (by kernel_rfl) rfl ?_
 intro W0 w0 ρ0 hE
 conv=>whnf
 (repeat(first|(refine g_o (op_lenM rfl rfl rfl (ev_ok rfl) (tgt rfl) rfl) ?_;conv=>whnf)))
 refine SW_loopN hE (fun k=>k) [0,6,7,8] [] (fun m fr hp=>∃i:Nat,m=l.length - i∧i≤l.length∧allF (l.drop i)=allF l∧fr=[(0,mvec 3 mB l),(6,mvec 3 mB l),(7,iv (l.length:Nat)),(8,iv (i:Nat))]∧hp=[]) l.length ?_ ?_ ?_
 ·kernel_rfl
 ·exact⟨0,rfl,Nat.zero_le _,rfl,rfl,rfl⟩
 rintro m _ _ ⟨i,rfl,hi,hs,rfl,rfl⟩
 conv=>whnf
 by_cases hlt:i<l.length
 ·have t1:=dlt hlt
  have t2:=winc (i:=i) (by omega)
  have k1:=m_Check (l.getD i nilM).1 (l.getD i nilM).2.1 (l.getD i nilM).2.2 (h _ (getD_mem hlt))
  rw[drop_one nilM hlt,allF]at hs
  by_cases hc:checkF (l.getD i nilM).1 (l.getD i nilM).2.1 (l.getD i nilM).2.2.length=0
  ·rw[if_neg (by omega)]at hs
   rw[hc]at k1
   (repeat((first|refine step_w1 rfl rfl ?_|refine step_w2 rfl rfl ?_|refine g_c (by assumption) ?_|rw[bne_self_eq_false]|refine g_o (op_loadA rfl (ev_ok rfl) (tgt rfl) rfl (Nat.succ_ne_zero _) rfl) ?_|refine g_o (op_indexN (α:=MV) (d:=nilM) rfl (ev_ok rfl) (ev_ok rfl) (tgt rfl) rfl (tgt rfl) rfl (by omega)) ?_|rw[t1]|rw[t2]);conv=>whnf))
   exact⟨l.length - (i+1),fun k=>k,[0,6,7,8],[],by omega,by kernel_rfl,i+1,rfl,hlt,hs,rfl,rfl⟩
  ·have t3:(checkF (l.getD i nilM).1 (l.getD i nilM).2.1 (l.getD i nilM).2.2.length != 0)=true:=bne_iff_ne.2 hc
   rw[if_pos hc]at hs
   rw[←hs]
   (repeat((first|refine step_w1 rfl rfl ?_|refine g_c (by assumption) ?_|refine g_o (op_loadA rfl (ev_ok rfl) (tgt rfl) rfl (Nat.succ_ne_zero _) rfl) ?_|refine g_o (op_indexN (α:=MV) (d:=nilM) rfl (ev_ok rfl) (ev_ok rfl) (tgt rfl) rfl (tgt rfl) rfl (by omega)) ?_|rw[t1]|rw[t3]);conv=>whnf));(first|exact Recast.refl _|exact Frz.recast (Recast.refl _) rfl|(refine Frz.one rfl rfl ?_;skip)|(refine Frz.tup ?_;skip))
 ·have t1:=dge hlt
  have hI:i=l.length:=by omega
  rw[hI,List.drop_length]at hs
  rw[←hs]
  (repeat(first|(refine step_w2 rfl rfl ?_;conv=>whnf)|(rw[t1];conv=>whnf)));(first|exact Recast.refl _|exact Frz.recast (Recast.refl _) rfl|(refine Frz.one rfl rfl ?_;skip)|(refine Frz.tup ?_;skip))
theorem m_all2 {r c s t:Nat} {a b:List Rat} (ha:OKM r c a) (hb:OKM s t b):CallOK Tryz.prog 195 [mvec 3 mB [((r:Int),(c:Int),a),((s:Int),(t:Int),b)]] [] (iv 0) [] []:=by
 have:=m_all [((r:Int),(c:Int),a),((s:Int),(t:Int),b)] (by simp) (by
  intro m hm
  have h1:=ha.small;have h2:=hb.small
  simp only[List.mem_cons,List.not_mem_nil,or_false]at hm
  rcases hm with rfl|rfl
  ·show a.length<_;omega
  ·show b.length<_;omega)
 rwa [allF,if_neg (by rw[check_ok ha.r ha.c ha.n];decide),allF,if_neg (by rw[check_ok hb.r hb.c hb.n];decide),allF]at this
theorem m_all1 {r c:Nat} {a:List Rat} (ha:OKM r c a):CallOK Tryz.prog 195 [mvec 3 mB [((r:Int),(c:Int),a)]] [] (iv 0) [] []:=by
 have:=m_all [((r:Int),(c:Int),a)] (by simp) (by
  intro m hm
  have h1:=ha.small
  simp only[List.mem_cons,List.not_mem_nil,or_false]at hm
  obtain rfl:=hm
  show a.length<_;omega)
 rwa [allF,if_neg (by rw[check_ok ha.r ha.c ha.n];decide),allF]at this
def shortF (l:List (List Rat)):Int:=if l.any (fun v=>decide (2048<v.length))then 3 else 0
theorem m_short (ls:List (List Rat)) (hn:ls.length<1099511627776) (hl:∀v∈ls,v.length<1099511627776):CallOK Tryz.prog 202 [mvec 1 fvec ls] [] (iv (shortF ls)) [] []:=by
 refine callV (Z:=[]) tabOK mixedOK Tryz.func202 rfl (by kernel_rfl) rfl rfl (by kernel_rfl) rfl ?_
 intro W0 w0 ρ0 hE
 conv=>whnf
 (repeat(first|(refine g_o (op_lenM rfl rfl rfl (ev_ok rfl) (tgt rfl) rfl) ?_;conv=>whnf)))
 refine SW_loopN hE (fun k=>k) [0,5,6,7] [] (fun m fr hp=>∃i:Nat,m=ls.length - i∧i≤ls.length∧(∀j,j<i→decide (2048<(ls.getD j []).length)=false)∧fr=[(0,mvec 1 fvec ls),(5,mvec 1 fvec ls),(6,iv (ls.length:Nat)),(7,iv (i:Nat))]∧hp=[]) ls.length ?_ ?_ ?_
 ·kernel_rfl
 ·exact⟨0,rfl,Nat.zero_le _,(fun j hj=>by omega),rfl,rfl⟩
 rintro m _ _ ⟨i,rfl,hi,hs,rfl,rfl⟩
 conv=>whnf
 by_cases hlt:i<ls.length
 ·have t1:=dlt hlt
  have t2:=winc (i:=i) (by omega)
  by_cases hL:2048<(ls.getD i []).length
  ·have t3:decide (((ls.getD i []).length:Int)>2048)=true:=decide_eq_true (by omega)
   have e:shortF ls=3:=by rw[shortF,if_pos (any_at (d:=[]) hlt (decide_eq_true hL))]
   rw[e]
   (repeat((first|refine step_w1 rfl rfl ?_|refine g_o (op_lenM rfl rfl rfl (ev_ok rfl) (tgt rfl) rfl) ?_|refine g_o (op_loadA rfl (ev_ok rfl) (tgt rfl) rfl (Nat.succ_ne_zero _) rfl) ?_|refine g_o (op_indexN (α:=List Rat) (d:=[]) rfl (ev_ok rfl) (ev_ok rfl) (tgt rfl) rfl (tgt rfl) rfl (by omega)) ?_|rw[t1]|rw[t3]);conv=>whnf));(first|exact Recast.refl _|exact Frz.recast (Recast.refl _) rfl|(refine Frz.one rfl rfl ?_;skip)|(refine Frz.tup ?_;skip))
  ·have t3:decide (((ls.getD i []).length:Int)>2048)=false:=decide_eq_false (by omega)
   (repeat((first|refine step_w1 rfl rfl ?_|refine step_w2 rfl rfl ?_|refine g_o (op_lenM rfl rfl rfl (ev_ok rfl) (tgt rfl) rfl) ?_|refine g_o (op_loadA rfl (ev_ok rfl) (tgt rfl) rfl (Nat.succ_ne_zero _) rfl) ?_|refine g_o (op_indexN (α:=List Rat) (d:=[]) rfl (ev_ok rfl) (ev_ok rfl) (tgt rfl) rfl (tgt rfl) rfl (by omega)) ?_|rw[t1]|rw[t3]|rw[t2]);conv=>whnf))
   refine⟨ls.length - (i+1),fun k=>k,[0,5,6,7],[],by omega,by kernel_rfl,i+1,rfl,hlt, ?_,rfl,rfl⟩
   intro j hj
   by_cases hji:j=i
   ·rw[hji];exact decide_eq_false hL
   ·exact hs j (by omega)
 ·have t1:=dge hlt
  have hI:i=ls.length:=by omega
  subst hI
  have e:shortF ls=0:=by rw[shortF,if_neg];rw[any_no [] hs];exact Bool.false_ne_true
  rw[e]
  (repeat(first|(refine step_w2 rfl rfl ?_;conv=>whnf)|(rw[t1];conv=>whnf)));(first|exact Recast.refl _|exact Frz.recast (Recast.refl _) rfl|(refine Frz.one rfl rfl ?_;skip)|(refine Frz.tup ?_;skip))
theorem m_has (i:Int) (n:Int):CallOK Tryz.prog 204 [iv i,iv n] [] (.val (.bool (decide (0≤i∧i<n)))) [] []:=by
 refine callV (Z:=[]) tabOK mixedOK Tryz.func204 rfl (by kernel_rfl) rfl rfl (by kernel_rfl) rfl ?_
 intro W0 w0 ρ0 hE
 conv=>whnf
 by_cases h1:i<0
 ·have t1:decide (i≥0)=false:=decide_eq_false (by omega)
  rw[decide_eq_false (show ¬(0≤i∧i<n) by omega)]
  (repeat(first|(refine step_w2 rfl rfl ?_;conv=>whnf)|(refine g_o (op_pickF rfl (ev_ok rfl) (ev_ok rfl)) ?_;conv=>whnf)|(rw[t1];conv=>whnf)));(first|exact Recast.refl _|exact Frz.recast (Recast.refl _) rfl|(refine Frz.one rfl rfl ?_;skip)|(refine Frz.tup ?_;skip))
 ·have t1:decide (i≥0)=true:=decide_eq_true (by omega)
  by_cases h2:i<n
  ·have t2:decide (i<n)=true:=decide_eq_true h2
   rw[decide_eq_true (show 0≤i∧i<n by omega)]
   (repeat((first|refine step_w1 rfl rfl ?_|refine g_o (op_pickT rfl (ev_ok rfl) (ev_ok rfl)) ?_|rw[t1]|rw[t2]);conv=>whnf));(first|exact Recast.refl _|exact Frz.recast (Recast.refl _) rfl|(refine Frz.one rfl rfl ?_;skip)|(refine Frz.tup ?_;skip))
  ·have t2:decide (i<n)=false:=decide_eq_false h2
   rw[decide_eq_false (show ¬(0≤i∧i<n) by omega)]
   (repeat((first|refine step_w1 rfl rfl ?_|refine g_o (op_pickT rfl (ev_ok rfl) (ev_ok rfl)) ?_|rw[t1]|rw[t2]);conv=>whnf));(first|exact Recast.refl _|exact Frz.recast (Recast.refl _) rfl|(refine Frz.one rfl rfl ?_;skip)|(refine Frz.tup ?_;skip))
theorem idx_w {i k c:Nat} (hi:i≤2048) (hc:c≤2048) (hk:k≤2048):IntKind.i64.wrap ((i:Int)*(c:Int))=((i*c:Nat):Int)∧IntKind.i64.wrap (((i*c:Nat):Int)+(k:Int))=((i*c+k:Nat):Int):=by
 have h1:i*c≤2048*2048:=Nat.mul_le_mul hi hc
 constructor
 ·rw[←Int.natCast_mul,wrap_i64 (by omega) (by omega)]
 ·rw[wrap_i64 (by omega) (by omega)];omega
theorem m_at {r c:Nat} {a:List Rat} (h:OKM r c a) {i k:Nat} (hi:i<r) (hk:k<c):CallOK Tryz.prog 102 [mA r c a,iv i,iv k] [] (.frac (el a c i k)) [] []:=by
 obtain⟨t1,t2⟩:=idx_w (i:=i) (k:=k) (c:=c) (by have:=h.r;omega) h.c (by have:=h.c;omega)
 have hlt:=idx_lt hi hk
 rw[←h.n]at hlt
 refine callV (Z:=[]) tabOK mixedOK Tryz.func102 rfl (by kernel_rfl) rfl rfl (by kernel_rfl) rfl ?_
 intro W0 w0 ρ0 hE
 conv=>whnf
 (repeat((first|refine g_o (op_loadA rfl (ev_ok rfl) (tgt rfl) rfl (Nat.succ_ne_zero _) rfl) ?_|refine g_o (op_indexM (α:=Rat) (d:=0) rfl (ev_ok rfl) (ev_ok rfl) (tgt rfl) rfl (tgt rfl) rfl (by omega)) ?_|rw[t1]|rw[t2]|rw[Int.toNat_natCast]);conv=>whnf));(first|exact Recast.refl _|exact Frz.recast (Recast.refl _) rfl|(refine Frz.one rfl rfl ?_;skip)|(refine Frz.tup ?_;skip))
abbrev rowL (a:List Rat) (c i:Nat):List Rat:=(a.drop (i*c)).take c
theorem rowL_len {r c i:Nat} {a:List Rat} (hi:i<r) (h:a.length=r*c):(rowL a c i).length=c:=by
 have:=Nat.mul_le_mul_right c (show i+1≤r from hi)
 rw[Nat.succ_mul]at this
 rw[List.length_take,List.length_drop];omega
theorem rowL_get {a:List Rat} {c i k:Nat} (hk:k<c):(rowL a c i).getD k 0=el a c i k:=by
 simp[List.getD_eq_getElem?_getD,hk]
theorem row_w {i c:Nat} (hi:i≤2047) (hc:c≤2048):IntKind.i64.wrap ((i:Int)*(c:Int))=((i*c:Nat):Int)∧IntKind.i64.wrap (((i+1:Nat):Int)*(c:Int))=(((i+1)*c:Nat):Int)∧IntKind.i64.wrap ((i:Int)+1)=((i+1:Nat):Int):=
 ⟨(idx_w (i:=i) (k:=0) (by omega) hc (by omega)).1,(idx_w (i:=i+1) (k:=0) (by omega) hc (by omega)).1,winc (by omega)⟩
theorem m_rowV {r c:Nat} {a:List Rat} (h:OKM r c a) {i:Nat} (hi:i<r):CallOK Tryz.prog 203 [mA r c a,iv i] [] (fvec (rowL a c i)) [] []:=by
 obtain⟨t1,t2,t3⟩:=row_w (i:=i) (c:=c) (by have:=h.r;omega) h.c
 have hlt:=Nat.mul_le_mul_right c (show i+1≤r from hi)
 have hle:i*c≤(i+1)*c:=Nat.mul_le_mul_right c (by omega)
 rw[←h.n]at hlt
 have e1:(i+1)*c - i*c=c:=by rw[Nat.succ_mul];omega
 refine callV (Z:=[]) tabOK mixedOK Tryz.func203 rfl (by kernel_rfl) rfl rfl (by kernel_rfl) rfl ?_
 intro W0 w0 ρ0 hE
 conv=>whnf
 (repeat((first|refine step_i (by kernel_rfl) ?_|refine g_o (op_sliceM rfl (ev_ok rfl) (bound_spec rfl) (bound_spec rfl) (.inr ⟨Option.some_ne_none _,_,_,rfl,ev_ok rfl⟩) (tgt rfl) rfl (tgt rfl) rfl (by omega)) ?_|rw[t1]|rw[t3]|rw[t2]|rw[e1]|rw[Int.toNat_natCast]);conv=>whnf))
 (first|exact Recast.refl _|exact Frz.recast (Recast.refl _) rfl|(refine Frz.one rfl rfl ?_;skip)|(refine Frz.tup ?_;skip))
end Go.Proofs.YtfpagioknjjacaaGreatDoor
namespace Go.Sx
set_option linter.unusedSimpArgs false
set_option linter.unusedVariables false
section
variable {P:Program} {o:Oper} {ft:List (Nat×SV)} {fk:List (Nat×Blk)}
theorem op_slice3 {t e:TypeId} {x lo hi mx:Operand} {ti te:TI} {k s i n:Nat} {l h:Int} {kl kh km:IntKind} (ho:o.op= .slice t x (some lo) (some hi) (some mx)) (hx:EvOK ft x (.slc k s i n))
  (hlo:EvOK ft lo (.val (.int kl l))) (hhi:EvOK ft hi (.val (.int kh h))) (hmx:EvOK ft mx (.val (.int km h)))
  (ht:TOK P t ti) (hk:ti.kind= .slc e) (he:TOK P e te) (hs:te.size=s) (hh:0≤l∧l≤h∧h≤n):OpOK P o ft fk (.slc k s (i+l.toNat) (h - l).toNat) [] []:=
 ok_pure fun ρ a w hp=>by
  obtain⟨h0,hlh,hh⟩:=hh
  have hu:=ht.kind;rw[hk]at hu
  have key:∀(ad:Option Addr) (m cap:Nat),n=m→m≤cap→a.eval x= .slice ad m cap→
    (execOp a.eval o).run P w= .ok (.value (.slice (if h.toNat=l.toNat then ad else ad.map (·.add (l.toNat*s))) (h.toNat - l.toNat) (h.toNat - l.toNat))) w:=by
   intro ad m cap hnm hmc hv
   have hr:∀(z:Operand) (kd:IntKind) (bd:Nat),EvOK ft z (.val (.int kd h))→h.toNat≤bd→∀q,(Instr.sliceBound (a.eval z) bd q).run P w= .ok h.toNat w:=by
    intro z kd bd hz hbd q
    have:=of_has_val (hz ρ a hp.hft)
    have hb:0≤h∧h≤(bd:Int):=by omega
    simp[Instr.sliceBound,this,asIntOf,hb]
   have hl:∀q,(Instr.sliceBound (a.eval lo) h.toNat q).run P w= .ok l.toNat w:=by
    intro q
    have:=of_has_val (hlo ρ a hp.hft)
    have hb:0≤l∧l≤(h.toNat:Int):=by omega
    simp only[Instr.sliceBound,this,asIntOf,Sem.run_bind,Sem.run_pure,Result.andThen_ok,hb,and_self,if_true]
   have hbnds:(Instr.sliceBounds true m cap (some (a.eval lo)) (some (a.eval hi)) (some (a.eval mx))).run P w= .ok (l.toNat,h.toNat,h.toNat) w:=by
    unfold Instr.sliceBounds
    simp[hr mx km cap hmx (by omega),hr hi kh h.toNat hhi (Nat.le_refl _),hl]
   simp only[execOp,ho,Option.map_some,Instr.sliceAt,Sem.run_bind,run_underlying hu,Result.andThen_ok,Instr.slice,hv,hbnds,he.sizeOf,hs,Sem.run_pure]
  rcases has_slc (hx ρ a hp.hft)with⟨b,t',cap,h1,h2,h3,h4⟩|⟨rfl,ad,h4⟩
  ·refine⟨_,key _ n cap rfl h2 h4,slc_has ?_⟩
   by_cases hc:h.toNat=l.toNat
   ·right
    have:h.toNat - l.toNat=0:=by omega
    refine⟨by omega,some ⟨b,i*s,none⟩, ?_⟩
    rw[if_pos hc,this]
   ·left
    refine⟨b,t',h.toNat - l.toNat,h1,by omega, ?_, ?_⟩
    ·exact Nat.le_trans (Nat.mul_le_mul_right s (show i+l.toNat+(h.toNat - l.toNat)≤i+cap by omega)) h3
    ·rw[if_neg hc]
     have hadd:(⟨b,i*s,none⟩:Addr).add (l.toNat*s)=⟨b,(i+l.toNat)*s,none⟩:=by
      unfold Addr.add
      rw[Nat.add_mul]
      split
      ·rename_i h0;simp[h0]
      ·rfl
     rw[Option.map_some,hadd,show(h - l).toNat=h.toNat - l.toNat from by omega]
  ·refine⟨_,key ad 0 0 rfl (Nat.le_refl _) h4,slc_has (.inr ⟨by omega,ad, ?_⟩)⟩
   have h1:l.toNat=0:=by omega
   have h2:h.toNat=0:=by omega
   simp[h1,h2]
theorem op_eqNilF {f:FuncId} {a b:List SV} {t t2:TypeId} {x y:Operand} {p r:Array TypeId} {v:Bool} (ho:o.op= .binOp .eql t x y t2) (hx:EvOK ft x (.clo f a b)) (hy:EvOK ft y (.val .nilFunc)) (hu:P.underlying t=some (.func p r v)):OpOK P o ft fk (.val (.bool false)) [] []:=
 ok_pure fun ρ ac w hp=>by
  have h1:=hx ρ ac hp.hft
  simp only[Has,HasC]at h1
  obtain⟨_,⟨fz,cz,_,_,rfl⟩,e1⟩:=h1
  have e2:=of_has_val (hy ρ ac hp.hft)
  simp only[mkV,SV.isOne,if_true,List.headD_cons]at e1
  have hq:∀d vs ws,(Op.equalIn (d+1) t (.func (.func f) vs ws) .nilFunc).run P w= .ok false w:=fun d vs ws=>by simp[Op.equalIn,run_underlying hu]
  have hq':∀vs ws,(Op.equal t (.func (.func f) vs ws) .nilFunc).run P w= .ok false w:=fun vs ws=>hq 9999 vs ws
  refine⟨_, ?_,has_val rfl⟩
  simp[execOp,ho,e1,e2,eqGuard,binOp,hq']
end
end Go.Sx
namespace Go.Proofs.YtfpagioknjjacaaGreatDoor
open Go.Sx
set_option linter.unusedSimpArgs false
set_option linter.unusedVariables false
set_option maxRecDepth 100000
set_option maxHeartbeats 4000000
abbrev zM:Blk:=⟨38,true,.one [iv 0,iv 0,.val (.slice none 0 0)]⟩
abbrev bM (r c K:Nat):Blk:=⟨38,true,.one [iv r,iv c,.slc K 5 0 (r*c)]⟩
abbrev fblk (l:List Rat):Blk:=⟨52,true,.fracs l⟩
theorem m_rowM {r c:Nat} {a:List Rat} (h:OKM r c a) {i:Nat} (hi:i<r) (K:Nat):CallOK Tryz.prog 203 [.agg [iv r,iv c,.slc K 5 0 (r*c)],iv i] [(K,fblk a)] (.slc K 5 (i*c) c) [] []:=by
 obtain⟨t1,t2,t3⟩:=row_w (i:=i) (c:=c) (by have:=h.r;omega) h.c
 have hlt:=Nat.mul_le_mul_right c (show i+1≤r from hi)
 have hle:i*c≤(i+1)*c:=Nat.mul_le_mul_right c (by omega)
 have e1:(((i+1)*c:Nat) - (i*c:Nat):Int).toNat=c:=by rw[Nat.succ_mul];omega
 refine CallOK.anyWr ?_
 refine callK (Z:=[]) tabOK mixedOK Tryz.func203 rfl (by kernel_rfl) (args:=[.agg [iv r,iv c,.slc 1001 5 0 (r*c)],iv i]) (fk:=[(1001,⟨52,false,.fracs a⟩)]) (c:=.slc 1001 5 (i*c) c) (new:=[]) (upd:=[]) (ShapeOK.of rfl rfl rfl rfl rfl rfl rfl rfl rfl rfl rfl) rfl (fun _=>K) (NamesOK.ro rfl) ?_
 intro W0 w0 ρ0 hE
 conv=>whnf
 (repeat((first|refine step_i (by kernel_rfl) ?_|refine g_o (op_slice3 rfl (ev_ok rfl) (ev_ok rfl) (ev_ok rfl) (ev_ok rfl) (tgt rfl) rfl (tgt rfl) rfl (by omega)) ?_|rw[t1]|rw[t3]|rw[t2]|rw[e1]|rw[Int.toNat_natCast]|rw[Nat.zero_add]);conv=>whnf))
 exact⟨Recast.refl _,(fun _ _ h=>by cases h),(fun _ _ h=>by cases h)⟩
theorem m_Make0 {r c:Nat} (hr:r≤2048) (hc:c≤2048) (F:Nat→Nat→Rat) (g:FuncId)
  (hf:∀i k,i<r→k<c→CallOK Tryz.prog g ([]++([iv (i:Nat),iv (k:Nat)]++[])) [] (.frac (F i k)) [] []):
  CallOK Tryz.prog 92 [iv r,iv c,.clo g [] []] [] (.tup [mA r c (mk r c F),iv 0]) [] []:=by
 have k1:=m_sides r c
 rw[sides_of (by omega)]at k1
 have hz:(mk r c F).length=r*c:=mk_len ..
 have hrc:r*c≤2048*2048:=Nat.mul_le_mul hr hc
 have t1:IntKind.i64.wrap ((r:Int)*(c:Int))=((r*c:Nat):Int):=by rw[←Int.natCast_mul,wrap_i64 (by omega) (by omega)]
 refine callF (Z:=[]) tabOK mixedOK Tryz.func92 rfl (by kernel_rfl) (by first|rfl|(simp[keylessL,keyless,keylessL_map, *];done)) (by first|rfl|(simp[keylessL,keyless,keylessL_map, *];done)) (by kernel_rfl) rfl ?_
 intro w0 ρ0 hE
 conv=>whnf
 (repeat((first|refine step_w2 rfl rfl ?_|refine step_oA (by first|omega|decide|(simp only[tl0,dlen,List.length_replicate,List.length_set,List.length_map,List.length_zipWith,List.length_take,List.length_append,List.length_cons,List.length_nil];omega)) ?_|refine g_c (by assumption) ?_|rw[bne_self_eq_false]|refine⟨_,op_eqNilF rfl (ev_ok rfl) (ev_ok rfl) Tryz.underlying137, ?_⟩|rw[t1]|rw[Int.toNat_natCast]);conv=>whnf))
 refine SW_loopN hE (fun k=>k) [0,1,2,6,9,30,31] [6,9,25] (fun m fr hp=>∃i:Nat,m=r - i∧i≤r∧fr=[(0,iv r),(1,iv c),(2,.clo g [] []),(6,.ptr 6 0 0 0),(9,.ptr 9 0 0 0),(30,iv r),(31,iv (i:Nat))]∧
  hp=[(6,zM),(9,bM r c 25),(25,fblk ((mk r c F).take (i*c)++List.replicate (r*c - i*c) 0))]) r ?_ ?_ ?_
 ·kernel_rfl
 ·exact⟨0,rfl,Nat.zero_le _,rfl,by rw[Nat.zero_mul,List.take_zero];rfl⟩
 rintro m _ _ ⟨i,rfl,hi,rfl,rfl⟩
 conv=>whnf
 by_cases hlt:i<r
 ·have t2:=dlt hlt
  have t3:=winc (i:=i) (by omega)
  have hic:(i+1)*c≤r*c:=Nat.mul_le_mul_right c hlt
  rw[Nat.succ_mul]at hic
  have hlen:=fill_len (d:=(0:Rat)) (show i*c≤r*c by omega) hz
  have o1:=m_rowM (a:=(mk r c F).take (i*c)++List.replicate (r*c - i*c) 0) ⟨hr,hc,hlen⟩ hlt 25
  (repeat(first|(refine step_w1 rfl rfl ?_;conv=>whnf)|(refine g_c1 (by assumption) rfl ?_;conv=>whnf)|(rw[t2];conv=>whnf)))
  refine SW_loopN hE (fun k=>k) [0,1,2,6,9,10,11,30,31,37,38] [6,9,25] (fun m fr hp=>∃k:Nat,m=c - k∧k≤c∧fr=[(0,iv r),(1,iv c),(2,.clo g [] []),(6,.ptr 6 0 0 0),(9,.ptr 9 0 0 0),(10,iv (i:Nat)),(11,.slc 25 5 (i*c) c),(30,iv r),(31,iv (i:Nat)),(37,iv c),(38,iv (k:Nat))]∧
   hp=[(6,zM),(9,bM r c 25),(25,fblk ((mk r c F).take (i*c+k)++List.replicate (r*c - (i*c+k)) 0))]) c ?_ ?_ ?_
  ·kernel_rfl
  ·exact⟨0,rfl,Nat.zero_le _,rfl,rfl⟩
  rintro m _ _ ⟨k,rfl,hk,rfl,rfl⟩
  conv=>whnf
  by_cases hlk:k<c
  ·have t4:=dlt hlk
   have t5:=winc (i:=k) (by omega)
   have hlen:=fill_len (d:=(0:Rat)) (show i*c+k≤r*c by omega) hz
   have o2:=hf i k hlt hlk
   rw[←mk_el (f:=F) hlt hlk]at o2
   (repeat((first|refine step_w1 rfl rfl ?_|refine step_oL (by first|omega|decide|(simp only[tl0,dlen,List.length_replicate,List.length_set,List.length_map,List.length_zipWith,List.length_take,List.length_append,List.length_cons,List.length_nil];omega)) ?_|refine step_oA (by first|omega|decide|(simp only[tl0,dlen,List.length_replicate,List.length_set,List.length_map,List.length_zipWith,List.length_take,List.length_append,List.length_cons,List.length_nil];omega)) ?_|refine g_c (by assumption) ?_|rw[t4]|rw[t5]|rw[Int.toNat_natCast]);conv=>whnf))
   refine⟨c - (k+1),fun k=>k,[0,1,2,6,9,10,11,30,31,37,38],[6,9,25],by omega,by kernel_rfl,k+1,rfl,hlk,rfl, ?_⟩
   rw[show i*c+(k+1)=i*c+k+1 from rfl,fblk,←fill_set (e:=0) (show i*c+k<r*c by omega) hz]
   rfl
  ·have t4:=dge hlk
   obtain rfl:k=c:=by omega
   (repeat(first|(refine step_w2 rfl rfl ?_;conv=>whnf)|(rw[t4];conv=>whnf)|(rw[t3];conv=>whnf)))
   refine⟨r - (i+1),fun k=>k,[0,1,2,6,9,30,31],[6,9,25],by omega,by kernel_rfl,i+1,rfl,hlt,rfl, ?_⟩
   rw[Nat.succ_mul]
   rfl
 ·have t2:=dge hlt
  obtain rfl:i=r:=by omega
  rw[fill_all hz]
  (repeat(first|(refine step_w2 rfl rfl ?_;conv=>whnf)|(rw[t2];conv=>whnf)))
  (first|exact Recast.refl _|exact Frz.recast (Recast.refl _) rfl|(refine Frz.one rfl rfl ?_;skip)|(refine Frz.tup ?_;(repeat(first|exact FrzC.keyless rfl|exact FrzL.nil|refine FrzL.cons ?_ ?_|(refine FrzC.fracs rfl ?_;(first|rfl|omega|(simp<;>fail)|(simp<;>omega)))|refine FrzC.agg ?_))))
theorem m_Make1 {r c:Nat} (hr:r≤2048) (hc:c≤2048) (F:Nat→Nat→Rat) (g:FuncId) (p:Pred)
  (hf:∀i k,i<r→k<c→CallOK Tryz.prog g ([]++([iv (i:Nat),iv (k:Nat)]++[.atom p])) [] (.frac (F i k)) [] []):
  CallOK Tryz.prog 92 [iv r,iv c,.clo g [] [.atom p]] [] (.tup [mA r c (mk r c F),iv 0]) [] []:=by
 have k1:=m_sides r c
 rw[sides_of (by omega)]at k1
 have hz:(mk r c F).length=r*c:=mk_len ..
 have hrc:r*c≤2048*2048:=Nat.mul_le_mul hr hc
 have t1:IntKind.i64.wrap ((r:Int)*(c:Int))=((r*c:Nat):Int):=by rw[←Int.natCast_mul,wrap_i64 (by omega) (by omega)]
 refine callF (Z:=[]) tabOK mixedOK Tryz.func92 rfl (by kernel_rfl) (by first|rfl|(simp[keylessL,keyless,keylessL_map, *];done)) (by first|rfl|(simp[keylessL,keyless,keylessL_map, *];done)) (by kernel_rfl) rfl ?_
 intro w0 ρ0 hE
 conv=>whnf
 (repeat((first|refine step_w2 rfl rfl ?_|refine step_oA (by first|omega|decide|(simp only[tl0,dlen,List.length_replicate,List.length_set,List.length_map,List.length_zipWith,List.length_take,List.length_append,List.length_cons,List.length_nil];omega)) ?_|refine g_c (by assumption) ?_|rw[bne_self_eq_false]|refine⟨_,op_eqNilF rfl (ev_ok rfl) (ev_ok rfl) Tryz.underlying137, ?_⟩|rw[t1]|rw[Int.toNat_natCast]);conv=>whnf))
 refine SW_loopN hE (fun k=>k) [0,1,2,6,9,30,31] [6,9,25] (fun m fr hp=>∃i:Nat,m=r - i∧i≤r∧fr=[(0,iv r),(1,iv c),(2,.clo g [] [.atom p]),(6,.ptr 6 0 0 0),(9,.ptr 9 0 0 0),(30,iv r),(31,iv (i:Nat))]∧
  hp=[(6,zM),(9,bM r c 25),(25,fblk ((mk r c F).take (i*c)++List.replicate (r*c - i*c) 0))]) r ?_ ?_ ?_
 ·kernel_rfl
 ·exact⟨0,rfl,Nat.zero_le _,rfl,by rw[Nat.zero_mul,List.take_zero];rfl⟩
 rintro m _ _ ⟨i,rfl,hi,rfl,rfl⟩
 conv=>whnf
 by_cases hlt:i<r
 ·have t2:=dlt hlt
  have t3:=winc (i:=i) (by omega)
  have hic:(i+1)*c≤r*c:=Nat.mul_le_mul_right c hlt
  rw[Nat.succ_mul]at hic
  have hlen:=fill_len (d:=(0:Rat)) (show i*c≤r*c by omega) hz
  have o1:=m_rowM (a:=(mk r c F).take (i*c)++List.replicate (r*c - i*c) 0) ⟨hr,hc,hlen⟩ hlt 25
  (repeat(first|(refine step_w1 rfl rfl ?_;conv=>whnf)|(refine g_c1 (by assumption) rfl ?_;conv=>whnf)|(rw[t2];conv=>whnf)))
  refine SW_loopN hE (fun k=>k) [0,1,2,6,9,10,11,30,31,37,38] [6,9,25] (fun m fr hp=>∃k:Nat,m=c - k∧k≤c∧fr=[(0,iv r),(1,iv c),(2,.clo g [] [.atom p]),(6,.ptr 6 0 0 0),(9,.ptr 9 0 0 0),(10,iv (i:Nat)),(11,.slc 25 5 (i*c) c),(30,iv r),(31,iv (i:Nat)),(37,iv c),(38,iv (k:Nat))]∧
   hp=[(6,zM),(9,bM r c 25),(25,fblk ((mk r c F).take (i*c+k)++List.replicate (r*c - (i*c+k)) 0))]) c ?_ ?_ ?_
  ·kernel_rfl
  ·exact⟨0,rfl,Nat.zero_le _,rfl,rfl⟩
  rintro m _ _ ⟨k,rfl,hk,rfl,rfl⟩
  conv=>whnf
  by_cases hlk:k<c
  ·have t4:=dlt hlk
   have t5:=winc (i:=k) (by omega)
   have hlen:=fill_len (d:=(0:Rat)) (show i*c+k≤r*c by omega) hz
   have o2:=hf i k hlt hlk
   rw[←mk_el (f:=F) hlt hlk]at o2
   (repeat((first|refine step_w1 rfl rfl ?_|refine step_oL (by first|omega|decide|(simp only[tl0,dlen,List.length_replicate,List.length_set,List.length_map,List.length_zipWith,List.length_take,List.length_append,List.length_cons,List.length_nil];omega)) ?_|refine step_oA (by first|omega|decide|(simp only[tl0,dlen,List.length_replicate,List.length_set,List.length_map,List.length_zipWith,List.length_take,List.length_append,List.length_cons,List.length_nil];omega)) ?_|refine g_c (by assumption) ?_|rw[t4]|rw[t5]|rw[Int.toNat_natCast]);conv=>whnf))
   refine⟨c - (k+1),fun k=>k,[0,1,2,6,9,10,11,30,31,37,38],[6,9,25],by omega,by kernel_rfl,k+1,rfl,hlk,rfl, ?_⟩
   rw[show i*c+(k+1)=i*c+k+1 from rfl,fblk,←fill_set (e:=0) (show i*c+k<r*c by omega) hz]
   rfl
  ·have t4:=dge hlk
   obtain rfl:k=c:=by omega
   (repeat(first|(refine step_w2 rfl rfl ?_;conv=>whnf)|(rw[t4];conv=>whnf)|(rw[t3];conv=>whnf)))
   refine⟨r - (i+1),fun k=>k,[0,1,2,6,9,30,31],[6,9,25],by omega,by kernel_rfl,i+1,rfl,hlt,rfl, ?_⟩
   rw[Nat.succ_mul]
   rfl
 ·have t2:=dge hlt
  obtain rfl:i=r:=by omega
  rw[fill_all hz]
  (repeat(first|(refine step_w2 rfl rfl ?_;conv=>whnf)|(rw[t2];conv=>whnf)))
  (first|exact Recast.refl _|exact Frz.recast (Recast.refl _) rfl|(refine Frz.one rfl rfl ?_;skip)|(refine Frz.tup ?_;(repeat(first|exact FrzC.keyless rfl|exact FrzL.nil|refine FrzL.cons ?_ ?_|(refine FrzC.fracs rfl ?_;(first|rfl|omega|(simp<;>fail)|(simp<;>omega)))|refine FrzC.agg ?_))))
theorem m_Make2 {r c:Nat} (hr:r≤2048) (hc:c≤2048) (F:Nat→Nat→Rat) (g:FuncId) (p q:Pred)
  (hf:∀i k,i<r→k<c→CallOK Tryz.prog g ([]++([iv (i:Nat),iv (k:Nat)]++[.atom p,.atom q])) [] (.frac (F i k)) [] []):
  CallOK Tryz.prog 92 [iv r,iv c,.clo g [] [.atom p,.atom q]] [] (.tup [mA r c (mk r c F),iv 0]) [] []:=by
 have k1:=m_sides r c
 rw[sides_of (by omega)]at k1
 have hz:(mk r c F).length=r*c:=mk_len ..
 have hrc:r*c≤2048*2048:=Nat.mul_le_mul hr hc
 have t1:IntKind.i64.wrap ((r:Int)*(c:Int))=((r*c:Nat):Int):=by rw[←Int.natCast_mul,wrap_i64 (by omega) (by omega)]
 refine callF (Z:=[]) tabOK mixedOK Tryz.func92 rfl (by kernel_rfl) (by first|rfl|(simp[keylessL,keyless,keylessL_map, *];done)) (by first|rfl|(simp[keylessL,keyless,keylessL_map, *];done)) (by kernel_rfl) rfl ?_
 intro w0 ρ0 hE
 conv=>whnf
 (repeat((first|refine step_w2 rfl rfl ?_|refine step_oA (by first|omega|decide|(simp only[tl0,dlen,List.length_replicate,List.length_set,List.length_map,List.length_zipWith,List.length_take,List.length_append,List.length_cons,List.length_nil];omega)) ?_|refine g_c (by assumption) ?_|rw[bne_self_eq_false]|refine⟨_,op_eqNilF rfl (ev_ok rfl) (ev_ok rfl) Tryz.underlying137, ?_⟩|rw[t1]|rw[Int.toNat_natCast]);conv=>whnf))
 refine SW_loopN hE (fun k=>k) [0,1,2,6,9,30,31] [6,9,25] (fun m fr hp=>∃i:Nat,m=r - i∧i≤r∧fr=[(0,iv r),(1,iv c),(2,.clo g [] [.atom p,.atom q]),(6,.ptr 6 0 0 0),(9,.ptr 9 0 0 0),(30,iv r),(31,iv (i:Nat))]∧
  hp=[(6,zM),(9,bM r c 25),(25,fblk ((mk r c F).take (i*c)++List.replicate (r*c - i*c) 0))]) r ?_ ?_ ?_
 ·kernel_rfl
 ·exact⟨0,rfl,Nat.zero_le _,rfl,by rw[Nat.zero_mul,List.take_zero];rfl⟩
 rintro m _ _ ⟨i,rfl,hi,rfl,rfl⟩
 conv=>whnf
 by_cases hlt:i<r
 ·have t2:=dlt hlt
  have t3:=winc (i:=i) (by omega)
  have hic:(i+1)*c≤r*c:=Nat.mul_le_mul_right c hlt
  rw[Nat.succ_mul]at hic
  have hlen:=fill_len (d:=(0:Rat)) (show i*c≤r*c by omega) hz
  have o1:=m_rowM (a:=(mk r c F).take (i*c)++List.replicate (r*c - i*c) 0) ⟨hr,hc,hlen⟩ hlt 25
  (repeat(first|(refine step_w1 rfl rfl ?_;conv=>whnf)|(refine g_c1 (by assumption) rfl ?_;conv=>whnf)|(rw[t2];conv=>whnf)))
  refine SW_loopN hE (fun k=>k) [0,1,2,6,9,10,11,30,31,37,38] [6,9,25] (fun m fr hp=>∃k:Nat,m=c - k∧k≤c∧fr=[(0,iv r),(1,iv c),(2,.clo g [] [.atom p,.atom q]),(6,.ptr 6 0 0 0),(9,.ptr 9 0 0 0),(10,iv (i:Nat)),(11,.slc 25 5 (i*c) c),(30,iv r),(31,iv (i:Nat)),(37,iv c),(38,iv (k:Nat))]∧
   hp=[(6,zM),(9,bM r c 25),(25,fblk ((mk r c F).take (i*c+k)++List.replicate (r*c - (i*c+k)) 0))]) c ?_ ?_ ?_
  ·kernel_rfl
  ·exact⟨0,rfl,Nat.zero_le _,rfl,rfl⟩
  rintro m _ _ ⟨k,rfl,hk,rfl,rfl⟩
  conv=>whnf
  by_cases hlk:k<c
  ·have t4:=dlt hlk
   have t5:=winc (i:=k) (by omega)
   have hlen:=fill_len (d:=(0:Rat)) (show i*c+k≤r*c by omega) hz
   have o2:=hf i k hlt hlk
   rw[←mk_el (f:=F) hlt hlk]at o2
   (repeat((first|refine step_w1 rfl rfl ?_|refine step_oL (by first|omega|decide|(simp only[tl0,dlen,List.length_replicate,List.length_set,List.length_map,List.length_zipWith,List.length_take,List.length_append,List.length_cons,List.length_nil];omega)) ?_|refine step_oA (by first|omega|decide|(simp only[tl0,dlen,List.length_replicate,List.length_set,List.length_map,List.length_zipWith,List.length_take,List.length_append,List.length_cons,List.length_nil];omega)) ?_|refine g_c (by assumption) ?_|rw[t4]|rw[t5]|rw[Int.toNat_natCast]);conv=>whnf))
   refine⟨c - (k+1),fun k=>k,[0,1,2,6,9,10,11,30,31,37,38],[6,9,25],by omega,by kernel_rfl,k+1,rfl,hlk,rfl, ?_⟩
   rw[show i*c+(k+1)=i*c+k+1 from rfl,fblk,←fill_set (e:=0) (show i*c+k<r*c by omega) hz]
   rfl
  ·have t4:=dge hlk
   obtain rfl:k=c:=by omega
   (repeat(first|(refine step_w2 rfl rfl ?_;conv=>whnf)|(rw[t4];conv=>whnf)|(rw[t3];conv=>whnf)))
   refine⟨r - (i+1),fun k=>k,[0,1,2,6,9,30,31],[6,9,25],by omega,by kernel_rfl,i+1,rfl,hlt,rfl, ?_⟩
   rw[Nat.succ_mul]
   rfl
 ·have t2:=dge hlt
  obtain rfl:i=r:=by omega
  rw[fill_all hz]
  (repeat(first|(refine step_w2 rfl rfl ?_;conv=>whnf)|(rw[t2];conv=>whnf)))
  (first|exact Recast.refl _|exact Frz.recast (Recast.refl _) rfl|(refine Frz.one rfl rfl ?_;skip)|(refine Frz.tup ?_;(repeat(first|exact FrzC.keyless rfl|exact FrzL.nil|refine FrzL.cons ?_ ?_|(refine FrzC.fracs rfl ?_;(first|rfl|omega|(simp<;>fail)|(simp<;>omega)))|refine FrzC.agg ?_))))
theorem m_Make3 {r c:Nat} (hr:r≤2048) (hc:c≤2048) (F:Nat→Nat→Rat) (g:FuncId) (p q s:Pred)
  (hf:∀i k,i<r→k<c→CallOK Tryz.prog g ([]++([iv (i:Nat),iv (k:Nat)]++[.atom p,.atom q,.atom s])) [] (.frac (F i k)) [] []):
  CallOK Tryz.prog 92 [iv r,iv c,.clo g [] [.atom p,.atom q,.atom s]] [] (.tup [mA r c (mk r c F),iv 0]) [] []:=by
 have k1:=m_sides r c
 rw[sides_of (by omega)]at k1
 have hz:(mk r c F).length=r*c:=mk_len ..
 have hrc:r*c≤2048*2048:=Nat.mul_le_mul hr hc
 have t1:IntKind.i64.wrap ((r:Int)*(c:Int))=((r*c:Nat):Int):=by rw[←Int.natCast_mul,wrap_i64 (by omega) (by omega)]
 refine callF (Z:=[]) tabOK mixedOK Tryz.func92 rfl (by kernel_rfl) (by first|rfl|(simp[keylessL,keyless,keylessL_map, *];done)) (by first|rfl|(simp[keylessL,keyless,keylessL_map, *];done)) (by kernel_rfl) rfl ?_
 intro w0 ρ0 hE
 conv=>whnf
 (repeat((first|refine step_w2 rfl rfl ?_|refine step_oA (by first|omega|decide|(simp only[tl0,dlen,List.length_replicate,List.length_set,List.length_map,List.length_zipWith,List.length_take,List.length_append,List.length_cons,List.length_nil];omega)) ?_|refine g_c (by assumption) ?_|rw[bne_self_eq_false]|refine⟨_,op_eqNilF rfl (ev_ok rfl) (ev_ok rfl) Tryz.underlying137, ?_⟩|rw[t1]|rw[Int.toNat_natCast]);conv=>whnf))
 refine SW_loopN hE (fun k=>k) [0,1,2,6,9,30,31] [6,9,25] (fun m fr hp=>∃i:Nat,m=r - i∧i≤r∧fr=[(0,iv r),(1,iv c),(2,.clo g [] [.atom p,.atom q,.atom s]),(6,.ptr 6 0 0 0),(9,.ptr 9 0 0 0),(30,iv r),(31,iv (i:Nat))]∧
  hp=[(6,zM),(9,bM r c 25),(25,fblk ((mk r c F).take (i*c)++List.replicate (r*c - i*c) 0))]) r ?_ ?_ ?_
 ·kernel_rfl
 ·exact⟨0,rfl,Nat.zero_le _,rfl,by rw[Nat.zero_mul,List.take_zero];rfl⟩
 rintro m _ _ ⟨i,rfl,hi,rfl,rfl⟩
 conv=>whnf
 by_cases hlt:i<r
 ·have t2:=dlt hlt
  have t3:=winc (i:=i) (by omega)
  have hic:(i+1)*c≤r*c:=Nat.mul_le_mul_right c hlt
  rw[Nat.succ_mul]at hic
  have hlen:=fill_len (d:=(0:Rat)) (show i*c≤r*c by omega) hz
  have o1:=m_rowM (a:=(mk r c F).take (i*c)++List.replicate (r*c - i*c) 0) ⟨hr,hc,hlen⟩ hlt 25
  (repeat(first|(refine step_w1 rfl rfl ?_;conv=>whnf)|(refine g_c1 (by assumption) rfl ?_;conv=>whnf)|(rw[t2];conv=>whnf)))
  refine SW_loopN hE (fun k=>k) [0,1,2,6,9,10,11,30,31,37,38] [6,9,25] (fun m fr hp=>∃k:Nat,m=c - k∧k≤c∧fr=[(0,iv r),(1,iv c),(2,.clo g [] [.atom p,.atom q,.atom s]),(6,.ptr 6 0 0 0),(9,.ptr 9 0 0 0),(10,iv (i:Nat)),(11,.slc 25 5 (i*c) c),(30,iv r),(31,iv (i:Nat)),(37,iv c),(38,iv (k:Nat))]∧
   hp=[(6,zM),(9,bM r c 25),(25,fblk ((mk r c F).take (i*c+k)++List.replicate (r*c - (i*c+k)) 0))]) c ?_ ?_ ?_
  ·kernel_rfl
  ·exact⟨0,rfl,Nat.zero_le _,rfl,rfl⟩
  rintro m _ _ ⟨k,rfl,hk,rfl,rfl⟩
  conv=>whnf
  by_cases hlk:k<c
  ·have t4:=dlt hlk
   have t5:=winc (i:=k) (by omega)
   have hlen:=fill_len (d:=(0:Rat)) (show i*c+k≤r*c by omega) hz
   have o2:=hf i k hlt hlk
   rw[←mk_el (f:=F) hlt hlk]at o2
   (repeat((first|refine step_w1 rfl rfl ?_|refine step_oL (by first|omega|decide|(simp only[tl0,dlen,List.length_replicate,List.length_set,List.length_map,List.length_zipWith,List.length_take,List.length_append,List.length_cons,List.length_nil];omega)) ?_|refine step_oA (by first|omega|decide|(simp only[tl0,dlen,List.length_replicate,List.length_set,List.length_map,List.length_zipWith,List.length_take,List.length_append,List.length_cons,List.length_nil];omega)) ?_|refine g_c (by assumption) ?_|rw[t4]|rw[t5]|rw[Int.toNat_natCast]);conv=>whnf))
   refine⟨c - (k+1),fun k=>k,[0,1,2,6,9,10,11,30,31,37,38],[6,9,25],by omega,by kernel_rfl,k+1,rfl,hlk,rfl, ?_⟩
   rw[show i*c+(k+1)=i*c+k+1 from rfl,fblk,←fill_set (e:=0) (show i*c+k<r*c by omega) hz]
   rfl
  ·have t4:=dge hlk
   obtain rfl:k=c:=by omega
   (repeat(first|(refine step_w2 rfl rfl ?_;conv=>whnf)|(rw[t4];conv=>whnf)|(rw[t3];conv=>whnf)))
   refine⟨r - (i+1),fun k=>k,[0,1,2,6,9,30,31],[6,9,25],by omega,by kernel_rfl,i+1,rfl,hlt,rfl, ?_⟩
   rw[Nat.succ_mul]
   rfl
 ·have t2:=dge hlt
  obtain rfl:i=r:=by omega
  rw[fill_all hz]
  (repeat(first|(refine step_w2 rfl rfl ?_;conv=>whnf)|(rw[t2];conv=>whnf)))
  (first|exact Recast.refl _|exact Frz.recast (Recast.refl _) rfl|(refine Frz.one rfl rfl ?_;skip)|(refine Frz.tup ?_;(repeat(first|exact FrzC.keyless rfl|exact FrzL.nil|refine FrzL.cons ?_ ?_|(refine FrzC.fracs rfl ?_;(first|rfl|omega|(simp<;>fail)|(simp<;>omega)))|refine FrzC.agg ?_))))
end Go.Proofs.YtfpagioknjjacaaGreatDoor
namespace Go.Proofs.YtfpagioknjjacaaGreatDoor
open Go.Sx
set_option linter.unusedSimpArgs false
set_option linter.unusedVariables false
set_option maxRecDepth 100000
set_option maxHeartbeats 4000000
theorem delta_eq (i k:Nat):delta i k=if i=k then((1:Int):Rat)else 0:=by unfold delta;split<;>simp
theorem m_One1 (i k:Nat) (hi:i≤2048) (hk:k≤2048):CallOK Tryz.prog 192 ([]++([iv (i:Nat),iv (k:Nat)]++[])) [] (.frac (delta i k)) [] []:=by
 have k1:=c_fInt 1 (by decide) (by decide)
 rw[delta_eq]
 refine callV (Z:=[]) tabOK mixedOK Tryz.func192 rfl (by kernel_rfl) rfl rfl (by kernel_rfl) rfl ?_
 intro W0 w0 ρ0 hE
 conv=>whnf
 by_cases h:i=k
 ·have t1:((i:Int) != (k:Int))=false:=by rw[h];exact bne_self_eq_false _
  rw[if_pos h]
  (repeat(first|(refine step_w2 rfl rfl ?_;conv=>whnf)|(refine g_c (by assumption) ?_;conv=>whnf)|(rw[t1];conv=>whnf)));(first|exact Recast.refl _|exact Frz.recast (Recast.refl _) rfl|(refine Frz.one rfl rfl ?_;skip)|(refine Frz.tup ?_;skip))
 ·have t1:((i:Int) != (k:Int))=true:=bne_iff_ne.2 (by omega)
  rw[if_neg h]
  (repeat(first|(refine step_w1 rfl rfl ?_;conv=>whnf)|(rw[t1];conv=>whnf)));(first|exact Recast.refl _|exact Frz.recast (Recast.refl _) rfl|(refine Frz.one rfl rfl ?_;skip)|(refine Frz.tup ?_;skip))
theorem m_One (n:Nat) (hn:n≤2048):CallOK Tryz.prog 57 [iv n] [] (.tup [mA n n (mone n),iv 0]) [] []:=by
 have k1:=m_Make0 hn hn delta 192 (fun i k hi hk=>m_One1 i k (by omega) (by omega))
 refine callV (Z:=[]) tabOK mixedOK Tryz.func57 rfl (by kernel_rfl) rfl rfl (by kernel_rfl) rfl ?_
 intro W0 w0 ρ0 hE
 conv=>whnf
 (repeat(first|(refine g_c (by assumption) ?_;conv=>whnf)));(first|exact Recast.refl _|exact Frz.recast (Recast.refl _) rfl|(refine Frz.one rfl rfl ?_;skip)|(refine Frz.tup ?_;skip))
theorem zip_mk {F:Rat→Rat→Rat} {r c:Nat} {a b:List Rat} (ha:a.length=r*c) (hb:b.length=r*c):mk r c (fun i k=>F (el a c i k) (el b c i k))=List.zipWith F a b:=
 mk_ext (zip_len ha hb) fun i k hi hk=>(zip_get (by rw[ha];exact idx_lt hi hk) (by rw[hb];exact idx_lt hi hk)).symm
theorem m_each0 (F:Rat→Rat→Rat) (g:FuncId) {r c:Nat} {a b:List Rat} (ha:OKM r c a) (hb:OKM r c b)
  (hf:∀i k,i<r→k<c→CallOK Tryz.prog g ([]++([.frac (el a c i k),.frac (el b c i k)]++[])) [] (.frac (F (el a c i k) (el b c i k))) [] []):
  CallOK Tryz.prog 103 [mA r c a,mA r c b,.clo g [] []] [] (.tup [mA r c (List.zipWith F a b),iv 0]) [] []:=by
 have k1:=m_all2 ha hb
 have kc:∀i k,i<r→k<c→CallOK Tryz.prog 219 ([]++([iv (i:Nat),iv (k:Nat)]++[ptrA [.clo g [] []],ptrA (mC r c a),ptrA (mC r c b)])) [] (.frac (F (el a c i k) (el b c i k))) [] []:=by
  intro i k hi hk
  have o1:=m_at ha hi hk
  have o2:=m_at hb hi hk
  have o3:=hf i k hi hk
  refine callV (Z:=[]) tabOK mixedOK Tryz.func219 rfl (by kernel_rfl) rfl rfl (by kernel_rfl) rfl ?_
  intro W0 w0 ρ0 hE
  conv=>whnf
  (repeat(first|(refine step_i (by kernel_rfl) ?_;conv=>whnf)|(refine g_c (by assumption) ?_;conv=>whnf)|(refine g_o (op_loadA rfl (ev_ok rfl) (tgt rfl) rfl (Nat.succ_ne_zero _) rfl) ?_;conv=>whnf)));(first|exact Recast.refl _|exact Frz.recast (Recast.refl _) rfl|(refine Frz.one rfl rfl ?_;skip)|(refine Frz.tup ?_;skip))
 have k2:=m_Make3 ha.r ha.c _ 219 (ptrP [.clo g [] []]) (ptrP (mC r c a)) (ptrP (mC r c b)) kc
 rw[zip_mk ha.n hb.n]at k2
 refine callV (Z:=[3,4,5,11]) tabOK mixedOK Tryz.func103 rfl (by kernel_rfl) rfl rfl (by kernel_rfl) rfl ?_
 intro W0 w0 ρ0 hE
 conv=>whnf
 (repeat((first|refine step_w1 rfl rfl ?_|refine step_w2 rfl rfl ?_|refine g_c (by assumption) ?_|refine g_o (op_pickF rfl (ev_ok rfl) (ev_ok rfl)) ?_|rw[bne_self_eq_false]|refine g_o (op_loadA rfl (ev_ok rfl) (tgt rfl) rfl (Nat.succ_ne_zero _) rfl) ?_|refine g_o (op_fieldA rfl (ev_ok rfl) (tgt rfl) rfl rfl (Nat.succ_ne_zero _) rfl) ?_|refine g_o (op_makeFunc rfl rfl rfl) ?_);conv=>whnf));(first|exact Recast.refl _|exact Frz.recast (Recast.refl _) rfl|(refine Frz.one rfl rfl ?_;skip)|(refine Frz.tup ?_;skip))
theorem m_each1 (F:Rat→Rat→Rat) (g:FuncId) (p:Pred) {r c:Nat} {a b:List Rat} (ha:OKM r c a) (hb:OKM r c b)
  (hf:∀i k,i<r→k<c→CallOK Tryz.prog g ([]++([.frac (el a c i k),.frac (el b c i k)]++[.atom p])) [] (.frac (F (el a c i k) (el b c i k))) [] []):
  CallOK Tryz.prog 103 [mA r c a,mA r c b,.clo g [] [.atom p]] [] (.tup [mA r c (List.zipWith F a b),iv 0]) [] []:=by
 have k1:=m_all2 ha hb
 have kc:∀i k,i<r→k<c→CallOK Tryz.prog 219 ([]++([iv (i:Nat),iv (k:Nat)]++[ptrA [.clo g [] [.atom p]],ptrA (mC r c a),ptrA (mC r c b)])) [] (.frac (F (el a c i k) (el b c i k))) [] []:=by
  intro i k hi hk
  have o1:=m_at ha hi hk
  have o2:=m_at hb hi hk
  have o3:=hf i k hi hk
  refine callV (Z:=[]) tabOK mixedOK Tryz.func219 rfl (by kernel_rfl) rfl rfl (by kernel_rfl) rfl ?_
  intro W0 w0 ρ0 hE
  conv=>whnf
  (repeat(first|(refine step_i (by kernel_rfl) ?_;conv=>whnf)|(refine g_c (by assumption) ?_;conv=>whnf)|(refine g_o (op_loadA rfl (ev_ok rfl) (tgt rfl) rfl (Nat.succ_ne_zero _) rfl) ?_;conv=>whnf)));(first|exact Recast.refl _|exact Frz.recast (Recast.refl _) rfl|(refine Frz.one rfl rfl ?_;skip)|(refine Frz.tup ?_;skip))
 have k2:=m_Make3 ha.r ha.c _ 219 (ptrP [.clo g [] [.atom p]]) (ptrP (mC r c a)) (ptrP (mC r c b)) kc
 rw[zip_mk ha.n hb.n]at k2
 refine callV (Z:=[3,4,5,11]) tabOK mixedOK Tryz.func103 rfl (by kernel_rfl) rfl rfl (by kernel_rfl) rfl ?_
 intro W0 w0 ρ0 hE
 conv=>whnf
 (repeat((first|refine step_w1 rfl rfl ?_|refine step_w2 rfl rfl ?_|refine g_c (by assumption) ?_|refine g_o (op_pickF rfl (ev_ok rfl) (ev_ok rfl)) ?_|rw[bne_self_eq_false]|refine g_o (op_loadA rfl (ev_ok rfl) (tgt rfl) rfl (Nat.succ_ne_zero _) rfl) ?_|refine g_o (op_fieldA rfl (ev_ok rfl) (tgt rfl) rfl rfl (Nat.succ_ne_zero _) rfl) ?_|refine g_o (op_makeFunc rfl rfl rfl) ?_);conv=>whnf));(first|exact Recast.refl _|exact Frz.recast (Recast.refl _) rfl|(refine Frz.one rfl rfl ?_;skip)|(refine Frz.tup ?_;skip))
theorem el_add {r c A B:Nat} {a b:List Rat} (sa:Sm A a) (sb:Sm B b) (ha:OKM r c a) (hb:OKM r c b) {i k:Nat} (hi:i<r) (hk:k<c):fs (el a c i k)+fs (el b c i k)≤A+B:=
 Nat.add_le_add (el_sm sa ha.n hi hk) (el_sm sb hb.n hi hk)
theorem m_Add {r c A B:Nat} {a b:List Rat} (ha:OKM r c a) (hb:OKM r c b) (sa:Sm A a) (sb:Sm B b) (h:A+B≤1073741824):CallOK Tryz.prog 17 [mA r c a,mA r c b] [] (.tup [mA r c (vadd a b),iv 0]) [] []:=by
 have k1:=m_each0 (·+·) 80 ha hb (fun i k hi hk=>f_Add _ _ (Nat.le_trans (el_add sa sb ha hb hi hk) h))
 refine callV (Z:=[]) tabOK mixedOK Tryz.func17 rfl (by kernel_rfl) rfl rfl (by kernel_rfl) rfl ?_
 intro W0 w0 ρ0 hE
 conv=>whnf
 (repeat(first|(refine g_c (by assumption) ?_;conv=>whnf)));(first|exact Recast.refl _|exact Frz.recast (Recast.refl _) rfl|(refine Frz.one rfl rfl ?_;skip)|(refine Frz.tup ?_;skip))
theorem m_Sub {r c A B:Nat} {a b:List Rat} (ha:OKM r c a) (hb:OKM r c b) (sa:Sm A a) (sb:Sm B b) (h:A+B≤1073741824):CallOK Tryz.prog 65 [mA r c a,mA r c b] [] (.tup [mA r c (vsub a b),iv 0]) [] []:=by
 have k1:=m_each0 (· - ·) 142 ha hb (fun i k hi hk=>f_Sub _ _ (Nat.le_trans (el_add sa sb ha hb hi hk) h))
 refine callV (Z:=[]) tabOK mixedOK Tryz.func65 rfl (by kernel_rfl) rfl rfl (by kernel_rfl) rfl ?_
 intro W0 w0 ρ0 hE
 conv=>whnf
 (repeat(first|(refine g_c (by assumption) ?_;conv=>whnf)));(first|exact Recast.refl _|exact Frz.recast (Recast.refl _) rfl|(refine Frz.one rfl rfl ?_;skip)|(refine Frz.tup ?_;skip))
theorem m_Scale1 (c x y:Rat) (h:fs c+fs x≤1073741824):CallOK Tryz.prog 194 ([]++([.frac x,.frac y]++[ptrA [.frac c]])) [] (.frac (c*x)) [] []:=by
 have k1:=f_Mul c x h
 refine callV (Z:=[]) tabOK mixedOK Tryz.func194 rfl (by kernel_rfl) rfl rfl (by kernel_rfl) rfl ?_
 intro W0 w0 ρ0 hE
 conv=>whnf
 (repeat(first|(refine g_c (by assumption) ?_;conv=>whnf)|(refine g_o (op_loadA rfl (ev_ok rfl) (tgt rfl) rfl (Nat.succ_ne_zero _) rfl) ?_;conv=>whnf)));(first|exact Recast.refl _|exact Frz.recast (Recast.refl _) rfl|(refine Frz.one rfl rfl ?_;skip)|(refine Frz.tup ?_;skip))
theorem m_Scale {r c A C:Nat} {q:Rat} {a:List Rat} (ha:OKM r c a) (hq:fs q≤C) (sa:Sm A a) (h:C+A≤1073741824):CallOK Tryz.prog 66 [.frac q,mA r c a] [] (.tup [mA r c (vscale q a),iv 0]) [] []:=by
 have k1:=m_each1 (fun x _=>q*x) 194 (ptrP [.frac q]) ha ha (fun i k hi hk=>m_Scale1 _ _ _ (by have:=el_sm sa ha.n hi hk;omega))
 refine callV (Z:=[2]) tabOK mixedOK Tryz.func66 rfl (by kernel_rfl) rfl rfl (by kernel_rfl) rfl ?_
 intro W0 w0 ρ0 hE
 conv=>whnf
 (repeat(first|(refine g_c (by assumption) ?_;conv=>whnf)|(refine g_o (op_makeFunc rfl rfl rfl) ?_;conv=>whnf)));(first|exact Recast.refl _|exact Frz.recast (Recast.refl _) rfl|(refine Frz.one rfl rfl ?_;skip)|(refine Frz.tup ?_;skip))
theorem m_Turn1 {r c:Nat} {a:List Rat} (ha:OKM r c a) (i k:Nat) (hi:i<c) (hk:k<r):CallOK Tryz.prog 101 ([]++([iv (i:Nat),iv (k:Nat)]++[ptrA (mC r c a)])) [] (.frac (el a c k i)) [] []:=by
 have k1:=m_at ha hk hi
 refine callV (Z:=[]) tabOK mixedOK Tryz.func101 rfl (by kernel_rfl) rfl rfl (by kernel_rfl) rfl ?_
 intro W0 w0 ρ0 hE
 conv=>whnf
 (repeat(first|(refine g_c (by assumption) ?_;conv=>whnf)|(refine g_o (op_loadA rfl (ev_ok rfl) (tgt rfl) rfl (Nat.succ_ne_zero _) rfl) ?_;conv=>whnf)));(first|exact Recast.refl _|exact Frz.recast (Recast.refl _) rfl|(refine Frz.one rfl rfl ?_;skip)|(refine Frz.tup ?_;skip))
theorem m_Turn {r c:Nat} {a:List Rat} (ha:OKM r c a):CallOK Tryz.prog 16 [mA r c a] [] (.tup [mA c r (mturn r c a),iv 0]) [] []:=by
 have k0:=m_Check0 ha
 have k1:=m_Make1 ha.c ha.r _ 101 (ptrP (mC r c a)) (fun i k hi hk=>m_Turn1 ha i k hi hk)
 refine callV (Z:=[1]) tabOK mixedOK Tryz.func16 rfl (by kernel_rfl) rfl rfl (by kernel_rfl) rfl ?_
 intro W0 w0 ρ0 hE
 conv=>whnf
 (repeat((first|refine step_w2 rfl rfl ?_|refine g_c (by assumption) ?_|rw[bne_self_eq_false]|refine g_o (op_loadA rfl (ev_ok rfl) (tgt rfl) rfl (Nat.succ_ne_zero _) rfl) ?_|refine g_o (op_fieldA rfl (ev_ok rfl) (tgt rfl) rfl rfl (Nat.succ_ne_zero _) rfl) ?_|refine g_o (op_makeFunc rfl rfl rfl) ?_);conv=>whnf));(first|exact Recast.refl _|exact Frz.recast (Recast.refl _) rfl|(refine Frz.one rfl rfl ?_;skip)|(refine Frz.tup ?_;skip))
theorem m_Outer1 {v w:List Rat} (i k:Nat) (hi:i<v.length) (hk:k<w.length) (h:fs (v.getD i 0)+fs (w.getD k 0)≤1073741824):CallOK Tryz.prog 210 ([]++([iv (i:Nat),iv (k:Nat)]++[ptrA [fvec v],ptrA [fvec w]])) [] (.frac (v.getD i 0*w.getD k 0)) [] []:=by
 have k1:=f_Mul (v.getD i 0) (w.getD k 0) h
 refine callV (Z:=[]) tabOK mixedOK Tryz.func210 rfl (by kernel_rfl) rfl rfl (by kernel_rfl) rfl ?_
 intro W0 w0 ρ0 hE
 conv=>whnf
 (repeat((first|refine step_i (by kernel_rfl) ?_|refine g_c (by assumption) ?_|refine g_o (op_indexN (α:=Rat) (d:=0) rfl (ev_ok rfl) (ev_ok rfl) (tgt rfl) rfl (tgt rfl) rfl (by omega)) ?_|refine g_o (op_loadA rfl (ev_ok rfl) (tgt rfl) rfl (Nat.succ_ne_zero _) rfl) ?_);conv=>whnf));(first|exact Recast.refl _|exact Frz.recast (Recast.refl _) rfl|(refine Frz.one rfl rfl ?_;skip)|(refine Frz.tup ?_;skip))
abbrev mouter (v w:List Rat):List Rat:=mk v.length w.length fun i k=>v.getD i 0*w.getD k 0
theorem m_Outer {v w:List Rat} {A B:Nat} (hv:v.length≤2048) (hw:w.length≤2048) (sv:Sm A v) (sw:Sm B w) (h:A+B≤1073741824):CallOK Tryz.prog 82 [fvec v,fvec w] [] (.tup [mA v.length w.length (mouter v w),iv 0]) [] []:=by
 have k1:=m_Make2 hv hw _ 210 (ptrP [fvec v]) (ptrP [fvec w]) (fun i k hi hk=>m_Outer1 i k hi hk (by have:=sv i hi;have:=sw k hk;omega))
 refine callV (Z:=[2,3]) tabOK mixedOK Tryz.func82 rfl (by kernel_rfl) rfl rfl (by kernel_rfl) rfl ?_
 intro W0 w0 ρ0 hE
 conv=>whnf
 (repeat((first|refine g_c (by assumption) ?_|refine g_o (op_lenM rfl rfl rfl (ev_ok rfl) (tgt rfl) rfl) ?_|refine g_o (op_loadA rfl (ev_ok rfl) (tgt rfl) rfl (Nat.succ_ne_zero _) rfl) ?_|refine g_o (op_makeFunc rfl rfl rfl) ?_);conv=>whnf));(first|exact Recast.refl _|exact Frz.recast (Recast.refl _) rfl|(refine Frz.one rfl rfl ?_;skip)|(refine Frz.tup ?_;skip))
end Go.Proofs.YtfpagioknjjacaaGreatDoor
namespace Go.Proofs.YtfpagioknjjacaaGreatDoor
open Go.Sx
set_option linter.unusedSimpArgs false
set_option linter.unusedVariables false
set_option maxRecDepth 100000
set_option maxHeartbeats 4000000
theorem m_Mul1 {r s t A B S:Nat} {a b:List Rat} (ha:OKM r s a) (hb:OKM s t b) (sa:Sm A a) (sb:Sm B b) (hS:s≤S) (h:A+B+(2+S*(A+B))≤1073741824) (i k:Nat) (hi:i<r) (hk:k<t):
  CallOK Tryz.prog 196 ([]++([iv (i:Nat),iv (k:Nat)]++[ptrA (mC r s a),ptrA (mC s t b)])) [] (.frac (sumR s fun p=>el a s i p*el b t p k)) [] []:=by
 have hs:=ha.c
 refine callV (Z:=[]) tabOK mixedOK Tryz.func196 rfl (by kernel_rfl) rfl rfl (by kernel_rfl) rfl ?_
 intro W0 w0 ρ0 hE
 conv=>whnf
 (repeat(first|(refine g_o (op_loadA rfl (ev_ok rfl) (tgt rfl) rfl (Nat.succ_ne_zero _) rfl) ?_;conv=>whnf)|(refine g_o (op_fieldA rfl (ev_ok rfl) (tgt rfl) rfl rfl (Nat.succ_ne_zero _) rfl) ?_;conv=>whnf)))
 refine SW_loopN hE (fun k=>k) [0,1,2,3,6,7,11,12] [6,7] (fun m fr hp=>∃(p:Nat) (q:Rat),m=s - p∧p≤s∧q=sumR p (fun p=>el a s i p*el b t p k)∧fs q≤2+p*(A+B)∧fr=[(0,iv (i:Nat)),(1,iv (k:Nat)),(2,ptrA (mC r s a)),(3,ptrA (mC s t b)),(6,.ptr 6 0 0 0),(7,.ptr 7 0 0 0),(11,iv s),(12,iv (p:Nat))]∧hp=[(6,⟨52,true,.one [.frac 0]⟩),(7,⟨52,true,.one [.frac q]⟩)]) s ?_ ?_ ?_
 ·kernel_rfl
 ·exact⟨0,0,rfl,Nat.zero_le _,rfl,by rw[fs_zero];omega,rfl,rfl⟩
 rintro m _ _ ⟨p,q,rfl,hp,hq,hfs,rfl,rfl⟩
 conv=>whnf
 by_cases hlt:p<s
 ·have t1:=dlt hlt
  have t2:=winc (i:=p) (by omega)
  have o1:=m_at ha hi hlt
  have o2:=m_at hb hlt hk
  have b1:=el_sm sa ha.n hi hlt
  have b2:=el_sm sb hb.n hlt hk
  have b3:=fs_mul (el a s i p) (el b t p k)
  have b4:=Nat.mul_le_mul_right (A+B) (show p≤S by omega)
  have o3:=f_Mul (el a s i p) (el b t p k) (by omega)
  have o4:=f_Add q (el a s i p*el b t p k) (by omega)
  have b5:=fs_add q (el a s i p*el b t p k)
  have e1:sumR (p+1) (fun p=>el a s i p*el b t p k)=q+el a s i p*el b t p k:=by rw[hq];rfl
  have e2:fs (q+el a s i p*el b t p k)≤2+(p+1)*(A+B):=by rw[Nat.succ_mul];omega
  clear hq hfs b1 b2 b3 b4 b5
  generalize q+el a s i p*el b t p k=q1 at*
  (repeat((first|refine step_w1 rfl rfl ?_|refine step_i (by kernel_rfl) ?_|refine g_c (by assumption) ?_|refine g_o (op_loadA rfl (ev_ok rfl) (tgt rfl) rfl (Nat.succ_ne_zero _) rfl) ?_|rw[t1]|rw[t2]);conv=>whnf))
  exact⟨s - (p+1),fun k=>k,[0,1,2,3,6,7,11,12],[6,7],by omega,by kernel_rfl,p+1,q1,rfl,hlt,e1.symm,e2,rfl,rfl⟩
 ·have t1:=dge hlt
  have hP:p=s:=by omega
  subst hP
  rw[←hq]
  (repeat(first|(refine step_w2 rfl rfl ?_;conv=>whnf)|(rw[t1];conv=>whnf)));(first|exact Recast.refl _|exact Frz.recast (Recast.refl _) rfl|(refine Frz.one rfl rfl ?_;skip)|(refine Frz.tup ?_;skip))
theorem m_Mul {r s t A B:Nat} (S:Nat) {a b:List Rat} (ha:OKM r s a) (hb:OKM s t b) (sa:Sm A a) (sb:Sm B b) (hS:s≤S) (h:A+B+(2+S*(A+B))≤1073741824):
  CallOK Tryz.prog 67 [mA r s a,mA s t b] [] (.tup [mA r t (mmul r s t a b),iv 0]) [] []:=by
 have k0:=m_all2 ha hb
 have k1:=m_Make2 ha.r hb.c _ 196 (ptrP (mC r s a)) (ptrP (mC s t b)) (m_Mul1 ha hb sa sb hS h)
 refine callV (Z:=[2,3,9]) tabOK mixedOK Tryz.func67 rfl (by kernel_rfl) rfl rfl (by kernel_rfl) rfl ?_
 intro W0 w0 ρ0 hE
 conv=>whnf
 (repeat((first|refine step_w2 rfl rfl ?_|refine g_c (by assumption) ?_|rw[bne_self_eq_false]|refine g_o (op_loadA rfl (ev_ok rfl) (tgt rfl) rfl (Nat.succ_ne_zero _) rfl) ?_|refine g_o (op_fieldA rfl (ev_ok rfl) (tgt rfl) rfl rfl (Nat.succ_ne_zero _) rfl) ?_|refine g_o (op_makeFunc rfl rfl rfl) ?_);conv=>whnf));(first|exact Recast.refl _|exact Frz.recast (Recast.refl _) rfl|(refine Frz.one rfl rfl ?_;skip)|(refine Frz.tup ?_;skip))
theorem row_dot {r c i:Nat} {a v:List Rat} (ha:a.length=r*c) (hv:v.length=c) (hi:i<r):vdot (rowL a c i) v=(mapply r c a v).getD i 0:=by
 rw[vdot_sum (rowL_len hi ha) hv,mapply_get hi]
 exact sum_congr c fun k hk=>by rw[rowL_get hk]
theorem Sm_row {a:List Rat} {r c i A:Nat} (sa:Sm A a) (ha:a.length=r*c) (hi:i<r):Sm A (rowL a c i):=by
 intro k hk
 rw[rowL_len hi ha]at hk
 rw[rowL_get hk];exact el_sm sa ha hi hk
theorem m_Apply {r c A B:Nat} (C:Nat) {a v:List Rat} (ha:OKM r c a) (hv:v.length=c) (sa:Sm A a) (sv:Sm B v) (hC:c≤C) (h:A+B+(2+C*(A+B))≤1073741824):
  CallOK Tryz.prog 76 [mA r c a,fvec v] [] (.tup [fvec (mapply r c a v),iv 0]) [] []:=by
 have hr:=ha.r
 have hc:=ha.c
 have k0:=m_all1 ha
 have k1:=m_short [v] (by simp) (by simp;omega)
 rw[show shortF [v]=0 from by simp[shortF];omega]at k1
 have t0:((v.length:Int) != (c:Int))=false:=by rw[hv];exact bne_self_eq_false _
 have hz:(mapply r c a v).length=r:=mapply_len
 refine callF (Z:=[2,11,17]) tabOK mixedOK Tryz.func76 rfl (by kernel_rfl) (by first|rfl|(simp[keylessL,keyless,keylessL_map, *];done)) (by first|rfl|(simp[keylessL,keyless,keylessL_map, *];done)) (by kernel_rfl) rfl ?_
 intro w0 ρ0 hE
 conv=>whnf
 (repeat((first|refine step_w2 rfl rfl ?_|refine step_oA (by first|omega|decide|(simp only[tl0,dlen,List.length_replicate,List.length_set,List.length_map,List.length_zipWith,List.length_take,List.length_append,List.length_cons,List.length_nil];omega)) ?_|refine g_c (by assumption) ?_|rw[bne_self_eq_false]|refine g_o (op_lenM rfl rfl rfl (ev_ok rfl) (tgt rfl) rfl) ?_|refine g_o (op_loadA rfl (ev_ok rfl) (tgt rfl) rfl (Nat.succ_ne_zero _) rfl) ?_|refine g_o (op_fieldA rfl (ev_ok rfl) (tgt rfl) rfl rfl (Nat.succ_ne_zero _) rfl) ?_|rw[t0]|rw[Int.toNat_natCast]);conv=>whnf))
 refine SW_loopN hE (fun k=>k) [1,2,8,31,32] [29] (fun m fr hp=>∃i:Nat,m=r - i∧i≤r∧fr=[(1,fvec v),(2,ptrA (mC r c a)),(8,.slc 29 5 0 r),(31,iv r),(32,iv (i:Nat))]∧hp=[(29,fblk ((mapply r c a v).take i++List.replicate (r - i) 0))]) r ?_ ?_ ?_
 ·kernel_rfl
 ·exact⟨0,rfl,Nat.zero_le _,rfl,rfl⟩
 rintro m _ _ ⟨i,rfl,hi,rfl,rfl⟩
 have hlen:=fill_len (d:=(0:Rat)) hi hz
 conv=>whnf
 by_cases hlt:i<r
 ·have t1:=dlt hlt
  have t2:=winc (i:=i) (by omega)
  have o1:=m_rowV ha hlt
  have l1:=rowL_len hlt ha.n
  have s1:=Sm_row sa ha.n hlt
  have hs:fsL (vmul (rowL a c i) v)≤_:=fsL_Sm (Sm_zip fs_mul s1 sv (l1.trans hv.symm))
  rw[zip_len l1 hv]at hs
  have hC2:=Nat.mul_le_mul_right (A+B) hC
  have o2:=v_Dot (rowL a c i) v (l1.trans hv.symm) (by omega) (Fit_Sm s1 sv (l1.trans hv.symm) (by omega)) (by omega)
  rw[row_dot ha.n hv hlt]at o2
  clear hs hC2 s1
  (repeat((first|refine step_w1 rfl rfl ?_|refine step_oL (by first|omega|decide|(simp only[tl0,dlen,List.length_replicate,List.length_set,List.length_map,List.length_zipWith,List.length_take,List.length_append,List.length_cons,List.length_nil];omega)) ?_|refine step_oA (by first|omega|decide|(simp only[tl0,dlen,List.length_replicate,List.length_set,List.length_map,List.length_zipWith,List.length_take,List.length_append,List.length_cons,List.length_nil];omega)) ?_|refine g_c (by assumption) ?_|refine g_o (op_loadA rfl (ev_ok rfl) (tgt rfl) rfl (Nat.succ_ne_zero _) rfl) ?_|rw[t1]|rw[t2]|rw[Int.toNat_natCast]|rw[Nat.zero_add]);conv=>whnf))
  refine⟨r - (i+1),fun k=>k,[1,2,8,31,32],[29],by omega,by kernel_rfl,i+1,rfl,hlt,rfl, ?_⟩
  rw[fblk,←fill_set (e:=0) hlt hz]
  rfl
 ·have t1:=dge hlt
  have hI:i=r:=by omega
  subst hI
  rw[fill_all hz]
  (repeat(first|(refine step_w2 rfl rfl ?_;conv=>whnf)|(rw[t1];conv=>whnf)))
  (first|exact Recast.refl _|exact Frz.recast (Recast.refl _) rfl|(refine Frz.one rfl rfl ?_;skip)|(refine Frz.tup ?_;(repeat(first|exact FrzC.keyless rfl|exact FrzL.nil|refine FrzL.cons ?_ ?_|(refine FrzC.fracs rfl ?_;(first|rfl|omega|(simp<;>fail)|(simp<;>omega)))))))
theorem fs_dot {a b:List Rat} {A B n N:Nat} (ha:Sm A a) (hb:Sm B b) (h1:a.length=n) (h2:b.length=n) (hn:n≤N):fs (vdot a b)≤2+N*(A+B):=by
 have:=fs_vdot ha hb h1 h2
 have:=Nat.mul_le_mul_right (A+B) hn
 omega
theorem Sm_apply {r c A B C:Nat} {a v:List Rat} (ha:a.length=r*c) (hv:v.length=c) (sa:Sm A a) (sv:Sm B v) (hC:c≤C):Sm (2+C*(A+B)) (mapply r c a v):=by
 intro i hi
 rw[mapply_len]at hi
 rw[←row_dot ha hv hi]
 exact fs_dot (Sm_row sa ha hi) sv (rowL_len hi ha) hv hC
theorem Sm_mul {r s t A B S:Nat} {a b:List Rat} (ha:a.length=r*s) (hb:b.length=s*t) (sa:Sm A a) (sb:Sm B b) (hS:s≤S):Sm (2+S*(A+B)) (mmul r s t a b):=
 Sm_mk fun i k hi hk=>by
  have h1:=sum_fs (f:=fun p=>el a s i p*el b t p k) (B:=A+B) s (fun p hp=>by have:=fs_mul (el a s i p) (el b t p k);have:=el_sm sa ha hi hp;have:=el_sm sb hb hp hk;omega)
  have:=Nat.mul_le_mul_right (A+B) hS
  omega
theorem m_Form {r c A B D:Nat} (C:Nat) {a v w:List Rat} (ha:OKM r c a) (hv:v.length=r) (hw:w.length=c) (sa:Sm A a) (sv:Sm D v) (sw:Sm B w) (hC:c≤C) (hR:r≤C) (h:A+B+(2+C*(A+B))≤1073741824)
  (h2:D+(2+C*(A+B))+C*(D+(2+C*(A+B)))+2≤1073741824):
  CallOK Tryz.prog 77 [mA r c a,fvec v,fvec w] [] (.tup [.frac (mform r c a v w),iv 0]) [] []:=by
 have hr:=ha.r
 have hc:=ha.c
 have k0:=m_Check0 ha
 have k1:=m_short [v,w] (by simp) (by simp;omega)
 rw[show shortF [v,w]=0 from by simp[shortF];omega]at k1
 have k2:=m_Apply C ha hw sa sw hC h
 have s2:=Sm_apply ha.n hw sa sw hC
 have hml:(mapply r c a w).length=r:=mapply_len
 have hs:fsL (vmul v (mapply r c a w))≤_:=fsL_Sm (Sm_zip fs_mul sv s2 (hv.trans hml.symm))
 rw[zip_len hv hml]at hs
 have hC2:=Nat.mul_le_mul_right (D+(2+C*(A+B))) hR
 have k3:=v_Dot v (mapply r c a w) (hv.trans hml.symm) (by omega) (Fit_Sm sv s2 (hv.trans hml.symm) (by omega)) (by omega)
 have t0:((v.length:Int) != (r:Int))=false:=by rw[hv];exact bne_self_eq_false _
 have t1:((w.length:Int) != (c:Int))=false:=by rw[hw];exact bne_self_eq_false _
 clear hs hC2 s2 h2 h
 refine callV (Z:=[3,20]) tabOK mixedOK Tryz.func77 rfl (by kernel_rfl) rfl rfl (by kernel_rfl) rfl ?_
 intro W0 w0 ρ0 hE
 conv=>whnf
 (repeat((first|refine step_w1 rfl rfl ?_|refine step_w2 rfl rfl ?_|refine g_c (by assumption) ?_|refine g_o (op_pickF rfl (ev_ok rfl) (ev_ok rfl)) ?_|rw[bne_self_eq_false]|refine g_o (op_lenM rfl rfl rfl (ev_ok rfl) (tgt rfl) rfl) ?_|refine g_o (op_loadA rfl (ev_ok rfl) (tgt rfl) rfl (Nat.succ_ne_zero _) rfl) ?_|refine g_o (op_fieldA rfl (ev_ok rfl) (tgt rfl) rfl rfl (Nat.succ_ne_zero _) rfl) ?_|rw[t0]|rw[t1]);conv=>whnf));(first|exact Recast.refl _|exact Frz.recast (Recast.refl _) rfl|(refine Frz.one rfl rfl ?_;skip)|(refine Frz.tup ?_;skip))
theorem m_Equal (a b:List Rat) (ha:a.length<1099511627776) (hb:b.length<1099511627776):CallOK Tryz.prog 108 [fvec a,fvec b] [] (.val (.bool (decide (a=b)))) [] []:=by
 refine callV (Z:=[]) tabOK mixedOK Tryz.func108 rfl (by kernel_rfl) rfl rfl (by kernel_rfl) rfl ?_
 intro W0 w0 ρ0 hE
 conv=>whnf
 by_cases hab:a.length=b.length
 ·have t0:((a.length:Int) != (b.length:Int))=false:=by rw[hab];exact bne_self_eq_false _
  (repeat(first|(refine step_w2 rfl rfl ?_;conv=>whnf)|(refine g_o (op_lenM rfl rfl rfl (ev_ok rfl) (tgt rfl) rfl) ?_;conv=>whnf)|(rw[t0];conv=>whnf)))
  refine SW_loopN hE (fun k=>k) [0,1,4,11,12,13] [] (fun m fr hp=>∃i,m=a.length - i∧i≤a.length∧a.take i=b.take i∧fr=[(0,fvec a),(1,fvec b),(4,.val (.bool false)),(11,fvec a),(12,.val (.int .i64 (a.length:Nat))),(13,.val (.int .i64 (i:Nat)))]∧hp=[]) a.length ?_ ?_ ?_
  ·kernel_rfl
  ·exact⟨0,rfl,Nat.zero_le _,rfl,rfl,rfl⟩
  rintro m _ _ ⟨i,rfl,hi,ht,rfl,rfl⟩
  conv=>whnf
  by_cases hlt:i<a.length
  ·have t1:=dlt hlt
   have t2:=winc (i:=i) (by omega)
   by_cases hv:a.getD i 0=b.getD i 0
   ·have t3:(!decide (a.getD i 0=b.getD i 0))=false:=by rw[decide_eq_true hv];rfl
    (repeat((first|refine step_w1 rfl rfl ?_|refine step_w2 rfl rfl ?_|refine step_i (by kernel_rfl) ?_|refine g_o (op_indexN (α:=Rat) (d:=0) rfl (ev_ok rfl) (ev_ok rfl) (tgt rfl) rfl (tgt rfl) rfl (by omega)) ?_|refine g_o (op_loadA rfl (ev_ok rfl) (tgt rfl) rfl (Nat.succ_ne_zero _) rfl) ?_|refine⟨_,op_neAgg tabOK goodOK rfl (ev_ok rfl) (ev_ok rfl) rfl rfl rfl rfl (q_same _ _) q_guard, ?_⟩|rw[t1]|rw[t3]|rw[t2]);conv=>whnf))
    exact⟨a.length - (i+1),fun k=>k,[0,1,4,11,12,13],[],by omega,by kernel_rfl,i+1,rfl,hlt,by rw[take_snoc a i hlt,take_snoc b i (by omega),ht,hv],rfl,rfl⟩
   ·have t3:(!decide (a.getD i 0=b.getD i 0))=true:=by rw[decide_eq_false hv];rfl
    have e:decide (a=b)=false:=decide_eq_false (fun h=>hv (by rw[h]))
    rw[e]
    (repeat((first|refine step_w1 rfl rfl ?_|refine step_i (by kernel_rfl) ?_|refine g_o (op_indexN (α:=Rat) (d:=0) rfl (ev_ok rfl) (ev_ok rfl) (tgt rfl) rfl (tgt rfl) rfl (by omega)) ?_|refine g_o (op_loadA rfl (ev_ok rfl) (tgt rfl) rfl (Nat.succ_ne_zero _) rfl) ?_|refine⟨_,op_neAgg tabOK goodOK rfl (ev_ok rfl) (ev_ok rfl) rfl rfl rfl rfl (q_same _ _) q_guard, ?_⟩|rw[t1]|rw[t3]);conv=>whnf));(first|exact Recast.refl _|exact Frz.recast (Recast.refl _) rfl|(refine Frz.one rfl rfl ?_;skip)|(refine Frz.tup ?_;skip))
  ·have t1:=dge hlt
   have hI:i=a.length:=by omega
   have e:decide (a=b)=true:=decide_eq_true (by rw[hI,List.take_length]at ht;rw[ht,hab,List.take_length])
   rw[e]
   (repeat(first|(refine step_w2 rfl rfl ?_;conv=>whnf)|(rw[t1];conv=>whnf)));(first|exact Recast.refl _|exact Frz.recast (Recast.refl _) rfl|(refine Frz.one rfl rfl ?_;skip)|(refine Frz.tup ?_;skip))
 ·have t0:((a.length:Int) != (b.length:Int))=true:=bne_iff_ne.2 (by omega)
  have e:decide (a=b)=false:=decide_eq_false (fun h=>hab (by rw[h]))
  rw[e]
  (repeat(first|(refine step_w1 rfl rfl ?_;conv=>whnf)|(refine g_o (op_lenM rfl rfl rfl (ev_ok rfl) (tgt rfl) rfl) ?_;conv=>whnf)|(rw[t0];conv=>whnf)));(first|exact Recast.refl _|exact Frz.recast (Recast.refl _) rfl|(refine Frz.one rfl rfl ?_;skip)|(refine Frz.tup ?_;skip))
def sameF (r c s t:Int) (a b:List Rat):Bool:=r==s&&c==t&&decide (a=b)
theorem m_Same (r c s t:Int) (a b:List Rat) (ha:a.length<1099511627776) (hb:b.length<1099511627776):CallOK Tryz.prog 20 [mA r c a,mA s t b] [] (.val (.bool (sameF r c s t a b))) [] []:=by
 have k1:=m_Equal a b ha hb
 unfold sameF
 refine callV (Z:=[]) tabOK mixedOK Tryz.func20 rfl (by kernel_rfl) rfl rfl (by kernel_rfl) rfl ?_
 intro W0 w0 ρ0 hE
 conv=>whnf
 cases h1:(r==s)
 ·(repeat(first|(refine step_w2 rfl rfl ?_;conv=>whnf)|(refine g_o (op_pickF rfl (ev_ok rfl) (ev_ok rfl)) ?_;conv=>whnf)));(first|exact Recast.refl _|exact Frz.recast (Recast.refl _) rfl|(refine Frz.one rfl rfl ?_;skip)|(refine Frz.tup ?_;skip))
 ·cases h2:(c==t)
  ·(repeat((first|refine step_w1 rfl rfl ?_|refine step_w2 rfl rfl ?_|refine g_o (op_pickT rfl (ev_ok rfl) (ev_ok rfl)) ?_|refine g_o (op_pickF rfl (ev_ok rfl) (ev_ok rfl)) ?_|rw[h2]);conv=>whnf));(first|exact Recast.refl _|exact Frz.recast (Recast.refl _) rfl|(refine Frz.one rfl rfl ?_;skip)|(refine Frz.tup ?_;skip))
  ·(repeat((first|refine step_w1 rfl rfl ?_|refine g_c (by assumption) ?_|refine g_o (op_pickT rfl (ev_ok rfl) (ev_ok rfl)) ?_|rw[h2]);conv=>whnf));(first|exact Recast.refl _|exact Frz.recast (Recast.refl _) rfl|(refine Frz.one rfl rfl ?_;skip)|(refine Frz.tup ?_;skip))
theorem m_Same1 {r c:Nat} {a b:List Rat} (ha:OKM r c a) (hb:OKM r c b):CallOK Tryz.prog 20 [mA r c a,mA r c b] [] (.val (.bool (decide (a=b)))) [] []:=by
 have:=m_Same r c r c a b (by have:=ha.small;omega) (by have:=hb.small;omega)
 rwa [show sameF r c r c a b=decide (a=b)from by simp[sameF]]at this
theorem m_SameT {r c:Nat} {a b:List Rat} (ha:OKM r c a) (h:a=b):CallOK Tryz.prog 20 [mA r c a,mA r c b] [] (.val (.bool true)) [] []:=by
 subst h
 have:=m_Same1 ha ha
 rwa [decide_eq_true rfl]at this
theorem m_Symmetric {r c:Nat} {a:List Rat} (ha:OKM r c a):CallOK Tryz.prog 88 [mA r c a] [] (.val (.bool (sameF r c c r a (mturn r c a)))) [] []:=by
 have k1:=m_Turn ha
 have k2:=m_Same r c c r a (mturn r c a) (by have:=ha.small;omega) (by rw[mk_len];have:=Nat.mul_le_mul ha.c ha.r;omega)
 refine callV (Z:=[]) tabOK mixedOK Tryz.func88 rfl (by kernel_rfl) rfl rfl (by kernel_rfl) rfl ?_
 intro W0 w0 ρ0 hE
 conv=>whnf
 (repeat(first|(refine step_w1 rfl rfl ?_;conv=>whnf)|(refine g_c (by assumption) ?_;conv=>whnf)|(refine g_o (op_pickT rfl (ev_ok rfl) (ev_ok rfl)) ?_;conv=>whnf)));(first|exact Recast.refl _|exact Frz.recast (Recast.refl _) rfl|(refine Frz.one rfl rfl ?_;skip)|(refine Frz.tup ?_;skip))
theorem m_Sum {r c:Nat} {a:List Rat} (ha:OKM r c a) (h:fsL a+2≤1073741824):CallOK Tryz.prog 83 [mA r c a] [] (.frac (a.foldl (·+·) 0)) [] []:=by
 have k1:=m_Check0 ha
 have k2:=f_Sum a (by have:=ha.small;omega) h
 refine callV (Z:=[]) tabOK mixedOK Tryz.func83 rfl (by kernel_rfl) rfl rfl (by kernel_rfl) rfl ?_
 intro W0 w0 ρ0 hE
 conv=>whnf
 (repeat(first|(refine step_w2 rfl rfl ?_;conv=>whnf)|(refine g_c (by assumption) ?_;conv=>whnf)));(first|exact Recast.refl _|exact Frz.recast (Recast.refl _) rfl|(refine Frz.one rfl rfl ?_;skip)|(refine Frz.tup ?_;skip))
end Go.Proofs.YtfpagioknjjacaaGreatDoor
namespace Go.Proofs.YtfpagioknjjacaaGreatDoor
open Go.Sx
set_option linter.unusedSimpArgs false
set_option linter.unusedVariables false
set_option maxRecDepth 100000
set_option maxHeartbeats 4000000
theorem m_At (r c:Nat) (a:List Rat) (ha:OKM r c a) {i k:Nat} (hi:i<r) (hk:k<c):CallOK Tryz.prog 78 [mA r c a,iv i,iv k] [] (.tup [.frac (el a c i k),.val (.bool true)]) [] []:=by
 have k0:=m_Check0 ha
 have k1:=m_has i r
 have k2:=m_has k c
 rw[decide_eq_true (show(0:Int)≤(i:Int)∧(i:Int)<(r:Int) by omega)]at k1
 rw[decide_eq_true (show(0:Int)≤(k:Int)∧(k:Int)<(c:Int) by omega)]at k2
 have k3:=m_at ha hi hk
 refine callV (Z:=[]) tabOK mixedOK Tryz.func78 rfl (by kernel_rfl) rfl rfl (by kernel_rfl) rfl ?_
 intro W0 w0 ρ0 hE
 conv=>whnf
 (repeat((first|refine step_w1 rfl rfl ?_|refine step_w2 rfl rfl ?_|refine g_c (by assumption) ?_|refine g_o (op_pickF rfl (ev_ok rfl) (ev_ok rfl)) ?_);conv=>whnf));(first|exact Recast.refl _|exact Frz.recast (Recast.refl _) rfl|(refine Frz.one rfl rfl ?_;skip)|(refine Frz.tup ?_;skip))
theorem m_AtNo (r c:Nat) (a:List Rat) (ha:OKM r c a) {i k:Int} (h:¬(0≤i∧i<r∧0≤k∧k<c)):CallOK Tryz.prog 78 [mA r c a,iv i,iv k] [] (.tup [.frac 0,.val (.bool false)]) [] []:=by
 have k0:=m_Check0 ha
 have k1:=m_has i r
 have k2:=m_has k c
 refine callV (Z:=[]) tabOK mixedOK Tryz.func78 rfl (by kernel_rfl) rfl rfl (by kernel_rfl) rfl ?_
 intro W0 w0 ρ0 hE
 conv=>whnf
 by_cases h1:0≤i∧i<(r:Int)
 ·rw[decide_eq_true h1]at k1
  rw[decide_eq_false (show ¬(0≤k∧k<(c:Int)) by omega)]at k2
  (repeat(first|(refine step_w1 rfl rfl ?_;conv=>whnf)|(refine g_c (by assumption) ?_;conv=>whnf)|(refine g_o (op_pickF rfl (ev_ok rfl) (ev_ok rfl)) ?_;conv=>whnf)));(first|exact Recast.refl _|exact Frz.recast (Recast.refl _) rfl|(refine Frz.one rfl rfl ?_;skip)|(refine Frz.tup ?_;skip))
 ·rw[decide_eq_false h1]at k1
  (repeat((first|refine step_w1 rfl rfl ?_|refine step_w2 rfl rfl ?_|refine g_c (by assumption) ?_|refine g_o (op_pickT rfl (ev_ok rfl) (ev_ok rfl)) ?_|refine g_o (op_pickF rfl (ev_ok rfl) (ev_ok rfl)) ?_);conv=>whnf));(first|exact Recast.refl _|exact Frz.recast (Recast.refl _) rfl|(refine Frz.one rfl rfl ?_;skip)|(refine Frz.tup ?_;skip))
theorem m_line (F:Nat→Rat) (g:FuncId) (p q:Pred) {r c:Nat} {a:List Rat} (ha:OKM r c a) {i n many:Nat} (hi:i<n) (hm:many≤2048) (hf:∀k,k<many→CallOK Tryz.prog g ([]++([iv (k:Nat)]++[.atom p,.atom q])) [] (.frac (F k)) [] []):
  CallOK Tryz.prog 106 [mA r c a,iv i,iv n,iv many,.clo g [] [.atom p,.atom q]] [] (.tup [fvec ((List.range many).map F),iv 0]) [] []:=by
 have k0:=m_Check0 ha
 have k1:=m_has i n
 rw[decide_eq_true (show(0:Int)≤(i:Int)∧(i:Int)<(n:Int) by omega)]at k1
 have hz:((List.range many).map F).length=many:=by simp
 refine callF (Z:=[5]) tabOK mixedOK Tryz.func106 rfl (by kernel_rfl) (by first|rfl|(simp[keylessL,keyless,keylessL_map, *];done)) (by first|rfl|(simp[keylessL,keyless,keylessL_map, *];done)) (by kernel_rfl) rfl ?_
 intro w0 ρ0 hE
 conv=>whnf
 (repeat((first|refine step_w2 rfl rfl ?_|refine step_oA (by first|omega|decide|(simp only[tl0,dlen,List.length_replicate,List.length_set,List.length_map,List.length_zipWith,List.length_take,List.length_append,List.length_cons,List.length_nil];omega)) ?_|refine g_c (by assumption) ?_|rw[bne_self_eq_false]|refine g_o (op_loadA rfl (ev_ok rfl) (tgt rfl) rfl (Nat.succ_ne_zero _) rfl) ?_|rw[Int.toNat_natCast]);conv=>whnf))
 refine SW_loopN hE (fun k=>k) [4,13,26,27] [25] (fun m fr hp=>∃j:Nat,m=many - j∧j≤many∧fr=[(4,.clo g [] [.atom p,.atom q]),(13,.slc 25 5 0 many),(26,iv many),(27,iv (j:Nat))]∧hp=[(25,fblk (((List.range many).map F).take j++List.replicate (many - j) 0))]) many ?_ ?_ ?_
 ·kernel_rfl
 ·exact⟨0,rfl,Nat.zero_le _,rfl,rfl⟩
 rintro m _ _ ⟨j,rfl,hj,rfl,rfl⟩
 have hlen:=fill_len (d:=(0:Rat)) hj hz
 conv=>whnf
 by_cases hlt:j<many
 ·have t1:=dlt hlt
  have t2:=winc (i:=j) (by omega)
  have o1:=hf j hlt
  rw[show F j=((List.range many).map F).getD j 0 from by simp[List.getD_eq_getElem?_getD,hlt]]at o1
  (repeat((first|refine step_w1 rfl rfl ?_|refine step_oL (by first|omega|decide|(simp only[tl0,dlen,List.length_replicate,List.length_set,List.length_map,List.length_zipWith,List.length_take,List.length_append,List.length_cons,List.length_nil];omega)) ?_|refine step_oA (by first|omega|decide|(simp only[tl0,dlen,List.length_replicate,List.length_set,List.length_map,List.length_zipWith,List.length_take,List.length_append,List.length_cons,List.length_nil];omega)) ?_|refine g_c (by assumption) ?_|rw[t1]|rw[t2]|rw[Int.toNat_natCast]|rw[Nat.zero_add]);conv=>whnf))
  refine⟨many - (j+1),fun k=>k,[4,13,26,27],[25],by omega,by kernel_rfl,j+1,rfl,hlt,rfl, ?_⟩
  rw[fblk,←fill_set (e:=0) hlt hz]
  rfl
 ·have t1:=dge hlt
  have hI:j=many:=by omega
  subst hI
  rw[fill_all hz]
  (repeat(first|(refine step_w2 rfl rfl ?_;conv=>whnf)|(rw[t1];conv=>whnf)))
  (first|exact Recast.refl _|exact Frz.recast (Recast.refl _) rfl|(refine Frz.one rfl rfl ?_;skip)|(refine Frz.tup ?_;(repeat(first|exact FrzC.keyless rfl|exact FrzL.nil|refine FrzL.cons ?_ ?_|(refine FrzC.fracs rfl ?_;(first|rfl|omega|(simp<;>fail)|(simp<;>omega)))))))
theorem m_lineE (r c:Int) (a:List Rat) (hn:a.length<1099511627776) (i n many:Int) (g:FuncId) (p q:Pred) (h:checkF r c a.length≠0):
  CallOK Tryz.prog 106 [mA r c a,iv i,iv n,iv many,.clo g [] [.atom p,.atom q]] [] (.tup [fvec [],iv (checkF r c a.length)]) [] []:=by
 have k0:=m_Check r c a hn
 have t1:(checkF r c a.length != 0)=true:=bne_iff_ne.2 h
 refine callF (Z:=[5]) tabOK mixedOK Tryz.func106 rfl (by kernel_rfl) (by first|rfl|(simp[keylessL,keyless,keylessL_map, *];done)) (by first|rfl|(simp[keylessL,keyless,keylessL_map, *];done)) (by kernel_rfl) rfl ?_
 intro w0 ρ0 hE
 conv=>whnf
 (repeat((first|refine step_w1 rfl rfl ?_|refine g_c (by assumption) ?_|refine g_o (op_loadA rfl (ev_ok rfl) (tgt rfl) rfl (Nat.succ_ne_zero _) rfl) ?_|rw[t1]);conv=>whnf));(first|exact Recast.refl _|exact Frz.recast (Recast.refl _) rfl|(refine Frz.one rfl rfl ?_;skip)|(refine Frz.tup ?_;(repeat(first|exact FrzC.keyless rfl|exact FrzL.nil|refine FrzL.cons ?_ ?_|exact FrzC.nilS))))
theorem m_lineI {r c:Nat} {a:List Rat} (ha:OKM r c a) (i n many:Int) (g:FuncId) (p q:Pred) (h:¬(0≤i∧i<n)):
  CallOK Tryz.prog 106 [mA r c a,iv i,iv n,iv many,.clo g [] [.atom p,.atom q]] [] (.tup [fvec [],iv 1]) [] []:=by
 have k0:=m_Check0 ha
 have k1:=m_has i n
 rw[decide_eq_false h]at k1
 refine callF (Z:=[5]) tabOK mixedOK Tryz.func106 rfl (by kernel_rfl) (by first|rfl|(simp[keylessL,keyless,keylessL_map, *];done)) (by first|rfl|(simp[keylessL,keyless,keylessL_map, *];done)) (by kernel_rfl) rfl ?_
 intro w0 ρ0 hE
 conv=>whnf
 (repeat((first|refine step_w1 rfl rfl ?_|refine step_w2 rfl rfl ?_|refine g_c (by assumption) ?_|refine g_o (op_loadA rfl (ev_ok rfl) (tgt rfl) rfl (Nat.succ_ne_zero _) rfl) ?_);conv=>whnf));(first|exact Recast.refl _|exact Frz.recast (Recast.refl _) rfl|(refine Frz.one rfl rfl ?_;skip)|(refine Frz.tup ?_;(repeat(first|exact FrzC.keyless rfl|exact FrzL.nil|refine FrzL.cons ?_ ?_|exact FrzC.nilS))))
abbrev rowF (r c:Nat) (a:List Rat) (i:Nat):List Rat:=(List.range c).map fun p=>el a c i p
abbrev colF (r c:Nat) (a:List Rat) (k:Nat):List Rat:=(List.range r).map fun p=>el a c p k
theorem m_Row {r c:Nat} {a:List Rat} (ha:OKM r c a) {i:Nat} (hi:i<r):CallOK Tryz.prog 19 [mA r c a,iv i] [] (.tup [fvec (rowF r c a i),iv 0]) [] []:=by
 have k0:=m_line (fun p=>el a c i p) 107 (ptrP (mC r c a)) (ptrP [iv i]) ha hi ha.c (fun p hp=>by
  have k1:=m_at ha hi hp
  refine callV (Z:=[]) tabOK mixedOK Tryz.func107 rfl (by kernel_rfl) rfl rfl (by kernel_rfl) rfl ?_
  intro W0 w0 ρ0 hE
  conv=>whnf
  (repeat(first|(refine g_c (by assumption) ?_;conv=>whnf)|(refine g_o (op_loadA rfl (ev_ok rfl) (tgt rfl) rfl (Nat.succ_ne_zero _) rfl) ?_;conv=>whnf)));(first|exact Recast.refl _|exact Frz.recast (Recast.refl _) rfl|(refine Frz.one rfl rfl ?_;skip)|(refine Frz.tup ?_;skip)))
 refine callV (Z:=[2,3]) tabOK mixedOK Tryz.func19 rfl (by kernel_rfl) rfl rfl (by kernel_rfl) rfl ?_
 intro W0 w0 ρ0 hE
 conv=>whnf
 (repeat((first|refine g_c (by assumption) ?_|refine g_o (op_loadA rfl (ev_ok rfl) (tgt rfl) rfl (Nat.succ_ne_zero _) rfl) ?_|refine g_o (op_fieldA rfl (ev_ok rfl) (tgt rfl) rfl rfl (Nat.succ_ne_zero _) rfl) ?_|refine g_o (op_makeFunc rfl rfl rfl) ?_);conv=>whnf));(first|exact Recast.refl _|exact Frz.recast (Recast.refl _) rfl|(refine Frz.one rfl rfl ?_;skip)|(refine Frz.tup ?_;skip))
theorem m_RowE (r c:Int) (a:List Rat) (hn:a.length<1099511627776) (i:Int) (h:checkF r c a.length≠0):CallOK Tryz.prog 19 [mA r c a,iv i] [] (.tup [fvec [],iv (checkF r c a.length)]) [] []:=by
 have k0:=m_lineE r c a hn i r c 107 (ptrP (mC r c a)) (ptrP [iv i]) h
 refine callV (Z:=[2,3]) tabOK mixedOK Tryz.func19 rfl (by kernel_rfl) rfl rfl (by kernel_rfl) rfl ?_
 intro W0 w0 ρ0 hE
 conv=>whnf
 (repeat((first|refine g_c (by assumption) ?_|refine g_o (op_loadA rfl (ev_ok rfl) (tgt rfl) rfl (Nat.succ_ne_zero _) rfl) ?_|refine g_o (op_fieldA rfl (ev_ok rfl) (tgt rfl) rfl rfl (Nat.succ_ne_zero _) rfl) ?_|refine g_o (op_makeFunc rfl rfl rfl) ?_);conv=>whnf));(first|exact Recast.refl _|exact Frz.recast (Recast.refl _) rfl|(refine Frz.one rfl rfl ?_;skip)|(refine Frz.tup ?_;skip))
theorem m_RowI {r c:Nat} {a:List Rat} (ha:OKM r c a) {i:Int} (hi:¬(0≤i∧i<r)):CallOK Tryz.prog 19 [mA r c a,iv i] [] (.tup [fvec [],iv 1]) [] []:=by
 have k0:=m_lineI ha i r c 107 (ptrP (mC r c a)) (ptrP [iv i]) hi
 refine callV (Z:=[2,3]) tabOK mixedOK Tryz.func19 rfl (by kernel_rfl) rfl rfl (by kernel_rfl) rfl ?_
 intro W0 w0 ρ0 hE
 conv=>whnf
 (repeat((first|refine g_c (by assumption) ?_|refine g_o (op_loadA rfl (ev_ok rfl) (tgt rfl) rfl (Nat.succ_ne_zero _) rfl) ?_|refine g_o (op_fieldA rfl (ev_ok rfl) (tgt rfl) rfl rfl (Nat.succ_ne_zero _) rfl) ?_|refine g_o (op_makeFunc rfl rfl rfl) ?_);conv=>whnf));(first|exact Recast.refl _|exact Frz.recast (Recast.refl _) rfl|(refine Frz.one rfl rfl ?_;skip)|(refine Frz.tup ?_;skip))
theorem m_Col {r c:Nat} {a:List Rat} (ha:OKM r c a) {i:Nat} (hi:i<c):CallOK Tryz.prog 79 [mA r c a,iv i] [] (.tup [fvec (colF r c a i),iv 0]) [] []:=by
 have k0:=m_line (fun p=>el a c p i) 205 (ptrP (mC r c a)) (ptrP [iv i]) ha hi ha.r (fun p hp=>by
  have k1:=m_at ha hp hi
  refine callV (Z:=[]) tabOK mixedOK Tryz.func205 rfl (by kernel_rfl) rfl rfl (by kernel_rfl) rfl ?_
  intro W0 w0 ρ0 hE
  conv=>whnf
  (repeat(first|(refine g_c (by assumption) ?_;conv=>whnf)|(refine g_o (op_loadA rfl (ev_ok rfl) (tgt rfl) rfl (Nat.succ_ne_zero _) rfl) ?_;conv=>whnf)));(first|exact Recast.refl _|exact Frz.recast (Recast.refl _) rfl|(refine Frz.one rfl rfl ?_;skip)|(refine Frz.tup ?_;skip)))
 refine callV (Z:=[2,3]) tabOK mixedOK Tryz.func79 rfl (by kernel_rfl) rfl rfl (by kernel_rfl) rfl ?_
 intro W0 w0 ρ0 hE
 conv=>whnf
 (repeat((first|refine g_c (by assumption) ?_|refine g_o (op_loadA rfl (ev_ok rfl) (tgt rfl) rfl (Nat.succ_ne_zero _) rfl) ?_|refine g_o (op_fieldA rfl (ev_ok rfl) (tgt rfl) rfl rfl (Nat.succ_ne_zero _) rfl) ?_|refine g_o (op_makeFunc rfl rfl rfl) ?_);conv=>whnf));(first|exact Recast.refl _|exact Frz.recast (Recast.refl _) rfl|(refine Frz.one rfl rfl ?_;skip)|(refine Frz.tup ?_;skip))
theorem m_ColE (r c:Int) (a:List Rat) (hn:a.length<1099511627776) (i:Int) (h:checkF r c a.length≠0):CallOK Tryz.prog 79 [mA r c a,iv i] [] (.tup [fvec [],iv (checkF r c a.length)]) [] []:=by
 have k0:=m_lineE r c a hn i c r 205 (ptrP (mC r c a)) (ptrP [iv i]) h
 refine callV (Z:=[2,3]) tabOK mixedOK Tryz.func79 rfl (by kernel_rfl) rfl rfl (by kernel_rfl) rfl ?_
 intro W0 w0 ρ0 hE
 conv=>whnf
 (repeat((first|refine g_c (by assumption) ?_|refine g_o (op_loadA rfl (ev_ok rfl) (tgt rfl) rfl (Nat.succ_ne_zero _) rfl) ?_|refine g_o (op_fieldA rfl (ev_ok rfl) (tgt rfl) rfl rfl (Nat.succ_ne_zero _) rfl) ?_|refine g_o (op_makeFunc rfl rfl rfl) ?_);conv=>whnf));(first|exact Recast.refl _|exact Frz.recast (Recast.refl _) rfl|(refine Frz.one rfl rfl ?_;skip)|(refine Frz.tup ?_;skip))
theorem m_ColI {r c:Nat} {a:List Rat} (ha:OKM r c a) {i:Int} (hi:¬(0≤i∧i<c)):CallOK Tryz.prog 79 [mA r c a,iv i] [] (.tup [fvec [],iv 1]) [] []:=by
 have k0:=m_lineI ha i c r 205 (ptrP (mC r c a)) (ptrP [iv i]) hi
 refine callV (Z:=[2,3]) tabOK mixedOK Tryz.func79 rfl (by kernel_rfl) rfl rfl (by kernel_rfl) rfl ?_
 intro W0 w0 ρ0 hE
 conv=>whnf
 (repeat((first|refine g_c (by assumption) ?_|refine g_o (op_loadA rfl (ev_ok rfl) (tgt rfl) rfl (Nat.succ_ne_zero _) rfl) ?_|refine g_o (op_fieldA rfl (ev_ok rfl) (tgt rfl) rfl rfl (Nat.succ_ne_zero _) rfl) ?_|refine g_o (op_makeFunc rfl rfl rfl) ?_);conv=>whnf));(first|exact Recast.refl _|exact Frz.recast (Recast.refl _) rfl|(refine Frz.one rfl rfl ?_;skip)|(refine Frz.tup ?_;skip))
theorem m_Of (r c:Nat) (l:List Int) (hr:r≤2048) (hc:c≤2048) (hl:l.length=r*c) (h:∀x∈l, -9223372036854775808≤x∧x<9223372036854775808):CallOK Tryz.prog 58 [iv r,iv c,ivec .i64 l] [] (.tup [mA r c (ofInts l),iv 0]) [] []:=by
 have hb:=Nat.mul_le_mul hr hc
 have k1:=v_Of l (by omega) (fun i hi=>h _ (getD_mem hi))
 have k0:=m_Check0 (a:=ofInts l) ⟨hr,hc,by simpa [ofInts]using hl⟩
 refine callV (Z:=[]) tabOK mixedOK Tryz.func58 rfl (by kernel_rfl) rfl rfl (by kernel_rfl) rfl ?_
 intro W0 w0 ρ0 hE
 conv=>whnf
 (repeat(first|(refine step_w2 rfl rfl ?_;conv=>whnf)|(refine g_c (by assumption) ?_;conv=>whnf)));(first|exact Recast.refl _|exact Frz.recast (Recast.refl _) rfl|(refine Frz.one rfl rfl ?_;skip)|(refine Frz.tup ?_;skip))
theorem m_OfE (r c:Int) (l:List Int) (hl:l.length<1099511627776) (h:∀x∈l, -9223372036854775808≤x∧x<9223372036854775808) (hE:checkF r c l.length≠0):CallOK Tryz.prog 58 [iv r,iv c,ivec .i64 l] [] (.tup [mA 0 0 [],iv (checkF r c l.length)]) [] []:=by
 have k1:=v_Of l hl (fun i hi=>h _ (getD_mem hi))
 have hz:(ofInts l).length=l.length:=by simp[ofInts]
 have k0:=m_Check r c (ofInts l) (by omega)
 rw[hz]at k0
 have t1:(checkF r c l.length != 0)=true:=bne_iff_ne.2 hE
 refine callF (Z:=[]) tabOK mixedOK Tryz.func58 rfl (by kernel_rfl) (by first|rfl|(simp[keylessL,keyless,keylessL_map, *];done)) (by first|rfl|(simp[keylessL,keyless,keylessL_map, *];done)) (by kernel_rfl) rfl ?_
 intro w0 ρ0 hE
 conv=>whnf
 (repeat(first|(refine step_w1 rfl rfl ?_;conv=>whnf)|(refine g_c (by assumption) ?_;conv=>whnf)|(rw[t1];conv=>whnf)));(first|exact Recast.refl _|exact Frz.recast (Recast.refl _) rfl|(refine Frz.one rfl rfl ?_;skip)|(refine Frz.tup ?_;(repeat(first|exact FrzC.keyless rfl|exact FrzL.nil|refine FrzL.cons ?_ ?_|exact FrzC.nilS|refine FrzC.agg ?_))))
end Go.Proofs.YtfpagioknjjacaaGreatDoor
namespace Go.Proofs.YtfpagioknjjacaaGreatDoor
open Go.Sx
set_option linter.unusedSimpArgs false
set_option linter.unusedVariables false
set_option maxRecDepth 100000
set_option maxHeartbeats 4000000
theorem c_IndexFunc (l:List Int) (g:FuncId) (p:Pred) (P:Int→Bool) (hl:l.length<1099511627776) (hf:∀x∈l,CallOK Tryz.prog g ([]++([iv x]++[.atom p])) [] (.val (.bool (P x))) [] []):
  CallOK Tryz.prog 303 [ivec .i64 l,.clo g [] [.atom p]] [] (iv (if l.any P then(l.findIdx P:Nat)else -1)) [] []:=by
 refine callV (Z:=[]) tabOK mixedOK Tryz.func303 rfl (by kernel_rfl) rfl rfl (by kernel_rfl) rfl ?_
 intro W0 w0 ρ0 hE
 conv=>whnf
 (repeat(first|(refine g_o (op_lenM rfl rfl rfl (ev_ok rfl) (tgt rfl) rfl) ?_;conv=>whnf)))
 refine SW_loopN hE (fun k=>k) [0,1,7,8] [] (fun m fr hp=>∃i:Nat,m=l.length - i∧i≤l.length∧(∀j,j<i→P (l.getD j 0)=false)∧fr=[(0,ivec .i64 l),(1,.clo g [] [.atom p]),(7,iv (l.length:Nat)),(8,iv (i:Nat))]∧hp=[]) l.length ?_ ?_ ?_
 ·kernel_rfl
 ·exact⟨0,rfl,Nat.zero_le _,(fun j hj=>by omega),rfl,rfl⟩
 rintro m _ _ ⟨i,rfl,hi,hs,rfl,rfl⟩
 conv=>whnf
 by_cases hlt:i<l.length
 ·have t1:=dlt hlt
  have t2:=winc (i:=i) (by omega)
  have o1:=hf _ (getD_mem (d:=0) hlt)
  cases hP:P (l.getD i 0)
  ·rw[hP]at o1
   (repeat((first|refine step_w1 rfl rfl ?_|refine step_w2 rfl rfl ?_|refine g_c (by assumption) ?_|refine g_o (op_loadA rfl (ev_ok rfl) (tgt rfl) rfl (Nat.succ_ne_zero _) rfl) ?_|refine g_o (op_indexN (α:=Int) (d:=0) rfl (ev_ok rfl) (ev_ok rfl) (tgt rfl) rfl (tgt rfl) rfl (by omega)) ?_|rw[t1]|rw[t2]);conv=>whnf))
   refine⟨l.length - (i+1),fun k=>k,[0,1,7,8],[],by omega,by kernel_rfl,i+1,rfl,hlt, ?_,rfl,rfl⟩
   intro j hj
   by_cases hji:j=i
   ·rw[hji];exact hP
   ·exact hs j (by omega)
  ·rw[hP]at o1
   have e1:l.any P=true:=any_at (d:=0) hlt hP
   have e2:l.findIdx P=i:=by
    rw[List.findIdx_eq hlt]
    refine⟨by rw[List.getD_eq_getElem?_getD,List.getElem?_eq_getElem hlt]at hP;exact hP,fun j hj=> ?_⟩
    have:=hs j hj
    rw[List.getD_eq_getElem?_getD,List.getElem?_eq_getElem (by omega)]at this
    exact this
   rw[if_pos e1,e2]
   (repeat((first|refine step_w1 rfl rfl ?_|refine g_c (by assumption) ?_|refine g_o (op_loadA rfl (ev_ok rfl) (tgt rfl) rfl (Nat.succ_ne_zero _) rfl) ?_|refine g_o (op_indexN (α:=Int) (d:=0) rfl (ev_ok rfl) (ev_ok rfl) (tgt rfl) rfl (tgt rfl) rfl (by omega)) ?_|rw[t1]);conv=>whnf));(first|exact Recast.refl _|exact Frz.recast (Recast.refl _) rfl|(refine Frz.one rfl rfl ?_;skip)|(refine Frz.tup ?_;skip))
 ·have t1:=dge hlt
  have hI:i=l.length:=by omega
  subst hI
  have e1:l.any P=false:=any_no 0 hs
  rw[if_neg (by rw[e1];exact Bool.false_ne_true)]
  (repeat(first|(refine step_w2 rfl rfl ?_;conv=>whnf)|(rw[t1];conv=>whnf)));(first|exact Recast.refl _|exact Frz.recast (Recast.refl _) rfl|(refine Frz.one rfl rfl ?_;skip)|(refine Frz.tup ?_;skip))
theorem c_ContainsFunc (l:List Int) (g:FuncId) (p:Pred) (P:Int→Bool) (hl:l.length<1099511627776) (hf:∀x∈l,CallOK Tryz.prog g ([]++([iv x]++[.atom p])) [] (.val (.bool (P x))) [] []):
  CallOK Tryz.prog 214 [ivec .i64 l,.clo g [] [.atom p]] [] (.val (.bool (l.any P))) [] []:=by
 have k1:=c_IndexFunc l g p P hl hf
 refine callV (Z:=[]) tabOK mixedOK Tryz.func214 rfl (by kernel_rfl) rfl rfl (by kernel_rfl) rfl ?_
 intro W0 w0 ρ0 hE
 conv=>whnf
 cases h:l.any P
 ·rw[if_neg (by rw[h];exact Bool.false_ne_true)]at k1
  (repeat(first|(refine g_c (by assumption) ?_;conv=>whnf)));(first|exact Recast.refl _|exact Frz.recast (Recast.refl _) rfl|(refine Frz.one rfl rfl ?_;skip)|(refine Frz.tup ?_;skip))
 ·rw[if_pos h]at k1
  have t1:decide (((l.findIdx P:Nat):Int)≥0)=true:=decide_eq_true (by omega)
  (repeat(first|(refine g_c (by assumption) ?_;conv=>whnf)|(rw[t1];conv=>whnf)));(first|exact Recast.refl _|exact Frz.recast (Recast.refl _) rfl|(refine Frz.one rfl rfl ?_;skip)|(refine Frz.tup ?_;skip))
abbrev outF (n:Nat) (i:Int):Bool:= !decide (0≤i∧i<(n:Int))
abbrev mpart (c:Nat) (a:List Rat) (rows cols:List Int):List Rat:=mk rows.length cols.length fun i k=>el a c (rows.getD i 0).toNat (cols.getD k 0).toNat
theorem m_Part {r c:Nat} {a:List Rat} (ha:OKM r c a) (rows cols:List Int) (hr:rows.length≤2048) (hc:cols.length≤2048) (h1:∀x∈rows,0≤x∧x<r) (h2:∀x∈cols,0≤x∧x<c):
  CallOK Tryz.prog 95 [mA r c a,ivec .i64 rows,ivec .i64 cols] [] (.tup [mA rows.length cols.length (mpart c a rows cols),iv 0]) [] []:=by
 have k0:=m_Check0 ha
 have k1:=m_sides rows.length cols.length
 rw[sides_of (by omega)]at k1
 have ka:=c_ContainsFunc rows 215 (ptrP (mC r c a)) (outF r) (by omega) (fun x _=>by
  have k1:=m_has x r
  refine callV (Z:=[]) tabOK mixedOK Tryz.func215 rfl (by kernel_rfl) rfl rfl (by kernel_rfl) rfl ?_
  intro W0 w0 ρ0 hE
  conv=>whnf
  (repeat(first|(refine g_c (by assumption) ?_;conv=>whnf)|(refine g_o (op_loadA rfl (ev_ok rfl) (tgt rfl) rfl (Nat.succ_ne_zero _) rfl) ?_;conv=>whnf)|(refine g_o (op_fieldA rfl (ev_ok rfl) (tgt rfl) rfl rfl (Nat.succ_ne_zero _) rfl) ?_;conv=>whnf)));(first|exact Recast.refl _|exact Frz.recast (Recast.refl _) rfl|(refine Frz.one rfl rfl ?_;skip)|(refine Frz.tup ?_;skip)))
 have kb:=c_ContainsFunc cols 216 (ptrP (mC r c a)) (outF c) (by omega) (fun x _=>by
  have k1:=m_has x c
  refine callV (Z:=[]) tabOK mixedOK Tryz.func216 rfl (by kernel_rfl) rfl rfl (by kernel_rfl) rfl ?_
  intro W0 w0 ρ0 hE
  conv=>whnf
  (repeat(first|(refine g_c (by assumption) ?_;conv=>whnf)|(refine g_o (op_loadA rfl (ev_ok rfl) (tgt rfl) rfl (Nat.succ_ne_zero _) rfl) ?_;conv=>whnf)|(refine g_o (op_fieldA rfl (ev_ok rfl) (tgt rfl) rfl rfl (Nat.succ_ne_zero _) rfl) ?_;conv=>whnf)));(first|exact Recast.refl _|exact Frz.recast (Recast.refl _) rfl|(refine Frz.one rfl rfl ?_;skip)|(refine Frz.tup ?_;skip)))
 have e1:rows.any (outF r)=false:=any_no 0 fun i hi=>by rw[outF,decide_eq_true (h1 _ (getD_mem hi))];rfl
 have e2:cols.any (outF c)=false:=any_no 0 fun i hi=>by rw[outF,decide_eq_true (h2 _ (getD_mem hi))];rfl
 rw[e1]at ka
 rw[e2]at kb
 have k2:=m_Make3 hr hc (fun i k=>el a c (rows.getD i 0).toNat (cols.getD k 0).toNat) 217 (ptrP (mC r c a)) (ptrP [ivec .i64 rows]) (ptrP [ivec .i64 cols]) (fun i k hi hk=>by
  have g1:=h1 _ (getD_mem (d:=0) hi)
  have g2:=h2 _ (getD_mem (d:=0) hk)
  have o1:=m_at ha (i:=(rows.getD i 0).toNat) (k:=(cols.getD k 0).toNat) (by omega) (by omega)
  rw[Int.toNat_of_nonneg g1.1,Int.toNat_of_nonneg g2.1]at o1
  refine callV (Z:=[]) tabOK mixedOK Tryz.func217 rfl (by kernel_rfl) rfl rfl (by kernel_rfl) rfl ?_
  intro W0 w0 ρ0 hE
  conv=>whnf
  (repeat((first|refine step_i (by kernel_rfl) ?_|refine g_c (by assumption) ?_|refine g_o (op_loadA rfl (ev_ok rfl) (tgt rfl) rfl (Nat.succ_ne_zero _) rfl) ?_|refine g_o (op_indexN (α:=Int) (d:=0) rfl (ev_ok rfl) (ev_ok rfl) (tgt rfl) rfl (tgt rfl) rfl (by omega)) ?_);conv=>whnf));(first|exact Recast.refl _|exact Frz.recast (Recast.refl _) rfl|(refine Frz.one rfl rfl ?_;skip)|(refine Frz.tup ?_;skip)))
 refine callV (Z:=[3,4,5]) tabOK mixedOK Tryz.func95 rfl (by kernel_rfl) rfl rfl (by kernel_rfl) rfl ?_
 intro W0 w0 ρ0 hE
 conv=>whnf
 (repeat((first|refine step_w1 rfl rfl ?_|refine step_w2 rfl rfl ?_|refine g_c (by assumption) ?_|refine g_o (op_pickF rfl (ev_ok rfl) (ev_ok rfl)) ?_|rw[bne_self_eq_false]|refine g_o (op_lenM rfl rfl rfl (ev_ok rfl) (tgt rfl) rfl) ?_|refine g_o (op_loadA rfl (ev_ok rfl) (tgt rfl) rfl (Nat.succ_ne_zero _) rfl) ?_|refine g_o (op_makeFunc rfl rfl rfl) ?_);conv=>whnf));(first|exact Recast.refl _|exact Frz.recast (Recast.refl _) rfl|(refine Frz.one rfl rfl ?_;skip)|(refine Frz.tup ?_;skip))
theorem m_PartE {r c:Nat} {a:List Rat} (ha:OKM r c a) (rows cols:List Int) (hr:rows.length≤2048) (hc:cols.length≤2048) (h:rows.any (outF r)=true∨cols.any (outF c)=true):
  CallOK Tryz.prog 95 [mA r c a,ivec .i64 rows,ivec .i64 cols] [] (.tup [mA 0 0 [],iv 1]) [] []:=by
 have k0:=m_Check0 ha
 have k1:=m_sides rows.length cols.length
 rw[sides_of (by omega)]at k1
 have ka:=c_ContainsFunc rows 215 (ptrP (mC r c a)) (outF r) (by omega) (fun x _=>by
  have k1:=m_has x r
  refine callV (Z:=[]) tabOK mixedOK Tryz.func215 rfl (by kernel_rfl) rfl rfl (by kernel_rfl) rfl ?_
  intro W0 w0 ρ0 hE
  conv=>whnf
  (repeat(first|(refine g_c (by assumption) ?_;conv=>whnf)|(refine g_o (op_loadA rfl (ev_ok rfl) (tgt rfl) rfl (Nat.succ_ne_zero _) rfl) ?_;conv=>whnf)|(refine g_o (op_fieldA rfl (ev_ok rfl) (tgt rfl) rfl rfl (Nat.succ_ne_zero _) rfl) ?_;conv=>whnf)));(first|exact Recast.refl _|exact Frz.recast (Recast.refl _) rfl|(refine Frz.one rfl rfl ?_;skip)|(refine Frz.tup ?_;skip)))
 have kb:=c_ContainsFunc cols 216 (ptrP (mC r c a)) (outF c) (by omega) (fun x _=>by
  have k1:=m_has x c
  refine callV (Z:=[]) tabOK mixedOK Tryz.func216 rfl (by kernel_rfl) rfl rfl (by kernel_rfl) rfl ?_
  intro W0 w0 ρ0 hE
  conv=>whnf
  (repeat(first|(refine g_c (by assumption) ?_;conv=>whnf)|(refine g_o (op_loadA rfl (ev_ok rfl) (tgt rfl) rfl (Nat.succ_ne_zero _) rfl) ?_;conv=>whnf)|(refine g_o (op_fieldA rfl (ev_ok rfl) (tgt rfl) rfl rfl (Nat.succ_ne_zero _) rfl) ?_;conv=>whnf)));(first|exact Recast.refl _|exact Frz.recast (Recast.refl _) rfl|(refine Frz.one rfl rfl ?_;skip)|(refine Frz.tup ?_;skip)))
 refine callF (Z:=[3,4,5]) tabOK mixedOK Tryz.func95 rfl (by kernel_rfl) (by first|rfl|(simp[keylessL,keyless,keylessL_map, *];done)) (by first|rfl|(simp[keylessL,keyless,keylessL_map, *];done)) (by kernel_rfl) rfl ?_
 intro w0 ρ0 hE
 conv=>whnf
 cases e1:rows.any (outF r)
 ·rw[e1]at ka
  rw[h.resolve_left (by rw[e1];exact Bool.false_ne_true)]at kb
  (repeat((first|refine step_w1 rfl rfl ?_|refine step_w2 rfl rfl ?_|refine g_c (by assumption) ?_|refine g_o (op_pickF rfl (ev_ok rfl) (ev_ok rfl)) ?_|rw[bne_self_eq_false]|refine g_o (op_lenM rfl rfl rfl (ev_ok rfl) (tgt rfl) rfl) ?_|refine g_o (op_loadA rfl (ev_ok rfl) (tgt rfl) rfl (Nat.succ_ne_zero _) rfl) ?_|refine g_o (op_makeFunc rfl rfl rfl) ?_);conv=>whnf));(first|exact Recast.refl _|exact Frz.recast (Recast.refl _) rfl|(refine Frz.one rfl rfl ?_;skip)|(refine Frz.tup ?_;(repeat(first|exact FrzC.keyless rfl|exact FrzL.nil|refine FrzL.cons ?_ ?_|exact FrzC.nilS|refine FrzC.agg ?_))))
 ·rw[e1]at ka
  (repeat((first|refine step_w1 rfl rfl ?_|refine step_w2 rfl rfl ?_|refine g_c (by assumption) ?_|refine g_o (op_pickT rfl (ev_ok rfl) (ev_ok rfl)) ?_|rw[bne_self_eq_false]|refine g_o (op_lenM rfl rfl rfl (ev_ok rfl) (tgt rfl) rfl) ?_|refine g_o (op_loadA rfl (ev_ok rfl) (tgt rfl) rfl (Nat.succ_ne_zero _) rfl) ?_|refine g_o (op_makeFunc rfl rfl rfl) ?_);conv=>whnf));(first|exact Recast.refl _|exact Frz.recast (Recast.refl _) rfl|(refine Frz.one rfl rfl ?_;skip)|(refine Frz.tup ?_;(repeat(first|exact FrzC.keyless rfl|exact FrzL.nil|refine FrzL.cons ?_ ?_|exact FrzC.nilS|refine FrzC.agg ?_))))
def rowsL (r c:Nat) (a:List Rat):List (List Rat):=(List.range r).map (rowL a c)
def tM (r c:Nat) (a:List Rat):ByteArray:=⟨(Lib.join (((rowsL r c a).map tV).map (·.data.toList)) [32]).toArray⟩
theorem rowsL_get {r c i:Nat} {a:List Rat} (hi:i<r):(rowsL r c a).getD i []=rowL a c i:=by simp[rowsL,List.getD_eq_getElem?_getD,hi]
theorem rowsL_len (r c:Nat) (a:List Rat):(rowsL r c a).length=r:=by simp[rowsL]
theorem tV_size {a:List Rat} {B:Nat} (h:∀i,i<a.length→fs (a.getD i 0)≤B):(tV a).data.toList.length≤2+a.length*(2*B+5):=by
 have h1:=join_size ((a.map tQ).map (·.data.toList)) (2*B+4) (by
  intro x hx
  obtain⟨s,hs,rfl⟩:=List.mem_map.1 hx
  obtain⟨q,hq,rfl⟩:=List.mem_map.1 hs
  obtain⟨i,hi,rfl⟩:=mem_getD hq 0
  have h1:=tQ_size (a.getD i 0)
  have h2:=h i hi
  have:(tQ (a.getD i 0)).data.toList.length=(tQ (a.getD i 0)).size:=Array.length_toList
  show(tQ (a.getD i 0)).data.toList.length≤_
  omega)
 rw[List.length_map,List.length_map]at h1
 have e1: "[".toByteArray.data.toList.length=1:=by decide+kernel
 have e2: "]".toByteArray.data.toList.length=1:=by decide+kernel
 unfold tV
 rw[ByteArray.data_append,ByteArray.data_append,Array.toList_append,Array.toList_append,List.length_append,List.length_append]
 show "[".toByteArray.data.toList.length+(Lib.join ((a.map tQ).map (·.data.toList)) [32]).length+ "]".toByteArray.data.toList.length≤_
 rw[e1,e2]
 rw[show 2*B+4+1=2*B+5 from rfl]at h1
 omega
theorem rows_sm {r c B:Nat} {a:List Rat} (ha:a.length=r*c) (sa:Sm B a) {l:List Rat} (h:l∈rowsL r c a):l.length=c∧Sm B l:=by
 obtain⟨i,hi,rfl⟩:=List.mem_map.1 h
 have hi':=List.mem_range.1 hi
 exact⟨rowL_len hi' ha,Sm_row sa ha hi'⟩
theorem tM_join {r c B:Nat} {a:List Rat} (ha:OKM r c a) (sa:Sm B a) (hB:B≤1000000):(Lib.join (((rowsL r c a).map tV).map (·.data.toList)) [32]).length≤140737488355328:=by
 refine Nat.le_trans (join_size _ (2+2048*(2*B+5)) ?_) ?_
 ·intro x hx
  obtain⟨s,hs,rfl⟩:=List.mem_map.1 hx
  obtain⟨l,hl,rfl⟩:=List.mem_map.1 hs
  obtain⟨h1,h2⟩:=rows_sm ha.n sa hl
  refine Nat.le_trans (tV_size h2) ?_
  have:=Nat.mul_le_mul_right (2*B+5) (show l.length≤2048 by rw[h1];exact ha.c)
  omega
 ·rw[List.length_map,List.length_map,rowsL_len]
  have:=Nat.mul_le_mul_right (2+2048*(2*B+5)+1) ha.r
  omega
theorem app_snocS {l:List ByteArray} {i:Nat} {d:ByteArray} (h:i<l.length):(⟨9,true,.seq 1 ((l.take (i+1)).map sel)⟩:Blk)=⟨9,true,.seq 1 (List.take i ((l.take i).map sel)++List.take 1 (List.drop 0 [sel (l.getD i d)]))⟩:=by
 have hl:((l.take i).map sel).length=i:=by rw[List.length_map,List.length_take];omega
 have e:l.take (i+1)=l.take i++[l.getD i d]:=by rw[List.take_add_one,List.getD_eq_getElem?_getD,List.getElem?_eq_getElem h];rfl
 rw[e,List.map_append,List.take_of_length_le (l:=(l.take i).map sel) (by omega)];rfl
abbrev sblkM (l:List ByteArray):Blk:=⟨9,true,.seq 1 (l.map sel)⟩
theorem m_Text {r c B:Nat} {a:List Rat} (ha:OKM r c a) (sa:Sm B a) (hB:B≤1000000):CallOK Tryz.prog 110 [mA r c a] [] (.val (.string (tM r c a))) [] []:=by
 have k0:=m_Check0 ha
 have hr:=ha.r
 have la:=rowsL_len r c a
 have hz:((rowsL r c a).map tV).length=r:=by rw[List.length_map,rowsL_len]
 have kj:=t_Join ((rowsL r c a).map tV) (by omega) (tM_join ha sa hB)
 refine callF (Z:=[1]) tabOK mixedOK Tryz.func110 rfl (by kernel_rfl) (by first|rfl|(simp[keylessL,keyless,keylessL_map, *];done)) (by first|rfl|(simp[keylessL,keyless,keylessL_map, *];done)) (by kernel_rfl) rfl ?_
 intro w0 ρ0 hE
 conv=>whnf
 (repeat((first|refine step_w2 rfl rfl ?_|refine g_c (by assumption) ?_|rw[bne_self_eq_false]|refine g_o (op_loadA rfl (ev_ok rfl) (tgt rfl) rfl (Nat.succ_ne_zero _) rfl) ?_|refine g_o (op_fieldA rfl (ev_ok rfl) (tgt rfl) rfl rfl (Nat.succ_ne_zero _) rfl) ?_);conv=>whnf))
 refine SWx_adopt (t:=3) (k:=2001) (s:=1) (blk:=sblkM []) rfl rfl rfl ?_
 refine SW_loopS hE (fun k=>k) [1,3,9,10] [2001] (fun m fr hp=>∃i:Nat,m=r - i∧i≤r∧fr=[(1,ptrA (mC r c a)),(3,.slc 2001 1 0 i),(9,iv r),(10,iv (i:Nat))]∧hp=[(2001,sblkM (((rowsL r c a).map tV).take i))]) r ?_ ?_ ?_
 ·kernel_rfl
 ·exact⟨0,rfl,Nat.zero_le _,rfl,rfl⟩
 rintro m _ _ ⟨i,rfl,hi,rfl,rfl⟩
 have hlt0:((((rowsL r c a).map tV).take i).map sel).length=i:=by rw[List.length_map,List.length_take];omega
 by_cases hlt:i<r
 ·have t1:=dlt hlt
  have t2:=winc (i:=i) (by omega)
  have o1:=m_rowV ha hlt
  have l1:=rowL_len hlt ha.n
  have o2:=t_VecG (rowL a c i) B (by have:=ha.c;omega) (Sm_row sa ha.n hlt) (by omega)
  have hget:((rowsL r c a).map tV).getD i ByteArray.empty=tV (rowL a c i):=by rw[map_get (d:=[]) (by rw[rowsL_len];exact hlt),rowsL_get hlt]
  have e1:=app_snocS (l:=(rowsL r c a).map tV) (d:=ByteArray.empty) (i:=i) (by omega)
  rw[hget]at e1
  refine SWx.of hE ?_
  conv=>whnf
  (repeat((first|refine step_w1 rfl rfl ?_|refine step_oA (by first|omega|decide|(simp only[tl0,dlen,List.length_replicate,List.length_set,List.length_map,List.length_zipWith,List.length_take,List.length_append,List.length_cons,List.length_nil];omega)) ?_|refine g_c (by assumption) ?_|refine g_o (op_loadA rfl (ev_ok rfl) (tgt rfl) rfl (Nat.succ_ne_zero _) rfl) ?_|rw[t1]|rw[t2]);conv=>whnf))
  refine⟨r - (i+1),renBy [(19,2001)],[1,3,9,10],[19],by omega,by kernel_rfl,i+1,rfl,hlt,rfl, ?_⟩
  rw[sblkM,e1];rfl
 ·have t1:=dge hlt
  obtain rfl:i=r:=by omega
  rw[List.take_of_length_le (by omega)]
  refine SWx_freezeM 3 2001 (fun _ h=>h) (fun _=>rfl) rfl rfl hz.symm ?_
  refine SWx.of hE ?_
  conv=>whnf
  (repeat(first|(refine step_w2 rfl rfl ?_;conv=>whnf)|(refine g_c (by assumption) ?_;conv=>whnf)|(rw[t1];conv=>whnf)));(first|exact Recast.refl _|exact Frz.recast (Recast.refl _) rfl|(refine Frz.one rfl rfl ?_;skip)|(refine Frz.tup ?_;skip))
end Go.Proofs.YtfpagioknjjacaaGreatDoor
namespace Go.Sx
set_option linter.unusedSimpArgs false
set_option linter.unusedVariables false
theorem addKey_RR {E:Env} {k:Nat} {blk:Blk} {fr:List (Nat×SV)} {hp:List (Nat×Blk)} (hk:find hp k=none) (he:blk.data.empty) {a:Act} {w:World} (hR:RR E (fn fr hp) a w):
  RR E (fn fr ((k,blk)::hp)) a w:=by
 obtain⟨ρ,hext,hfx,hR⟩:=hR
 have hkn:ρ.key k=none:=by
  cases hx:ρ.key k with
  |none=>rfl
  |some x=>
   obtain⟨b,hb⟩:=hR.hp.dom k x hx
   simp only[fn,LV.blk,hk]at hb
   cases hb
 have hblk:∀j b,(fn fr ((k,blk)::hp) (.k j)).blk=some b→(j=k∧b=blk)∨(j≠k∧(fn fr hp (.k j)).blk=some b):=by
  intro j b hb
  simp only[fn,LV.blk,find]at hb ⊢
  cases hj:Nat.beq k j with
  |true=>rw[hj]at hb;simp only[Option.some.injEq]at hb;exact .inl ⟨(Nat.eq_of_beq_eq_true hj).symm,hb.symm⟩
  |false=>rw[hj]at hb;exact .inr ⟨by rintro rfl;simp[Nat.beq_refl]at hj,hb⟩
 have hne:∀j x,ρ.key j=some x→j≠k:=fun j x hx h=>by rw[h,hkn]at hx;cases hx
 refine⟨ρ,hext,fun j hj=> ?_,{defers:=hR.defers,size:=hR.size,fr:=fun u sv hu=>hR.fr u sv hu,pres:=hR.pres,hp:= ?_}⟩
 ·have:=hfx j hj
  simp only[fn,LV.blk,find]at this ⊢
  cases hb:Nat.beq k j with
  |true=>simp
  |false=>exact this
 ·constructor
  ·intro j b hb
   rcases hblk j b hb with⟨rfl,rfl⟩|⟨_,h1⟩
   ·exact .inr (.inr ⟨hkn,he⟩)
   ·exact hR.hp.blk j b h1
  ·intro j j' x x' b b' hx hx' hn hxe hb hb'
   rcases hblk j b hb with⟨h1,_⟩|⟨_,h1⟩
   ·exact absurd h1 (hne j x hx)
   ·rcases hblk j' b' hb' with⟨h2,_⟩|⟨_,h2⟩
    ·exact absurd h2 (hne j' x' hx')
    ·exact hR.hp.sep j j' x x' b b' hx hx' hn hxe h1 h2
  ·intro j b x hb hw hl hx
   rcases hblk j b hb with⟨h1,_⟩|⟨_,h1⟩
   ·exact absurd h1 (hne j x hx)
   ·exact hR.hp.own j b x h1 hw hl hx
  ·intro j x hx
   obtain⟨b,hb⟩:=hR.hp.dom j x hx
   have:=hne j x hx
   refine⟨b, ?_⟩
   simp only[fn,LV.blk,find]at hb ⊢
   cases hj:Nat.beq k j with
   |true=>exact absurd (Nat.eq_of_beq_eq_true hj).symm this
   |false=>exact hb
  ·exact hR.hp.imm
  ·intro j b x hb hw hl hx
   rcases hblk j b hb with⟨h1,_⟩|⟨_,h1⟩
   ·exact absurd h1 (hne j x hx)
   ·exact hR.hp.immw j b x h1 hw hl hx
theorem retell_RR {E:Env} {j:Nat} {ty:TypeId} {wr:Bool} {cs cs':List SV} {fr:List (Nat×SV)} {hp:List (Nat×Blk)} (hj:find hp j=some ⟨ty,wr,.one cs⟩) (hd:∀ρ z,HasZ ρ cs z→HasZ ρ cs' z) {a:Act} {w:World} (hR:RR E (fn fr hp) a w):
  RR E (fn fr ((j,⟨ty,wr,.one cs'⟩)::hp)) a w:=by
 obtain⟨ρ,hext,hfx,hR⟩:=hR
 have hblk:∀i b,(fn fr ((j,⟨ty,wr,.one cs'⟩)::hp) (.k i)).blk=some b→∃b0,(fn fr hp (.k i)).blk=some b0∧b0.wr=b.wr∧b0.data.live=b.data.live∧(b0=b∨(i=j∧b0=⟨ty,wr,.one cs⟩∧b=⟨ty,wr,.one cs'⟩)):=by
  intro i b hb
  simp only[fn,LV.blk,find]at hb ⊢
  cases hi:Nat.beq j i with
  |true=>
   rw[hi]at hb
   simp only[Option.some.injEq]at hb
   obtain rfl:=Nat.eq_of_beq_eq_true hi
   subst hb
   exact⟨_,hj,rfl,rfl,.inr ⟨rfl,rfl,rfl⟩⟩
  |false=>rw[hi]at hb;exact⟨b,hb,rfl,rfl,.inl rfl⟩
 refine⟨ρ,hext,fun i hi=> ?_,{defers:=hR.defers,size:=hR.size,fr:=fun u sv hu=>hR.fr u sv hu,pres:=hR.pres,hp:= ?_}⟩
 ·have:=hfx i hi
  simp only[fn,LV.blk,find]at this ⊢
  cases hb:Nat.beq j i with
  |true=>simp
  |false=>exact this
 ·constructor
  ·intro i b hb
   obtain⟨b0,h1,h2,h3,rfl|⟨rfl,rfl,rfl⟩⟩:=hblk i b hb
   ·exact hR.hp.blk i b0 h1
   ·rcases hR.hp.blk i _ h1 with h4|⟨b',t,vs,ex,g1,g2,g3,g4,g5⟩|⟨_,h4⟩
    ·cases h4
    ·refine .inr (.inl ⟨b',t,vs,ex,g1,g2, ?_,g4,g5⟩)
     simp only[DataC]at g3 ⊢
     obtain⟨z,g6,g7⟩:=g3
     exact⟨z,hd ρ z g6,g7⟩
    ·exact h4.elim
  ·intro i i' x x' b b' hx hx' hn hxe hb hb' hl hl'
   obtain⟨b0,h1,h2,h3,_⟩:=hblk i b hb
   obtain⟨b0',h1',h2',h3',_⟩:=hblk i' b' hb'
   rw[←h2]
   exact hR.hp.sep i i' x x' b0 b0' hx hx' hn hxe h1 h1' (h3.trans hl) (h3'.trans hl')
  ·intro i b x hb hw hl hx
   obtain⟨b0,h1,h2,h3,_⟩:=hblk i b hb
   exact hR.hp.own i b0 x h1 (h2.trans hw) (h3.trans hl) hx
  ·intro i x hx
   obtain⟨b,hb⟩:=hR.hp.dom i x hx
   simp only[fn,LV.blk,find]at hb ⊢
   cases hi:Nat.beq j i with
   |true=>exact⟨_,rfl⟩
   |false=>exact⟨b,hb⟩
  ·exact hR.hp.imm
  ·intro i b x hb hw hl hx
   obtain⟨b0,h1,h2,h3,_⟩:=hblk i b hb
   exact hR.hp.immw i b0 x h1 (h2.trans hw) (h3.trans hl) hx
theorem HasZ_adopt {ρ:Rho} {k s:Nat}:∀{cs:List SV} {p:Nat} {z:List (List Value)},cs[p]? =some (.val (.slice none 0 0))→HasZ ρ cs z→HasZ ρ (cs.set p (.slc k s 0 0)) z
 |[],p,z,h,_=>by simp at h
 |c::cs,0,z,h,hz=>by
  simp only[List.getElem?_cons_zero,Option.some.injEq]at h
  subst h
  simp only[HasZ,List.set_cons_zero]at hz ⊢
  obtain⟨x,r,rfl,h1,h2⟩:=hz
  refine⟨x,r,rfl, ?_,h2⟩
  simp only[HasC]at h1 ⊢
  exact .inr ⟨trivial,none,h1.1⟩
 |c::cs,p+1,z,h,hz=>by
  simp only[List.getElem?_cons_succ]at h
  simp only[HasZ,List.set_cons_succ]at hz ⊢
  obtain⟨x,r,rfl,h1,h2⟩:=hz
  exact⟨x,r,rfl,h1,HasZ_adopt h h2⟩
theorem SWx_adoptB {E:Env} {j k s p:Nat} {ty:TypeId} {wr:Bool} {cs cs':List SV} {c:Code} {K:Post'} {blk:Blk} {fr:List (Nat×SV)} {hp:List (Nat×Blk)} (hj:find hp j=some ⟨ty,wr,.one cs⟩) (hp':cs[p]? =some (.val (.slice none 0 0))) (hk:find hp k=none) (he:blk.data.empty)
  (hcs:cs.set p (.slc k s 0 0)=cs') (hs:SWx E c K fr ((k,blk)::(j,⟨ty,wr,.one cs'⟩)::hp)):SWx E c K fr hp:=⟨fun a w hR=>hs.run a w (by
  subst hcs
  refine addKey_RR ?_ he (retell_RR hj (fun ρ z hz=>HasZ_adopt hp' hz) hR)
  simp only[find]
  cases hb:Nat.beq j k with
  |false=>exact hk
  |true=>rw[Nat.eq_of_beq_eq_true hb,hk]at hj;cases hj)⟩
theorem tst_tt {t:Bool} {A B:Prop} (h:t=true) (k:A):(t=true→A)∧(t=false→B):=⟨fun _=>k,fun h'=>(by rw[h]at h';cases h')⟩
theorem tst_ff {t:Bool} {A B:Prop} (h:t=false) (k:B):(t=true→A)∧(t=false→B):=⟨fun h'=>(by rw[h]at h';cases h'),fun _=>k⟩
def Wk (c d:SV):Prop:=c.isOne=d.isOne∧∀ρ x,HasC ρ c x→HasC ρ d x
def WkL (l m:List SV):Prop:=(∀z,List.zipWith mkV l z=List.zipWith mkV m z)∧∀ρ z,HasZ ρ l z→HasZ ρ m z
theorem Wk.refl {c:SV}:Wk c c:=⟨rfl,fun _ _ h=>h⟩
theorem Wk.nil {w:Nat} {a:Option Addr}:Wk (.val (.slice a 0 0)) (vecA w []):=⟨rfl,fun _ _ h=>nil_vec h⟩
theorem WkL.nil:WkL [] []:=⟨fun _=>rfl,fun _ _ h=>h⟩
theorem WkL.cons {c d:SV} {l m:List SV} (h:Wk c d) (k:WkL l m):WkL (c::l) (d::m):=
 ⟨fun z=>by cases z with
  |nil=>rfl
  |cons x r=>rw[List.zipWith_cons_cons,List.zipWith_cons_cons,k.1 r,mkV_eq h.1],fun ρ z hz=>by
  simp only[HasZ]at hz ⊢
  obtain⟨x,r,rfl,h1,h2⟩:=hz
  exact⟨x,r,rfl,h.2 ρ x h1,k.2 ρ r h2⟩⟩
theorem Wk.agg {l m:List SV} (h:WkL l m):Wk (.agg l) (.agg m):=⟨rfl,fun ρ x hx=>by
 simp only[HasC]at hx ⊢
 obtain⟨z,h1,h2⟩:=hx
 exact⟨z,h.2 ρ z h1,h2⟩⟩
theorem CallOK.wk {P:Program} {f:FuncId} {args args':List SV} {fk:List (Nat×Blk)} {c:SV} {new upd:List (Nat×Blk)} (h:CallOK P f args' fk c new upd) (hw:WkL args args'):CallOK P f args fk c new upd:=CallOK.args h hw.2 hw.1
def ag3 {α β γ:Type} (f:α→SV) (g:β→SV) (h:γ→SV) (p:α×β×γ):SV:=.agg [f p.1,g p.2.1,h p.2.2]
end Go.Sx
namespace Go.Proofs.YtfpagioknjjacaaGreatDoor
open Go.Sx
set_option linter.unusedSimpArgs false
set_option linter.unusedVariables false
set_option maxRecDepth 100000
set_option maxHeartbeats 4000000
abbrev MM:=Int×Int×List (Int×Int)
abbrev mQ:MM→SV:=ag3 (iel .u8) (iel .u8) (mvec 2 qA)
abbrev nilQ:MM:=(0,0,[])
def mOK (m:MM):Prop:=(0≤m.1∧m.1<256)∧(0≤m.2.1∧m.2.1<256)∧m.2.2.length≤maxLen∧∀q∈m.2.2,qOK q
def eQ (l:List (Int×Int)) (p:Nat):Rat:=qV (l.getD p (0,0))
def someL (l:List (Int×Int)) (n:Nat):List Rat:=(List.range n).map (eQ l)
theorem someL_len (l:List (Int×Int)) (n:Nat):(someL l n).length=n:=by simp[someL]
theorem someL_get {l:List (Int×Int)} {n p:Nat} (h:p<n):(someL l n).getD p 0=eQ l p:=by simp[someL,List.getD_eq_getElem?_getD,h]
theorem qOK_at {l:List (Int×Int)} (h:∀q∈l,qOK q) (p:Nat):qOK (l.getD p (0,0)):=by
 by_cases hp:p<l.length
 ·exact h _ (getD_mem hp)
 ·rw[List.getD_eq_getElem?_getD,List.getElem?_eq_none (by omega)];exact⟨⟨by decide,by decide⟩,by decide,by decide⟩
theorem Sm_some {l:List (Int×Int)} (h:∀q∈l,qOK q) (n:Nat):Sm 130 (someL l n):=by
 intro p hp
 rw[someL_len]at hp
 rw[someL_get hp];exact fs_qV (qOK_at h p)
theorem OKM_some (l:List (Int×Int)) {r c:Nat} (hr:r≤2048) (hc:c≤2048):OKM r c (someL l (r*c)):=⟨hr,hc,someL_len ..⟩
theorem c_few (ms:List MM) (h:ms.length<1000) (hl:∀m∈ms,m.2.2.length≤maxLen):CallOK Tryz.prog 61 [mvec 3 mQ ms] [] (.val (.bool (ms.all fun m=>decide (m.2.2.length≤40)))) [] []:=by
 refine callV (Z:=[]) tabOK mixedOK Tryz.func61 rfl (by kernel_rfl) rfl rfl (by kernel_rfl) rfl ?_
 intro W0 w0 ρ0 hE
 conv=>whnf
 skip
 refine SW_loopN hE (fun k=>k) [0,3] [] (fun m fr hp=>∃i:Nat,m=ms.length - i∧i≤ms.length∧(∀j,j<i→decide ((ms.getD j nilQ).2.2.length≤40)=true)∧fr=[(0,mvec 3 mQ ms),(3,iv (i:Nat))]∧hp=[]) ms.length ?_ ?_ ?_
 ·kernel_rfl
 ·exact⟨0,rfl,Nat.zero_le _,(fun j hj=>by omega),rfl,rfl⟩
 rintro m _ _ ⟨i,rfl,hi,hs,rfl,rfl⟩
 conv=>whnf
 by_cases hlt:i<ms.length
 ·have t1:=dlt hlt
  have t2:=winc (i:=i) (by omega)
  by_cases hL:(ms.getD i nilQ).2.2.length≤40
  ·have t3:decide (((ms.getD i nilQ).2.2.length:Int)>40)=false:=decide_eq_false (by omega)
   (repeat((first|refine step_w1 rfl rfl ?_|refine step_w2 rfl rfl ?_|refine g_o (op_lenM rfl rfl rfl (ev_ok rfl) (tgt rfl) rfl) ?_|refine g_o (op_loadA rfl (ev_ok rfl) (tgt rfl) rfl (Nat.succ_ne_zero _) rfl) ?_|refine g_o (op_fieldA rfl (ev_ok rfl) (tgt rfl) rfl rfl (Nat.succ_ne_zero _) rfl) ?_|refine g_o (op_indexN (α:=MM) (d:=nilQ) rfl (ev_ok rfl) (ev_ok rfl) (tgt rfl) rfl (tgt rfl) rfl (by omega)) ?_|rw[t1]|rw[t3]|rw[t2]);conv=>whnf))
   refine⟨ms.length - (i+1),fun k=>k,[0,3],[],by omega,by kernel_rfl,i+1,rfl,hlt, ?_,rfl,rfl⟩
   intro j hj
   by_cases hji:j=i
   ·rw[hji];exact decide_eq_true hL
   ·exact hs j (by omega)
  ·have t3:decide (((ms.getD i nilQ).2.2.length:Int)>40)=true:=decide_eq_true (by omega)
   have e:(ms.all fun m=>decide (m.2.2.length≤40))=false:=all_no (d:=nilQ) hlt (decide_eq_false hL)
   rw[e]
   (repeat((first|refine step_w1 rfl rfl ?_|refine g_o (op_lenM rfl rfl rfl (ev_ok rfl) (tgt rfl) rfl) ?_|refine g_o (op_loadA rfl (ev_ok rfl) (tgt rfl) rfl (Nat.succ_ne_zero _) rfl) ?_|refine g_o (op_fieldA rfl (ev_ok rfl) (tgt rfl) rfl rfl (Nat.succ_ne_zero _) rfl) ?_|refine g_o (op_indexN (α:=MM) (d:=nilQ) rfl (ev_ok rfl) (ev_ok rfl) (tgt rfl) rfl (tgt rfl) rfl (by omega)) ?_|rw[t1]|rw[t3]);conv=>whnf));(first|exact Recast.refl _|exact Frz.recast (Recast.refl _) rfl|(refine Frz.one rfl rfl ?_;skip)|(refine Frz.tup ?_;skip))
 ·have t1:=dge hlt
  obtain rfl:i=ms.length:=by omega
  have e:(ms.all fun m=>decide (m.2.2.length≤40))=true:=all_at nilQ hs
  rw[e]
  (repeat(first|(refine step_w2 rfl rfl ?_;conv=>whnf)|(refine g_o (op_lenM rfl rfl rfl (ev_ok rfl) (tgt rfl) rfl) ?_;conv=>whnf)|(rw[t1];conv=>whnf)));(first|exact Recast.refl _|exact Frz.recast (Recast.refl _) rfl|(refine Frz.one rfl rfl ?_;skip)|(refine Frz.tup ?_;skip))
theorem wrap_u8 {n:Int} (h0:0≤n) (h:n<256):IntKind.u8.wrap n=n:=by
 simp[IntKind.wrap,IntKind.bits,IntKind.signed];omega
theorem c_Sides (m:MM) (h:mOK m):CallOK Tryz.prog 62 [mQ m] [] (.tup [iv ((m.1 % 7).toNat:Nat),iv ((m.2.1 % 7).toNat:Nat)]) [] []:=by
 obtain⟨h1,h2,_⟩:=h
 have e1:IntKind.i64.wrap (m.1.tmod 7)=((m.1 % 7).toNat:Nat):=by rw[Int.tmod_eq_emod_of_nonneg h1.1,wrap_i64 (by omega) (by omega)];omega
 have e2:IntKind.i64.wrap (m.2.1.tmod 7)=((m.2.1 % 7).toNat:Nat):=by rw[Int.tmod_eq_emod_of_nonneg h2.1,wrap_i64 (by omega) (by omega)];omega
 have e3:IntKind.u8.wrap (m.1.tmod 7)=m.1.tmod 7:=by rw[Int.tmod_eq_emod_of_nonneg h1.1,wrap_u8 (by omega) (by omega)]
 have e4:IntKind.u8.wrap (m.2.1.tmod 7)=m.2.1.tmod 7:=by rw[Int.tmod_eq_emod_of_nonneg h2.1,wrap_u8 (by omega) (by omega)]
 refine callV (Z:=[]) tabOK mixedOK Tryz.func62 rfl (by kernel_rfl) rfl rfl (by kernel_rfl) rfl ?_
 intro W0 w0 ρ0 hE
 conv=>whnf
 (repeat((first|refine step_i (by kernel_rfl) ?_|refine step_oN (by first|omega|decide|(simp only[tl0,dlen,List.length_replicate,List.length_set,List.length_map,List.length_zipWith,List.length_take,List.length_append,List.length_cons,List.length_nil];omega)) ?_|rw[e1]|rw[e2]);conv=>whnf));(first|exact Recast.refl _|exact Frz.recast (Recast.refl _) rfl|(refine Frz.one rfl rfl ?_;skip)|(refine Frz.tup ?_;skip))
theorem app_one {α:Type} {l:List α} {i:Nat} {d:α} (h:i<l.length):l.take (i+1)=(l.take i).take i++(([l.getD i d]:List α).drop 0).take 1:=(app_snoc h).symm
theorem c_Some (m:MM) (hm:mOK m) {r c:Nat} (hr:r≤12) (hc:c≤12):CallOK Tryz.prog 63 [mQ m,iv r,iv c] [] (mA r c (someL m.2.2 (r*c))) [] []:=by
 obtain⟨A,B,l⟩:=m
 obtain⟨_,_,hl,hq⟩:=hm
 replace hl:l.length≤maxLen:=hl
 have hz:=someL_len l (r*c)
 have hN:r*c≤12*12:=Nat.mul_le_mul hr hc
 have t0:IntKind.i64.wrap ((r:Int)*(c:Int))=((r*c:Nat):Int):=by rw[←Int.natCast_mul,wrap_i64 (by omega) (by omega)]
 generalize r*c=N at*
 refine callF (Z:=[3]) tabOK mixedOK Tryz.func63 rfl (by kernel_rfl) (by first|rfl|(simp[keylessL,keyless,keylessL_map, *];done)) (by first|rfl|(simp[keylessL,keyless,keylessL_map, *];done)) (by kernel_rfl) rfl ?_
 intro w0 ρ0 hE
 conv=>whnf
 skip
 refine SWx_adoptB (j:=7) (k:=2001) (s:=5) (p:=2) (blk:=fblk []) rfl rfl rfl rfl rfl ?_
 refine SW_loopS hE (fun k=>k) [1,2,3,6,7,8] [6,7,2001] (fun m fr hp=>∃i:Nat,m=N - i∧i≤N∧fr=[(1,iv r),(2,iv c),(3,ptrA [iel .u8 A,iel .u8 B,mvec 2 qA l]),(6,.ptr 6 0 0 0),(7,.ptr 7 0 0 0),(8,iv (i:Nat))]∧
  hp=[(6,zM),(7,⟨38,true,.one [iv r,iv c,.slc 2001 5 0 i]⟩),(2001,fblk ((someL l N).take i))]) N ?_ ?_ ?_
 ·kernel_rfl
 ·exact⟨0,rfl,Nat.zero_le _,rfl,rfl⟩
 rintro m _ _ ⟨i,rfl,hi,rfl,rfl⟩
 have hlt0:((someL l N).take i).length=i:=by rw[List.length_take];omega
 by_cases hlt:i<N
 ·have t1:=dlt hlt
  have t2:=winc (i:=i) (by omega)
  have o1:=c_QOf (l.getD i (0,0)) (qOK_at hq i)
  rw[show qV (l.getD i (0,0))=(someL l N).getD i 0 from(someL_get hlt).symm]at o1
  have e1:=app_one (d:=(0:Rat)) (show i<(someL l N).length by omega)
  refine SWx.of hE ?_
  conv=>whnf
  by_cases hil:i<l.length
  ·have t3:=dlt hil
   (repeat((first|refine step_w1 rfl rfl ?_|refine step_i (by kernel_rfl) ?_|refine step_oA (by first|omega|decide|(simp only[tl0,dlen,List.length_replicate,List.length_set,List.length_map,List.length_zipWith,List.length_take,List.length_append,List.length_cons,List.length_nil];omega)) ?_|refine g_c (by assumption) ?_|refine g_o (op_lenM rfl rfl rfl (ev_ok rfl) (tgt rfl) rfl) ?_|refine g_o (op_loadA rfl (ev_ok rfl) (tgt rfl) rfl (Nat.succ_ne_zero _) rfl) ?_|refine g_o (op_indexN (α:=Int×Int) (d:=(0,0)) rfl (ev_ok rfl) (ev_ok rfl) (tgt rfl) rfl (tgt rfl) rfl (by omega)) ?_|refine g_o (op_fieldA rfl (ev_ok rfl) (tgt rfl) rfl rfl (Nat.succ_ne_zero _) rfl) ?_|rw[t0]|rw[t1]|rw[t3]|rw[t2]|rw[Nat.zero_add]);conv=>whnf))
   refine⟨N - (i+1),renBy [(36,2001)],[1,2,3,6,7,8],[6,7,36],by omega,by kernel_rfl,i+1,rfl,hlt,rfl, ?_⟩
   rw[e1];rfl
  ·have t3:=dge hil
   rw[show l.getD i (0,0)=(0,0)from by rw[List.getD_eq_getElem?_getD,List.getElem?_eq_none (by omega)];rfl]at o1
   (repeat((first|refine step_w1 rfl rfl ?_|refine step_w2 rfl rfl ?_|refine step_i (by kernel_rfl) ?_|refine step_oA (by first|omega|decide|(simp only[tl0,dlen,List.length_replicate,List.length_set,List.length_map,List.length_zipWith,List.length_take,List.length_append,List.length_cons,List.length_nil];omega)) ?_|refine g_c (by assumption) ?_|refine g_o (op_lenM rfl rfl rfl (ev_ok rfl) (tgt rfl) rfl) ?_|refine g_o (op_loadA rfl (ev_ok rfl) (tgt rfl) rfl (Nat.succ_ne_zero _) rfl) ?_|refine g_o (op_fieldA rfl (ev_ok rfl) (tgt rfl) rfl rfl (Nat.succ_ne_zero _) rfl) ?_|rw[t0]|rw[t1]|rw[t3]|rw[t2]|rw[Nat.zero_add]);conv=>whnf))
   refine⟨N - (i+1),renBy [(36,2001)],[1,2,3,6,7,8],[6,7,36],by omega,by kernel_rfl,i+1,rfl,hlt,rfl, ?_⟩
   rw[e1];rfl
 ·have t1:=dge hlt
  obtain rfl:i=N:=by omega
  rw[List.take_of_length_le (by omega)]
  refine SWx.of hE ?_
  conv=>whnf
  (repeat(first|(refine step_w2 rfl rfl ?_;conv=>whnf)|(rw[t0];conv=>whnf)|(rw[t1];conv=>whnf)))
  (first|exact Recast.refl _|exact Frz.recast (Recast.refl _) rfl|(refine Frz.one rfl rfl ?_;(repeat(first|exact FrzC.keyless rfl|exact FrzL.nil|refine FrzL.cons ?_ ?_|(refine FrzC.fracs rfl ?_;(first|rfl|omega|(simp<;>fail)|(simp<;>omega)))|refine FrzC.agg ?_)))|(refine Frz.tup ?_;skip))
theorem someL_zero {l:List (Int×Int)} {n i:Nat} (h:l.length≤i):someL l n=(someL l n).take i++List.replicate (n - i) 0:=by
 apply List.ext_getElem
 ·rw[List.length_append,List.length_take,someL_len,List.length_replicate];omega
 ·intro j h1 h2
  rw[someL_len]at h1
  rw[List.getElem_append]
  split
  ·simp
  ·rename_i h3
   rw[List.length_take,someL_len]at h3
   simp only[List.getElem_replicate,someL,List.getElem_map,List.getElem_range,eQ]
   rw[List.getD_eq_getElem?_getD,List.getElem?_eq_none (by omega)];decide+kernel
theorem c_vec (l:List (Int×Int)) (hl:l.length≤maxLen) (h:∀q∈l,qOK q) {n:Nat} (hn:n≤2048):CallOK Tryz.prog 75 [mvec 2 qA l,iv n] [] (fvec (someL l n)) [] []:=by
 have hz:=someL_len l n
 refine callF (Z:=[]) tabOK mixedOK Tryz.func75 rfl (by kernel_rfl) (by first|rfl|(simp[keylessL,keyless,keylessL_map, *];done)) (by first|rfl|(simp[keylessL,keyless,keylessL_map, *];done)) (by kernel_rfl) rfl ?_
 intro w0 ρ0 hE
 conv=>whnf
 (repeat(first|(refine step_oA (by first|omega|decide|(simp only[tl0,dlen,List.length_replicate,List.length_set,List.length_map,List.length_zipWith,List.length_take,List.length_append,List.length_cons,List.length_nil];omega)) ?_;conv=>whnf)|(rw[Int.toNat_natCast];conv=>whnf)))
 refine SW_loopN hE (fun k=>k) [0,1,5,6] [8] (fun m fr hp=>∃i:Nat,m=n - i∧i≤n∧fr=[(0,mvec 2 qA l),(1,iv n),(5,.slc 8 5 0 n),(6,iv (i:Nat))]∧hp=[(8,fblk ((someL l n).take i++List.replicate (n - i) 0))]) n ?_ ?_ ?_
 ·kernel_rfl
 ·exact⟨0,rfl,Nat.zero_le _,rfl,rfl⟩
 rintro m _ _ ⟨i,rfl,hi,rfl,rfl⟩
 have hlen:=fill_len (d:=(0:Rat)) hi hz
 conv=>whnf
 by_cases hlt:i<n
 ·have t1:=dlt hlt
  have t2:=winc (i:=i) (by omega)
  by_cases hil:i<l.length
  ·have t3:=dlt hil
   have o1:=c_QOf (l.getD i (0,0)) (qOK_at h i)
   rw[show qV (l.getD i (0,0))=(someL l n).getD i 0 from(someL_get hlt).symm]at o1
   (repeat((first|refine step_w1 rfl rfl ?_|refine step_oL (by first|omega|decide|(simp only[tl0,dlen,List.length_replicate,List.length_set,List.length_map,List.length_zipWith,List.length_take,List.length_append,List.length_cons,List.length_nil];omega)) ?_|refine step_oA (by first|omega|decide|(simp only[tl0,dlen,List.length_replicate,List.length_set,List.length_map,List.length_zipWith,List.length_take,List.length_append,List.length_cons,List.length_nil];omega)) ?_|refine g_c (by assumption) ?_|refine g_o (op_pickT rfl (ev_ok rfl) (ev_ok rfl)) ?_|refine g_o (op_lenM rfl rfl rfl (ev_ok rfl) (tgt rfl) rfl) ?_|refine g_o (op_loadA rfl (ev_ok rfl) (tgt rfl) rfl (Nat.succ_ne_zero _) rfl) ?_|refine g_o (op_indexN (α:=Int×Int) (d:=(0,0)) rfl (ev_ok rfl) (ev_ok rfl) (tgt rfl) rfl (tgt rfl) rfl (by omega)) ?_|rw[t1]|rw[t3]|rw[t2]|rw[Int.toNat_natCast]|rw[Nat.zero_add]);conv=>whnf))
   refine⟨n - (i+1),fun k=>k,[0,1,5,6],[8],by omega,by kernel_rfl,i+1,rfl,hlt,rfl, ?_⟩
   rw[fblk,←fill_set (e:=0) hlt hz]
   rfl
  ·have t3:=dge hil
   rw[←someL_zero (by omega)]at*
   (repeat((first|refine step_w1 rfl rfl ?_|refine step_w2 rfl rfl ?_|refine g_o (op_pickT rfl (ev_ok rfl) (ev_ok rfl)) ?_|refine g_o (op_lenM rfl rfl rfl (ev_ok rfl) (tgt rfl) rfl) ?_|rw[t1]|rw[t3]);conv=>whnf))
   (first|exact Recast.refl _|exact Frz.recast (Recast.refl _) rfl|(refine Frz.one rfl rfl ?_;(repeat(first|(refine FrzC.fracs rfl ?_;(first|rfl|omega|(simp<;>fail)|(simp<;>omega))))))|(refine Frz.tup ?_;skip))
 ·have t1:=dge hlt
  obtain rfl:i=n:=by omega
  rw[fill_all hz]at*
  (repeat(first|(refine step_w2 rfl rfl ?_;conv=>whnf)|(refine g_o (op_pickF rfl (ev_ok rfl) (ev_ok rfl)) ?_;conv=>whnf)|(rw[t1];conv=>whnf)))
  (first|exact Recast.refl _|exact Frz.recast (Recast.refl _) rfl|(refine Frz.one rfl rfl ?_;(repeat(first|(refine FrzC.fracs rfl ?_;(first|rfl|omega|(simp<;>fail)|(simp<;>omega))))))|(refine Frz.tup ?_;skip))
end Go.Proofs.YtfpagioknjjacaaGreatDoor
namespace Go.Proofs.YtfpagioknjjacaaGreatDoor
open Go.Sx
set_option linter.unusedSimpArgs false
set_option linter.unusedVariables false
set_option maxRecDepth 100000
set_option maxHeartbeats 4000000
def tdF:Nat→Nat→List Nat
 |0,_=>[]
 |f+1,n=>if n=0 then[]else n % 10000::tdF f (n/10000)
def tdW (n:Nat):List Nat:=tdF n n
theorem tdF_lt:∀(f n w:Nat),w∈tdF f n→w<10000
 |0,_,w,h=>by cases h
 |f+1,n,w,h=>by
  rw[tdF]at h
  split at h
  ·cases h
  ·rcases List.mem_cons.1 h with rfl|h
   ·omega
   ·exact tdF_lt f _ w h
theorem tdW_lt {n w:Nat} (h:w∈tdW n):w<10000:=tdF_lt n n w h
def valT (xs:List Int):Nat→Int
 |0=>0
 |k+1=>valT xs k+xs.getD k 0*10000^k
def W4 (xs:List Int):Prop:=∀i,0≤xs.getD i 0∧xs.getD i 0<10000
theorem W4.set {xs:List Int} (h:W4 xs) {i:Nat} {v:Int} (h0:0≤v) (h1:v<10000):W4 (xs.set i v):=by
 intro j
 rw[getD_set]
 split
 ·exact⟨h0,h1⟩
 ·exact h j
theorem W4_of {xs:List Int} (h:∀x∈xs,0≤x∧x<10000):W4 xs:=by
 intro i
 rw[List.getD_eq_getElem?_getD]
 cases hx:xs[i]? with
 |none=>simp
 |some v=>simpa using h v (List.mem_of_getElem? hx)
theorem W4.mem {xs:List Int} (h:W4 xs):∀x∈xs,0≤x∧x<10000:=by
 intro x hx
 obtain⟨i,hi⟩:=List.getElem?_of_mem hx
 have:=h i
 rw[List.getD_eq_getElem?_getD,hi]at this
 exact this
theorem valT_congr {xs ys:List Int}:∀{k:Nat},(∀i,i<k→xs.getD i 0=ys.getD i 0)→valT xs k=valT ys k
 |0,_=>rfl
 |k+1,h=>by rw[valT,valT,valT_congr (fun i hi=>h i (by omega)),h k (by omega)]
theorem valT_set_ge {xs:List Int} {i k:Nat} {v:Int} (h:k≤i):valT (xs.set i v) k=valT xs k:=
 valT_congr fun j hj=>by rw[getD_set,if_neg (by omega)]
theorem valT_nonneg {xs:List Int} (h:W4 xs):∀k,0≤valT xs k
 |0=>Int.le_refl _
 |k+1=>by
  have:=valT_nonneg h k
  have h1:0≤xs.getD k 0*10000^k:=Int.mul_nonneg (h k).1 (Int.pow_nonneg (by decide))
  rw[valT];omega
theorem powT_pos (k:Nat):(0:Int)<10000^k:=Int.pow_pos (by decide)
theorem valT_lt {xs:List Int} (h:W4 xs):∀k,valT xs k<10000^k
 |0=>by simp[valT]
 |k+1=>by
  have h1:=valT_lt h k
  have h2:xs.getD k 0*10000^k≤9999*10000^k:=Int.mul_le_mul_of_nonneg_right (by have:=(h k).2;omega) (Int.le_of_lt (powT_pos k))
  rw[valT,Int.pow_succ];omega
theorem valT_zeros {xs:List Int} {k:Nat}:∀{n:Nat},(∀i,k≤i→i<n→xs.getD i 0=0)→k≤n→valT xs n=valT xs k
 |0,_,hk=>by obtain rfl:k=0:=by omega
             rfl
 |n+1,h,hk=>by
  by_cases he:k=n+1
  ·subst he;rfl
  ·rw[valT,h n (by omega) (by omega),valT_zeros (n:=n) (fun i h1 h2=>h i h1 (by omega)) (by omega),Int.zero_mul,Int.add_zero]
theorem valT_ge {xs:List Int} (h:W4 xs) {k:Nat} (ht:xs.getD k 0≠0):10000^k≤valT xs (k+1):=by
 have h1:=valT_nonneg h k
 have h2:1*10000^k≤xs.getD k 0*10000^k:=Int.mul_le_mul_of_nonneg_right (by have:=(h k).1;omega) (Int.le_of_lt (powT_pos k))
 rw[valT];omega
theorem tdF_eq:∀(f g n:Nat),n≤f→n≤g→tdF f n=tdF g n
 |0,0,_,_,_=>rfl
 |0,g+1,n,h,_=>by obtain rfl:n=0:=by omega
                  simp[tdF]
 |f+1,0,n,_,h=>by obtain rfl:n=0:=by omega
                  simp[tdF]
 |f+1,g+1,n,h,h'=>by
  unfold tdF
  split
  ·rfl
  ·rw[tdF_eq f g (n/10000) (by omega) (by omega)]
theorem tdW_succ {n:Nat} (h:n≠0):tdW n=n % 10000::tdW (n/10000):=by
 unfold tdW
 obtain⟨m,rfl⟩:∃m,n=m+1:=⟨n - 1,by omega⟩
 rw[tdF,if_neg h,tdF_eq m ((m+1)/10000) _ (by omega) (Nat.le_refl _)]
def td (n:Nat):List Int:=(tdW n).map Int.ofNat
theorem td_zero:td 0=[]:=rfl
theorem td_succ {n:Nat} (h:n≠0):td n=((n % 10000:Nat):Int)::td (n/10000):=by
 rw[td,tdW_succ h];rfl
theorem valT_cons (x:Int) (xs:List Int):∀k,valT (x::xs) (k+1)=x+10000*valT xs k
 |0=>by simp[valT]
 |k+1=>by
  rw[valT,valT_cons x xs k,valT,List.getD_cons_succ,Int.pow_succ]
  grind
theorem td_val (n:Nat):valT (td n) (td n).length=n:=by
 induction n using Nat.strongRecOn with
 |_ n ih=>
  by_cases h:n=0
  ·subst h;rfl
  ·rw[td_succ h,List.length_cons,valT_cons,ih _ (by omega)];omega
theorem td_w32 (n:Nat):W4 (td n):=by
 refine W4_of fun x hx=> ?_
 obtain⟨w,hw,rfl⟩:=List.mem_map.1 hx
 have:=tdW_lt hw
 exact⟨Int.natCast_nonneg _,by show(w:Int)<_;omega⟩
theorem td_top {n:Nat} (h:n≠0):(td n).length≠0∧(td n).getD ((td n).length - 1) 0≠0:=by
 induction n using Nat.strongRecOn with
 |_ n ih=>
  rw[td_succ h]
  refine⟨by simp, ?_⟩
  by_cases h1:n/10000=0
  ·rw[h1,td_zero]
   simp only[List.length_singleton,Nat.sub_self,List.getD_cons_zero]
   omega
  ·obtain⟨h2,h3⟩:=ih _ (by omega) h1
   obtain⟨l,hl⟩:∃l,(td (n/10000)).length=l+1:=⟨(td (n/10000)).length - 1,by omega⟩
   simp only[List.length_cons,hl,Nat.add_sub_cancel,List.getD_cons_succ]
   rw[hl]at h3
   simpa using h3
theorem td_of:∀(k:Nat) (xs:List Int),W4 xs→k≤xs.length→(k=0∨xs.getD (k - 1) 0≠0)→td (valT xs k).toNat=xs.take k
 |0,xs,_,_,_=>by simp[valT,td_zero]
 |k+1,[],_,h,_=>by simp at h
 |k+1,x::xs,hw,h,ht=>by
  have hx:=hw 0
  simp only[List.getD_cons_zero]at hx
  have hws:W4 xs:=fun i=>by have:=hw (i+1);simpa using this
  have hv:=valT_nonneg hws k
  have hrec:=td_of k xs hws (by simpa using h) (by
   cases k with
   |zero=>exact .inl rfl
   |succ k=>right;have:=ht.resolve_left (by omega);simpa using this)
  have hn:(valT (x::xs) (k+1)).toNat≠0:=by
   have ht':=ht.resolve_left (by omega)
   have:=valT_ge hw (k:=k) (by simpa using ht')
   have:=powT_pos k
   omega
  rw[td_succ hn,valT_cons,List.take_succ_cons]
  have e1:(x+10000*valT xs k).toNat % 10000=x.toNat:=by omega
  have e2:(x+10000*valT xs k).toNat/10000=(valT xs k).toNat:=by omega
  rw[e1,e2,hrec]
  congr 1
  omega
theorem natPowT (k:Nat):(((10000^k:Nat)):Int)=(10000:Int)^k:=by rw[Int.natCast_pow];rfl
theorem tlen_le {n k:Nat} (h:n<10000^k):(td n).length≤k:=by
 by_cases hn:n=0
 ·subst hn;simp[td_zero]
 ·obtain⟨h1,h2⟩:=td_top hn
  obtain⟨l,hl⟩:∃l,(td n).length=l+1:=⟨(td n).length - 1,by omega⟩
  rw[hl]at h2
  have h3:=valT_ge (td_w32 n) (k:=l) (by simpa using h2)
  rw[←hl,td_val]at h3
  refine Nat.le_of_not_lt fun hlt=> ?_
  have h4:(10000:Int)^k≤10000^l:=by
   have:(10000:Nat)^k≤10000^l:=Nat.pow_le_pow_right (by decide) (by omega)
   rw[←natPowT,←natPowT];exact Int.ofNat_le.2 this
  have h5:(n:Int)<10000^k:=by rw[←natPowT];exact Int.ofNat_lt.2 h
  omega
theorem tlt_len (n:Nat):n<10000^(td n).length:=by
 have:=valT_lt (td_w32 n) (td n).length
 rw[td_val,←natPowT]at this
 exact Int.ofNat_lt.1 this
theorem valT_mod {xs:List Int} (hx:W4 xs) {n:Nat}:∀{k:Nat},k≤n→valT xs n % 10000^k=valT xs k:=by
 intro k hk
 induction n with
 |zero=>
  obtain rfl:k=0:=by omega
  simp[valT]
 |succ n ih=>
  by_cases he:k=n+1
  ·subst he
   exact Int.emod_eq_of_lt (valT_nonneg hx _) (valT_lt hx _)
  ·rw[valT,show n=k+(n - k)from by omega,Int.pow_add,←show n=k+(n - k)from by omega,Int.mul_left_comm,Int.add_mul_emod_self_left]
   exact ih (by omega)
theorem valT_div {xs:List Int} (hx:W4 xs) {i n:Nat} (h:i<n):valT xs n/10000^i % 10000=xs.getD i 0:=by
 have h1:=valT_mod hx (n:=n) (k:=i+1) (by omega)
 have hp:=powT_pos i
 have e:valT xs n=valT xs (i+1)+10000^(i+1)*(valT xs n/10000^(i+1)):=by
  rw[←h1];exact(Int.emod_add_mul_ediv _ _).symm
 have h0:=valT_nonneg hx i
 have hl:=valT_lt hx i
 have e2:valT xs n=valT xs i+10000^i*(xs.getD i 0+10000*(valT xs n/10000^(i+1))):=by
  conv=>lhs;rw[e]
  rw[valT,Int.pow_succ]
  grind
 rw[e2,Int.add_mul_ediv_left _ _ (by omega),Int.ediv_eq_zero_of_lt h0 hl,Int.zero_add,Int.add_mul_emod_self_left]
 exact Int.emod_eq_of_lt (hx i).1 (hx i).2
theorem valT_set {xs:List Int} {i:Nat} {v:Int}:∀{n:Nat},i<n→i<xs.length→valT (xs.set i v) n=valT xs n+(v - xs.getD i 0)*10000^i
 |0,h,_=>by omega
 |n+1,h,hl=>by
  by_cases he:i=n
  ·subst he
   rw[valT,valT,valT_set_ge (Nat.le_refl _),getD_set,if_pos ⟨rfl,hl⟩];grind
  ·rw[valT,valT,valT_set (n:=n) (by omega) hl,getD_set,if_neg (by omega)];grind
abbrev nN (n:Nat):SV:=ivec .i64 (td n)
theorem td_is {x:List Int} (hw:W4 x) (h:x.length=0∨x.getD (x.length - 1) 0≠0):td (valT x x.length).toNat=x:=by
 rw[td_of x.length x hw (Nat.le_refl _) h,List.take_length]
theorem td_valN (n k:Nat) (h:(td n).length≤k):valT (td n) k=n:=by
 rw[valT_zeros (k:=(td n).length) (fun i h1 _=>getD_ge h1) h,td_val]
theorem valT_take {x:List Int} {k j:Nat} (h:j≤k):valT (x.take k) j=valT x j:=valT_congr fun i hi=>by rw[getD_take,if_pos (by omega)]
theorem W4_take {x:List Int} (h:W4 x) (k:Nat):W4 (x.take k):=by
 intro i;rw[getD_take];split
 ·exact h i
 ·omega
theorem valT_last {x:List Int} (h0:0<x.length) (hz:x.getD (x.length - 1) 0=0):valT (x.take (x.length - 1)) (x.take (x.length - 1)).length=valT x x.length:=by
 have hl:(x.take (x.length - 1)).length=x.length - 1:=by simp
 rw[hl,valT_take (Nat.le_refl _)]
 exact(valT_zeros (k:=x.length - 1) (n:=x.length) (fun i h1 h2=>by
  have:i=x.length - 1:=by omega
  rw[this];exact hz) (by omega)).symm
theorem W4_snoc {x:List Int} (h:W4 x) {d:Int} (h0:0≤d) (h1:d<10000):W4 (x++[d]):=W4_of fun y hy=>by
 rcases List.mem_append.1 hy with hy|hy
 ·exact h.mem y hy
 ·rw[List.mem_singleton.1 hy];exact⟨h0,h1⟩
theorem valT_snoc (x:List Int) (d:Int):valT (x++[d]) (x.length+1)=valT x x.length+d*10000^x.length:=by
 rw[valT,getD_append,if_neg (by omega),Nat.sub_self,valT_congr (ys:=x) (k:=x.length) (fun i hi=>by rw[getD_append,if_pos hi])]
 rfl
theorem td_lt_pow {n k:Nat} (h:(td n).length≤k):n<10000^k:=Nat.lt_of_lt_of_le (tlt_len n) (Nat.pow_le_pow_right (by decide) h)
theorem td_ge_pow {n:Nat} (h:n≠0):10000^((td n).length - 1)≤n:=by
 obtain⟨h1,h2⟩:=td_top h
 have h3:=valT_ge (td_w32 n) h2
 rw[show(td n).length - 1+1=(td n).length by omega,td_val,←natPowT]at h3
 omega
theorem td_len_mono {a b:Nat} (h:a≤b):(td a).length≤(td b).length:=tlen_le (Nat.lt_of_le_of_lt h (tlt_len b))
theorem td_len_lt {a b:Nat} (h:(td a).length<(td b).length):a<b:=by
 rcases Nat.lt_or_ge a b with g|g
 ·exact g
 ·have:=td_len_mono g;omega
theorem td_len_zero {n:Nat}:(td n).length=0↔n=0:=by
 constructor
 ·intro h
  rcases Nat.eq_zero_or_pos n with g|g
  ·exact g
  ·exact absurd h (td_top (by omega)).1
 ·rintro rfl;rfl
theorem td_get (n i:Nat):(td n).getD i 0=((n/10000^i % 10000:Nat):Int):=by
 have h:=td_w32 n
 rcases Nat.lt_or_ge i (td n).length with hi|hi
 ·rw[←valT_div h hi,td_val,Int.natCast_emod,Int.natCast_ediv,natPowT];rfl
 ·rw[getD_ge hi,Nat.div_eq_of_lt (td_lt_pow hi)];rfl
end Go.Proofs.YtfpagioknjjacaaGreatDoor
namespace Go.Proofs.YtfpagioknjjacaaGreatDoor
open Go.Sx
set_option linter.unusedSimpArgs false
set_option linter.unusedVariables false
set_option maxRecDepth 100000
set_option maxHeartbeats 4000000
theorem SWx_frzI {E:Env} (t k:Nat) {c:Code} {K:Post'} {fr:List (Nat×SV)} {hp:List (Nat×Blk)} {ty:TypeId} {n:Nat} {kd:IntKind} {xs:List Int} (hW:∀b,¬E.W0 b) (ht:lk fr t=some (.slc k 1 0 n)) (hk:find hp k=some ⟨ty,true,.ints kd xs⟩)
  (hn:n=xs.length) (hs:SWx E c K ((t,ivec kd xs)::fr) (setB hp k ⟨ty,true,.dead⟩)):SWx E c K fr hp:=by
 refine SWx_freeze t k (xs:=xs.map (iel kd)) hW ht hk rfl rfl (keylessL_map (fun _=>rfl) xs) (by simp;omega) ?_
 rw[cutL_all (by simp;omega)]
 exact hs
theorem snoc_end {L:List Int} {i:Nat} {d:Int} (h:L.length=i):List.take i L++List.take 1 (List.drop 0 [d])=L++[d]:=by
 rw[List.take_of_length_le (by omega)];rfl
abbrev zblk (l:List Int):Blk:=⟨3,true,.ints .i64 l⟩
theorem r_trim (l:List Int) (hl:l.length<1099511627776) (h:W4 l):CallOK Tryz.prog 326 [ivec .i64 l] [] (nN (valT l l.length).toNat) [] []:=by
 refine callV (Z:=[]) tabOK mixedOK Tryz.func326 rfl (by kernel_rfl) rfl rfl (by kernel_rfl) rfl ?_
 intro W0 w0 ρ0 hE
 conv=>whnf
 skip
 refine SW_loopN hE (fun k=>k) [0] [] (fun m fr hp=>∃x:List Int,m=x.length∧x.length≤l.length∧W4 x∧valT x x.length=valT l l.length∧fr=[(0,ivec .i64 x)]∧hp=[]) l.length ?_ ?_ ?_
 ·kernel_rfl
 ·exact⟨l,rfl,Nat.le_refl _,h,rfl,rfl,rfl⟩
 rintro m _ _ ⟨x,rfl,hx,hw,hv,rfl,rfl⟩
 conv=>whnf
 by_cases h0:0<x.length
 ·have t1:decide ((x.length:Int)>0)=true:=decide_eq_true (by omega)
  have e1:IntKind.i64.wrap ((x.length:Int) - 1)=((x.length - 1:Nat):Int):=by rw[wrap_i64 (by omega) (by omega)];omega
  by_cases hz:x.getD (x.length - 1) 0=0
  ·have t2:(x.getD (x.length - 1) 0==0)=true:=beq_iff_eq.2 hz
   (repeat((first|refine step_w1 rfl rfl ?_|refine g_o (op_pickT rfl (ev_ok rfl) (ev_ok rfl)) ?_|refine g_o (op_lenM rfl rfl rfl (ev_ok rfl) (tgt rfl) rfl) ?_|refine g_o (op_loadA rfl (ev_ok rfl) (tgt rfl) rfl (Nat.succ_ne_zero _) rfl) ?_|refine g_o (op_indexM (α:=Int) (d:=0) rfl (ev_ok rfl) (ev_ok rfl) (tgt rfl) rfl (tgt rfl) rfl (by omega)) ?_|refine g_o (op_sliceM rfl (ev_ok rfl) (bound_spec rfl) (bound_spec rfl) (.inl rfl) (tgt rfl) rfl (tgt rfl) rfl (by omega)) ?_|rw[t1]|rw[e1]|rw[t2]|rw[Int.toNat_natCast]);conv=>whnf))
   have hl':(x.take (x.length - 1)).length=x.length - 1:=by simp
   exact⟨x.length - 1,fun k=>k,[0],[],by omega,by kernel_rfl,x.take (x.length - 1),hl'.symm,by omega,W4_take hw _,(valT_last h0 hz).trans hv,rfl,rfl⟩
  ·have t2:(x.getD (x.length - 1) 0==0)=false:=beq_false_of_ne hz
   have e:nN (valT l l.length).toNat=ivec .i64 x:=by rw[nN,←hv,td_is hw (.inr hz)]
   rw[e]
   (repeat((first|refine step_w1 rfl rfl ?_|refine step_w2 rfl rfl ?_|refine g_o (op_pickT rfl (ev_ok rfl) (ev_ok rfl)) ?_|refine g_o (op_lenM rfl rfl rfl (ev_ok rfl) (tgt rfl) rfl) ?_|refine g_o (op_loadA rfl (ev_ok rfl) (tgt rfl) rfl (Nat.succ_ne_zero _) rfl) ?_|refine g_o (op_indexM (α:=Int) (d:=0) rfl (ev_ok rfl) (ev_ok rfl) (tgt rfl) rfl (tgt rfl) rfl (by omega)) ?_|rw[t1]|rw[e1]|rw[t2]|rw[Int.toNat_natCast]);conv=>whnf));(first|exact Recast.refl _|exact Frz.recast (Recast.refl _) rfl|(refine Frz.one rfl rfl ?_;skip)|(refine Frz.tup ?_;skip))
 ·have t1:decide ((x.length:Int)>0)=false:=decide_eq_false (by omega)
  have e:nN (valT l l.length).toNat=ivec .i64 x:=by rw[nN,←hv,td_is hw (.inl (by omega))]
  rw[e]
  (repeat((first|refine step_w2 rfl rfl ?_|refine g_o (op_pickF rfl (ev_ok rfl) (ev_ok rfl)) ?_|refine g_o (op_lenM rfl rfl rfl (ev_ok rfl) (tgt rfl) rfl) ?_|rw[t1]);conv=>whnf));(first|exact Recast.refl _|exact Frz.recast (Recast.refl _) rfl|(refine Frz.one rfl rfl ?_;skip)|(refine Frz.tup ?_;skip))
theorem r_Of (n:Nat) (hn:n<18446744073709551616):CallOK Tryz.prog 327 [.val (.int .u64 (n:Nat))] [] (nN n) [] []:=by
 refine callF (Z:=[]) tabOK mixedOK Tryz.func327 rfl (by kernel_rfl) (by first|rfl|(simp[keylessL,keyless,keylessL_map, *];done)) (by first|rfl|(simp[keylessL,keyless,keylessL_map, *];done)) (by kernel_rfl) rfl ?_
 intro w0 ρ0 hE
 conv=>whnf
 skip
 refine SWx_adopt (t:=3) (k:=2001) (s:=1) (blk:=zblk []) rfl rfl rfl ?_
 refine SW_loopS hE (fun k=>k) [0,3] [2001] (fun m fr hp=>∃(v:Nat) (L:List Int),m=v∧v≤n∧td n=L++td v∧L.length≤n∧L.length+v≤n∧fr=[(0,.val (.int .u64 (v:Nat))),(3,.slc 2001 1 0 L.length)]∧hp=[(2001,zblk L)]) n ?_ ?_ ?_
 ·kernel_rfl
 ·exact⟨n,[],rfl,Nat.le_refl _,rfl,Nat.zero_le _,by simp,rfl,rfl⟩
 rintro m _ _ ⟨v,L,rfl,hv,hL,hl,hl2,rfl,rfl⟩
 by_cases h0:0<m
 ·have hlen:L.length<1099511627776:=by
   have:=congrArg List.length hL
   rw[List.length_append]at this
   have h5:(td n).length≤5:=tlen_le (by omega)
   omega
  have t1:decide ((m:Int)>0)=true:=decide_eq_true (by omega)
  have e0:(m:Int).tmod 10000=((m % 10000:Nat):Int):=by rw[Int.tmod_eq_emod_of_nonneg (by omega)];omega
  have e1:IntKind.i64.wrap ((m:Int).tmod 10000)=((m % 10000:Nat):Int):=by rw[e0,wrap_i64 (by omega) (by omega)]
  have e2:(m:Int).tdiv 10000=((m/10000:Nat):Int):=by rw[Int.tdiv_eq_ediv_of_nonneg (by omega)];omega
  have e3:IntKind.u64.wrap ((m:Int).tdiv 10000)=((m/10000:Nat):Int):=by rw[e2,wrap_u64 (by omega) (by omega)]
  refine SWx.of hE ?_
  conv=>whnf
  (repeat((first|refine step_w1 rfl rfl ?_|refine And.intro (by first|decide|omega|(simp only[tl0,dlen,List.length_replicate,List.length_set,List.length_map,List.length_zipWith,List.length_take,List.length_append,List.length_cons,List.length_nil];omega)) ?_|rw[t1]|rw[e1]|rw[e3]);conv=>whnf))
  refine⟨m/10000,renBy [(11,2001)],[0,3],[11],Nat.div_lt_self h0 (by decide),by kernel_rfl,m/10000,L++[((m % 10000:Nat):Int)],rfl,by omega, ?_, ?_, ?_, ?_, ?_⟩
  ·rw[hL,td_succ (by omega),List.append_assoc];rfl
  ·rw[List.length_append];simp;omega
  ·rw[List.length_append];simp;omega
  ·rw[List.length_append];rfl
  ·rw[←snoc_end rfl];rfl
 ·have t1:decide ((m:Int)>0)=false:=decide_eq_false (by omega)
  have hm:m=0:=by omega
  subst hm
  rw[td_zero,List.append_nil]at hL
  refine SWx_frzI 3 2001 (fun _ h=>h) rfl rfl rfl ?_
  refine SWx.of hE ?_
  conv=>whnf
  have e:nN n=ivec .i64 L:=by rw[nN,hL]
  rw[e]
  (repeat(first|(refine step_w2 rfl rfl ?_;conv=>whnf)));(first|exact Recast.refl _|exact Frz.recast (Recast.refl _) rfl|(refine Frz.one rfl rfl ?_;skip)|(refine Frz.tup ?_;skip))
theorem r_at (n i:Nat) (hn:(td n).length<1099511627776):CallOK Tryz.prog 325 [nN n,.val (.int .i64 (i:Nat))] [] (.val (.int .i64 ((td n).getD i 0))) [] []:=by
 refine callV (Z:=[]) tabOK mixedOK Tryz.func325 rfl (by kernel_rfl) rfl rfl (by kernel_rfl) rfl ?_
 intro W0 w0 ρ0 hE
 conv=>whnf
 by_cases h:i<(td n).length
 ·have t1:decide ((i:Int)<((td n).length:Int))=true:=decide_eq_true (by omega)
  (repeat((first|refine step_w1 rfl rfl ?_|refine g_o (op_lenM rfl rfl rfl (ev_ok rfl) (tgt rfl) rfl) ?_|refine g_o (op_loadA rfl (ev_ok rfl) (tgt rfl) rfl (Nat.succ_ne_zero _) rfl) ?_|refine g_o (op_indexN (α:=Int) (d:=0) rfl (ev_ok rfl) (ev_ok rfl) (tgt rfl) rfl (tgt rfl) rfl (by omega)) ?_|rw[t1]);conv=>whnf));(first|exact Recast.refl _|exact Frz.recast (Recast.refl _) rfl|(refine Frz.one rfl rfl ?_;skip)|(refine Frz.tup ?_;skip))
 ·have t1:decide ((i:Int)<((td n).length:Int))=false:=decide_eq_false (by omega)
  rw[getD_ge (by omega)]
  (repeat(first|(refine step_w2 rfl rfl ?_;conv=>whnf)|(refine g_o (op_lenM rfl rfl rfl (ev_ok rfl) (tgt rfl) rfl) ?_;conv=>whnf)|(rw[t1];conv=>whnf)));(first|exact Recast.refl _|exact Frz.recast (Recast.refl _) rfl|(refine Frz.one rfl rfl ?_;skip)|(refine Frz.tup ?_;skip))
end Go.Proofs.YtfpagioknjjacaaGreatDoor
