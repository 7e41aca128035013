/- The texts Ek, Ga, Pa, Hd, Ja, Ka, Kb, Kc, Kg, Kf, Ra, Km, Qa, Qb, Qc, Qd, Na, Nb, Nc, Nd, Ne, Nf. -/
import Derived.Test.YtbopchpncgdaaaaGreatDoorQsA4
namespace Go.Proofs.YtbopchpncgdaaaaGreatDoor
open Go.Sx
set_option linter.unusedSimpArgs false
set_option linter.unusedVariables false
set_option maxRecDepth 100000
set_option maxHeartbeats 8000000
theorem c_Div (a b:Nat) (ha:(wInts a).length<274877906944) (hb:(wInts b).length<274877906944) (h0:b≠0):
  CallOK Tryz.prog 122 [.nat a,.nat b] [] (.tup [.nat (a/b),.nat (a % b),.val (.bool true)]) [] []:=by
 by_cases hs:a<18446744073709551616∧b<18446744073709551616
 ·exact s_Div a b hs.1 hs.2 h0
 have kz:=c_nZero b
 rw[decide_eq_false h0]at kz
 have kc:=c_Cmp a b (by omega) (by omega)
 have kb:=c_words b 1002 (by omega)
 have ka:=c_words a 1001 (by omega)
 by_cases hlt:a<b
 ·have t1:Hid (decide (((a:Int) - b).sign<0)=true):=show decide (((a:Int) - b).sign<0)=true from decide_eq_true (Int.sign_neg_iff.2 (by omega))
  rw[Nat.div_eq_of_lt hlt,Nat.mod_eq_of_lt hlt]
  refine callV (Z:=[]) tabOK mixedOK Tryz.func122 rfl (by kernel_rfl) rfl rfl (by kernel_rfl) rfl ?_
  intro W0 w0 ρ0 hE
  conv=>whnf
  (repeat((first|refine step_w1 rfl rfl ?_|refine step_w2 rfl rfl ?_|refine step_i (by kernel_rfl) ?_|refine g_c (by assumption) ?_|rw[t1.out]);conv=>whnf));exact Recast.refl _
 have t1:Hid (decide (((a:Int) - b).sign<0)=false):=show decide (((a:Int) - b).sign<0)=false from decide_eq_false (by have:=Int.sign_nonneg_iff.2 (show 0≤(a:Int) - b by omega);omega)
 have hbig:¬a<18446744073709551616:=by omega
 have hlen:(wInts b).length≤(wInts a).length:=len_le_of (Nat.lt_of_le_of_lt (Nat.le_of_not_lt hlt) (lt_of_len a))
 have hA:wArr a=wInts a:=if_neg hbig
 rw[hA]at ka
 have htop:=wt_top b
 have hb0:(wInts b).length≠0:=(wInts_top h0).1
 have hval:=wInts_val a
 have hvb:=wArr_val b
 have hbl:=wArr_len b
 have hbl2:(wArr b).length<549755813888:=by
  have:=wArr_len2 b (M:=274877906944) (by omega) (by omega)
  omega
 by_cases hone:(wInts b).length=1
 ·rw[hone]at kb hvb htop
  obtain⟨y,hy⟩:=Int.eq_ofNat_of_zero_le (wArr_w32 b 0).1
  have hy2:=(wArr_w32 b 0).2
  have hyb:y=b:=by
   rw[valI,valI,Int.pow_zero,hy]at hvb
   omega
  subst hyb
  have ks:=c_short (wInts a) (wInts a).length (Nat.le_refl _) (by omega) (wInts_w32 a) y h0 (by omega) 1001 2001 (by decide) true a hval
  have hq:(valI (digs (a/y) (wInts a).length) (wInts a).length).toNat=a/y:=by
   rw[valI_digs,Nat.mod_eq_of_lt (Nat.lt_of_le_of_lt (Nat.div_le_self _ _) (lt_of_len a))];exact Int.toNat_natCast _
  have ko:=c_of (digs (a/y) (wInts a).length) (wInts a).length (by rw[digs_len];exact Nat.le_refl _) (by rw[digs_len];omega) (digs_w32 _ _) 2001 true
  rw[hq]at ko
  have hr:a % y<y:=Nat.mod_lt _ (by omega)
  have i1:Hid (IntKind.u64.wrap ((a % y:Nat):Int)=((a % y:Nat):Int)):=show IntKind.u64.wrap ((a % y:Nat):Int)=((a % y:Nat):Int)from wu64 (by omega)
  have i2:Hid ((wArr y).getD (0+Int.toNat 0) 0=(y:Int)):=show(wArr y).getD (0+Int.toNat 0) 0=(y:Int)from hy
  refine callV (Z:=[]) tabOK mixedOK Tryz.func122 rfl (by kernel_rfl) rfl rfl (by kernel_rfl) rfl ?_
  intro W0 w0 ρ0 hE
  conv=>whnf
  (repeat(first|(refine step_w2 rfl rfl ?_;conv=>whnf)|(refine g_c (by assumption) ?_;conv=>whnf)|(rw[t1.out];conv=>whnf)))
  rw[big_eq,decide_eq_false hbig]
  (repeat((first|refine step_w1 rfl rfl ?_|refine step_w2 rfl rfl ?_|refine step_i (by kernel_rfl) ?_|refine step_oL (by first|omega|decide|(simp only[tl0,dlen,List.length_replicate,List.length_set,List.length_map,List.length_zipWith,List.length_take,List.length_append,List.length_cons,List.length_nil];omega)) ?_|refine step_oA (by first|omega|decide|(simp only[tl0,dlen,List.length_replicate,List.length_set,List.length_map,List.length_zipWith,List.length_take,List.length_append,List.length_cons,List.length_nil];omega)) ?_|refine g_cn (by assumption) rfl ?_|refine g_c1 (by assumption) rfl ?_|refine g_c1n (by assumption) rfl rfl ?_|rw[i2.out]|rw[i1.out]);conv=>whnf))
  refine recast_tup3 (fun _ _ h=>h) rfl (hasC_nat ?_ rfl (by omega)) rfl (fun _ _ h=>h) rfl
  rfl
 ·have hn2:2≤(wInts b).length:=by omega
  have htop':(wArr b).getD ((wInts b).length - 1) 0≠0:=htop.resolve_left hb0
  have hbg:4294967296^((wInts b).length - 1)≤b:=by
   have:=valI_ge (wArr_w32 b) htop'
   rw[show(wInts b).length - 1+1=(wInts b).length from by omega,hvb,←natPowW]at this
   omega
  have hqb:a/b<4294967296^((wInts a).length+1 - (wInts b).length):=by
   refine Nat.div_lt_of_lt_mul (Nat.lt_of_lt_of_le (lt_of_len a) ?_)
   have e:4294967296^(wInts a).length=4294967296^((wInts b).length - 1)*4294967296^((wInts a).length+1 - (wInts b).length):=by rw[←Nat.pow_add];congr 1;omega
   rw[e]
   exact Nat.mul_le_mul_right _ hbg
  have hrb:a % b<4294967296^((wInts a).length+1):=Nat.lt_of_le_of_lt (Nat.mod_le _ _) (Nat.lt_of_lt_of_le (lt_of_len a) (Nat.pow_le_pow_right (by decide) (by omega)))
  have kl:=CallOK.anyWr (c_long (wInts a) (wArr b) (wInts a).length (wInts b).length a b (Nat.le_refl _) hbl (by omega) hbl2 (wInts_w32 a) (wArr_w32 b) hval hvb hn2 htop' hlen 1001 1002 2001 2002 (by decide) (by decide) (by decide)) (fk:=[(1001,⟨87,true,.ints .u32 (wInts a)⟩),(1002,⟨87,true,.ints .u32 (wArr b)⟩)])
  have ko1:=c_of (digs (a/b) ((wInts a).length+1 - (wInts b).length)) ((wInts a).length+1 - (wInts b).length) (by rw[digs_len];exact Nat.le_refl _) (by rw[digs_len];omega) (digs_w32 _ _) 2001 true
  have ko2:=c_of (digs (a % b) ((wInts a).length+1)) ((wInts a).length+1) (by rw[digs_len];exact Nat.le_refl _) (by rw[digs_len];omega) (digs_w32 _ _) 2002 true
  rw[valI_digs,Nat.mod_eq_of_lt hqb,Int.toNat_natCast]at ko1
  rw[valI_digs,Nat.mod_eq_of_lt hrb,Int.toNat_natCast]at ko2
  have t2:Hid ((((wInts b).length:Int)==1)=false):=show(((wInts b).length:Int)==1)=false from by simp;omega
  have t3:Hid (decide (((wInts b).length:Int)=1)=false):=show decide (((wInts b).length:Int)=1)=false from by simp;omega
  refine callV (Z:=[]) tabOK mixedOK Tryz.func122 rfl (by kernel_rfl) rfl rfl (by kernel_rfl) rfl ?_
  intro W0 w0 ρ0 hE
  conv=>whnf
  (repeat(first|(refine step_w2 rfl rfl ?_;conv=>whnf)|(refine g_c (by assumption) ?_;conv=>whnf)|(rw[t1.out];conv=>whnf)))
  rw[big_eq,decide_eq_false hbig]
  (repeat((first|refine step_w2 rfl rfl ?_|refine g_cn (by assumption) rfl ?_|refine g_c1 (by assumption) rfl ?_|refine⟨[_,_],_,[_,_],[],(by assumption),two_fk rfl rfl,two_new rfl rfl,nil_upd, ?_⟩|rw[t2.out]);conv=>whnf))
  exact Recast.refl _
theorem c_Gcd (a b:Nat) (ha:(wInts a).length<274877906944) (hb:(wInts b).length<274877906944):
  CallOK Tryz.prog 51 [.nat a,.nat b] [] (.nat (Nat.gcd a b)) [] []:=by
 refine callV (Z:=[]) tabOK mixedOK Tryz.func51 rfl (by kernel_rfl) rfl rfl (by kernel_rfl) rfl ?_
 intro W0 w0 ρ0 hE
 conv=>whnf
 refine SW_loopN hE (fun k=>k) [2,3,4] [2,3,4] (fun m fr hp=>∃x,(wInts x).length<274877906944∧(wInts m).length<274877906944∧Nat.gcd x m=Nat.gcd a b∧fr=[(2,.ptr 2 0 0 0),(3,.ptr 3 0 0 0),(4,.ptr 4 0 0 0)]∧hp=[(2,⟨47,true,.one [.nat x]⟩),(3,⟨47,true,.one [.nat m]⟩),(4,⟨47,true,.one [.nat 0]⟩)]) b ?_ ?_ ?_
 ·kernel_rfl
 ·exact⟨a,ha,hb,rfl,rfl,rfl⟩
 rintro m _ _ ⟨x,hx,hm,hg,rfl,rfl⟩
 have kz:=c_nZero m
 by_cases h0:m=0
 ·rw[decide_eq_true h0]at kz
  subst h0
  rw[←hg,Nat.gcd_zero_right]
  conv=>whnf
  (repeat(first|(refine step_w2 rfl rfl ?_;conv=>whnf)|(refine g_c (by assumption) ?_;conv=>whnf)));exact Recast.refl _
 ·rw[decide_eq_false h0]at kz
  have kd:=c_Div x m hx hm h0
  have hlt:=Nat.mod_lt x (Nat.pos_of_ne_zero h0)
  conv=>whnf
  (repeat(first|(refine step_w1 rfl rfl ?_;conv=>whnf)|(refine step_i (by kernel_rfl) ?_;conv=>whnf)|(refine g_c (by assumption) ?_;conv=>whnf)))
  refine⟨x % m,fun k=>k,[2,3,4],[2,3,4],hlt,by kernel_rfl,m,hm, ?_, ?_,rfl,rfl⟩
  ·exact Nat.lt_of_le_of_lt (len_le_of (Nat.lt_trans hlt (lt_of_len m))) hm
  ·rw[←hg,Nat.gcd_comm m,←Nat.gcd_rec,Nat.gcd_comm]
end Go.Proofs.YtbopchpncgdaaaaGreatDoor
namespace Go.Proofs.YtbopchpncgdaaaaGreatDoor
open Go.Sx
set_option linter.unusedSimpArgs false
set_option linter.unusedVariables false
set_option maxRecDepth 100000
set_option maxHeartbeats 4000000
def fs (q:Rat):Nat:=fsz q+1
theorem fs_sub (a b:Rat):fs (a - b)≤fs a+fs b:=by have:=@fsz_sub a b;unfold fs;omega
theorem fs_mul (a b:Rat):fs (a*b)≤fs a+fs b:=by have:=@fsz_mul a b;unfold fs;omega
theorem fs_neg (a:Rat):fs (-a)=fs a:=by unfold fs;rw[fsz_neg]
theorem fs_inv (a:Rat):fs a⁻¹≤fs a:=by have:=fsz_inv a;unfold fs;omega
theorem fs_div (a b:Rat):fs (a/b)≤fs a+fs b:=by rw[Rat.div_def];have h1:=fs_mul a b⁻¹;have h2:=fs_inv b;omega
theorem fs_zero:fs 0=2:=by decide+kernel
theorem fs_one:fs 1=2:=by decide+kernel
end Go.Proofs.YtbopchpncgdaaaaGreatDoor
namespace Go.Proofs.YtbopchpncgdaaaaGreatDoor
open Go.Sx
set_option linter.unusedSimpArgs false
set_option linter.unusedVariables false
def sumR:Nat→(Nat→Rat)→Rat
 |0,_=>0
 |n+1,f=>sumR n f+f n
section
variable (x y:Nat→Rat)
end
theorem sum_congr {f g:Nat→Rat}:∀n,(∀i,i<n→f i=g i)→sumR n f=sumR n g
 |0,_=>rfl
 |n+1,h=>by rw[sumR,sumR,sum_congr n (fun i hi=>h i (by omega)),h n (by omega)]
theorem sum_const_zero:∀n,sumR n (fun _=>0)=0
 |0=>rfl
 |n+1=>by rw[sumR,sum_const_zero n];grind
end Go.Proofs.YtbopchpncgdaaaaGreatDoor
namespace Go.Proofs.YtbopchpncgdaaaaGreatDoor
open Go.Sx
set_option linter.unusedSimpArgs false
set_option linter.unusedVariables false
set_option maxRecDepth 100000
set_option maxHeartbeats 4000000
def Sm (B:Nat) (l:List Rat):Prop:=∀i,i<l.length→fs (l.getD i 0)≤B
section
variable {a b z:List Rat} {n i:Nat} {c:Rat}
theorem vec_ext (ha:a.length=n) (hb:b.length=n) (h:∀i,i<n→a.getD i 0=b.getD i 0):a=b:=by
 refine List.ext_getElem (ha.trans hb.symm) fun i h1 h2=> ?_
 have:=h i (by omega)
 rwa [List.getD_eq_getElem?_getD,List.getD_eq_getElem?_getD,List.getElem?_eq_getElem h1,List.getElem?_eq_getElem h2]at this
theorem sum_add (f g:Nat→Rat):∀n,sumR n (fun i=>f i+g i)=sumR n f+sumR n g
 |0=>by simp only[sumR];grind
 |n+1=>by simp only[sumR];rw[sum_add f g n];grind
theorem sum_smul (c:Rat) (f:Nat→Rat):∀n,sumR n (fun i=>c*f i)=c*sumR n f
 |0=>by simp only[sumR];grind
 |n+1=>by simp only[sumR];rw[sum_smul c f n];grind
end
end Go.Proofs.YtbopchpncgdaaaaGreatDoor
namespace Go.Proofs.YtbopchpncgdaaaaGreatDoor
open Go.Sx
set_option linter.unusedSimpArgs false
set_option linter.unusedVariables false
set_option maxRecDepth 100000
set_option maxHeartbeats 4000000
def mk (r c:Nat) (f:Nat→Nat→Rat):List Rat:=(List.range (r*c)).map fun p=>f (p/c) (p % c)
abbrev el (a:List Rat) (c i k:Nat):Rat:=a.getD (i*c+k) 0
theorem mk_len (r c:Nat) (f:Nat→Nat→Rat):(mk r c f).length=r*c:=by simp[mk]
theorem idx_lt {r c i k:Nat} (hi:i<r) (hk:k<c):i*c+k<r*c:=by
 have:=Nat.mul_le_mul_right c (show i+1≤r from hi)
 rw[Nat.succ_mul]at this;omega
theorem idx_div {c i k:Nat} (hk:k<c):(i*c+k)/c=i:=by
 rw[Nat.mul_comm,Nat.mul_add_div (by omega),Nat.div_eq_of_lt hk,Nat.add_zero]
theorem idx_mod {c i k:Nat} (hk:k<c):(i*c+k) % c=k:=by
 rw[Nat.mul_comm,Nat.mul_add_mod,Nat.mod_eq_of_lt hk]
theorem mk_at {r c:Nat} {f:Nat→Nat→Rat} {p:Nat} (hp:p<r*c):(mk r c f).getD p 0=f (p/c) (p % c):=by
 simp[mk,List.getD_eq_getElem?_getD,hp]
theorem mk_el {r c i k:Nat} {f:Nat→Nat→Rat} (hi:i<r) (hk:k<c):el (mk r c f) c i k=f i k:=by
 rw[el,mk_at (idx_lt hi hk),idx_div hk,idx_mod hk]
theorem idx_split {r c p:Nat} (hp:p<r*c):p/c<r∧p % c<c∧p/c*c+p % c=p:=by
 have hc:0<c:=by rcases Nat.eq_zero_or_pos c with h|h
                 ·subst h;omega
                 ·exact h
 refine⟨(Nat.div_lt_iff_lt_mul hc).2 hp,Nat.mod_lt _ hc, ?_⟩
 rw[Nat.mul_comm];exact Nat.div_add_mod p c
theorem mat_ext {a b:List Rat} {r c:Nat} (ha:a.length=r*c) (hb:b.length=r*c) (h:∀i k,i<r→k<c→el a c i k=el b c i k):a=b:=by
 refine vec_ext ha hb fun p hp=> ?_
 obtain⟨h1,h2,h3⟩:=idx_split hp
 have:=h _ _ h1 h2
 rwa [el,el,h3]at this
theorem mk_ext {a:List Rat} {r c:Nat} {f:Nat→Nat→Rat} (ha:a.length=r*c) (h:∀i k,i<r→k<c→f i k=el a c i k):mk r c f=a:=
 mat_ext (mk_len ..) ha fun i k hi hk=>by rw[mk_el hi hk,h i k hi hk]
theorem mk_congr {r c:Nat} {f g:Nat→Nat→Rat} (h:∀i k,i<r→k<c→f i k=g i k):mk r c f=mk r c g:=
 mk_ext (mk_len ..) fun i k hi hk=>by rw[mk_el hi hk,h i k hi hk]
theorem Sm_mk {r c B:Nat} {f:Nat→Nat→Rat} (h:∀i k,i<r→k<c→fs (f i k)≤B):Sm B (mk r c f):=by
 intro p hp
 rw[mk_len]at hp
 obtain⟨h1,h2,_⟩:=idx_split hp
 rw[mk_at hp];exact h _ _ h1 h2
theorem el_sm {a:List Rat} {r c B i k:Nat} (h:Sm B a) (ha:a.length=r*c) (hi:i<r) (hk:k<c):fs (el a c i k)≤B:=h _ (by rw[ha];exact idx_lt hi hk)
theorem sum_swap (f:Nat→Nat→Rat) (m:Nat):∀n,sumR n (fun i=>sumR m (f i))=sumR m (fun k=>sumR n (fun i=>f i k))
 |0=>by
  rw[sumR]
  have:sumR m (fun _=>(0:Rat))=0:=by induction m with
   |zero=>rfl
   |succ m ih=>rw[sumR,ih];grind
  exact(show sumR m (fun k=>sumR 0 (fun i=>f i k))=0 from this).symm
 |n+1=>by rw[sumR,sum_swap f m n,←sum_add];exact sum_congr m fun k _=>rfl
theorem sum_mul (c:Rat) (f:Nat→Rat) (n:Nat):sumR n (fun i=>f i*c)=sumR n f*c:=by
 rw[Rat.mul_comm,←sum_smul]
 exact sum_congr n fun i _=>Rat.mul_comm _ _
def delta (i k:Nat):Rat:=if i=k then 1 else 0
theorem sum_deltaL {f:Nat→Rat} {i:Nat}:∀n,sumR n (fun j=>delta i j*f j)=if i<n then f i else 0
 |0=>by simp[sumR]
 |n+1=>by
  rw[sumR,sum_deltaL n,delta]
  by_cases h:i=n
  ·subst h;simp;grind
  ·by_cases h2:i<n
   ·simp[h,h2,show i<n+1 by omega];grind
   ·simp[h,h2,show ¬i<n+1 by omega];grind
theorem delta_comm (i k:Nat):delta i k=delta k i:=by unfold delta;by_cases h:i=k<;>simp[h,eq_comm]
theorem sum_deltaR {f:Nat→Rat} {i n:Nat}:sumR n (fun j=>f j*delta j i)=if i<n then f i else 0:=by
 rw[←sum_deltaL n];exact sum_congr n fun j _=>by rw[delta_comm,Rat.mul_comm]
abbrev mmul (r s t:Nat) (a b:List Rat):List Rat:=mk r t fun i k=>sumR s fun p=>el a s i p*el b t p k
abbrev mone (n:Nat):List Rat:=mk n n delta
abbrev mapply (r c:Nat) (a v:List Rat):List Rat:=(List.range r).map fun i=>sumR c fun p=>el a c i p*v.getD p 0
theorem mapply_len {r c:Nat} {a v:List Rat}:(mapply r c a v).length=r:=by simp
theorem mapply_get {r c i:Nat} {a v:List Rat} (hi:i<r):(mapply r c a v).getD i 0=sumR c fun p=>el a c i p*v.getD p 0:=by
 simp[List.getD_eq_getElem?_getD,hi]
theorem sum_mulL {f:Nat→Rat} (c:Rat) (n:Nat):c*sumR n f=sumR n fun i=>c*f i:=(sum_smul c f n).symm
theorem sum_mulR {f:Nat→Rat} (c:Rat) (n:Nat):sumR n f*c=sumR n fun i=>f i*c:=(sum_mul c f n).symm
end Go.Proofs.YtbopchpncgdaaaaGreatDoor
namespace Go.Proofs.YtbopchpncgdaaaaGreatDoor
open Go.Sx
set_option linter.unusedSimpArgs false
set_option linter.unusedVariables false
set_option maxRecDepth 100000
set_option maxHeartbeats 4000000
abbrev iv (n:Int):SV:=.val (.int .i64 n)
abbrev mA (r c:Int) (a:List Rat):SV:=.agg [iv r,iv c,fvec a]
abbrev mC (r c:Int) (a:List Rat):List SV:=[iv r,iv c,fvec a]
def sidesF (r c:Int):Int:=if r<0∨c<0 then 1 else if r>2048∨c>2048 then 3 else 0
theorem m_sides (r c:Int):CallOK Tryz.prog 69 [iv r,iv c] [] (iv (sidesF r c)) [] []:=by
 refine callV (Z:=[]) tabOK mixedOK Tryz.func69 rfl (by kernel_rfl) rfl rfl (by kernel_rfl) rfl ?_
 intro W0 w0 ρ0 hE
 conv=>whnf
 unfold sidesF
 by_cases h1:r<0
 ·have t1:decide (r<0)=true:=decide_eq_true h1
  rw[if_pos (.inl h1)]
  (repeat((first|refine step_w1 rfl rfl ?_|refine step_w2 rfl rfl ?_|refine g_o (op_pickT rfl (ev_ok rfl) (ev_ok rfl)) ?_|rw[t1]);conv=>whnf));(first|exact Recast.refl _|exact Frz.recast (Recast.refl _) rfl|(refine Frz.one rfl rfl ?_;skip)|(refine Frz.tup ?_;skip))
 have t1:decide (r<0)=false:=decide_eq_false h1
 by_cases h2:c<0
 ·have t2:decide (c<0)=true:=decide_eq_true h2
  rw[if_pos (.inr h2)]
  (repeat((first|refine step_w1 rfl rfl ?_|refine g_o (op_pickF rfl (ev_ok rfl) (ev_ok rfl)) ?_|rw[t1]|rw[t2]);conv=>whnf));(first|exact Recast.refl _|exact Frz.recast (Recast.refl _) rfl|(refine Frz.one rfl rfl ?_;skip)|(refine Frz.tup ?_;skip))
 have t2:decide (c<0)=false:=decide_eq_false h2
 rw[if_neg (by omega)]
 by_cases h3:r>2048
 ·have t3:decide (r>2048)=true:=decide_eq_true h3
  rw[if_pos (.inl h3)]
  (repeat((first|refine step_w1 rfl rfl ?_|refine step_w2 rfl rfl ?_|refine g_o (op_pickT rfl (ev_ok rfl) (ev_ok rfl)) ?_|refine g_o (op_pickF rfl (ev_ok rfl) (ev_ok rfl)) ?_|rw[t1]|rw[t2]|rw[t3]);conv=>whnf));(first|exact Recast.refl _|exact Frz.recast (Recast.refl _) rfl|(refine Frz.one rfl rfl ?_;skip)|(refine Frz.tup ?_;skip))
 have t3:decide (r>2048)=false:=decide_eq_false h3
 by_cases h4:c>2048
 ·have t4:decide (c>2048)=true:=decide_eq_true h4
  rw[if_pos (.inr h4)]
  (repeat((first|refine step_w1 rfl rfl ?_|refine step_w2 rfl rfl ?_|refine g_o (op_pickF rfl (ev_ok rfl) (ev_ok rfl)) ?_|rw[t1]|rw[t2]|rw[t3]|rw[t4]);conv=>whnf));(first|exact Recast.refl _|exact Frz.recast (Recast.refl _) rfl|(refine Frz.one rfl rfl ?_;skip)|(refine Frz.tup ?_;skip))
 have t4:decide (c>2048)=false:=decide_eq_false h4
 rw[if_neg (by omega)]
 (repeat((first|refine step_w1 rfl rfl ?_|refine step_w2 rfl rfl ?_|refine g_o (op_pickF rfl (ev_ok rfl) (ev_ok rfl)) ?_|rw[t1]|rw[t2]|rw[t3]|rw[t4]);conv=>whnf));(first|exact Recast.refl _|exact Frz.recast (Recast.refl _) rfl|(refine Frz.one rfl rfl ?_;skip)|(refine Frz.tup ?_;skip))
theorem sides_ok {r c:Int} (h:sidesF r c=0):(0≤r∧r≤2048)∧(0≤c∧c≤2048):=by
 unfold sidesF at h
 by_cases h1:r<0∨c<0
 ·rw[if_pos h1]at h;omega
 ·rw[if_neg h1]at h
  by_cases h2:r>2048∨c>2048
  ·rw[if_pos h2]at h;omega
  ·omega
theorem sides_of {r c:Int} (h:(0≤r∧r≤2048)∧(0≤c∧c≤2048)):sidesF r c=0:=by
 unfold sidesF;rw[if_neg (by omega),if_neg (by omega)]
theorem prod_le {r c:Int} (h:(0≤r∧r≤2048)∧(0≤c∧c≤2048)):0≤r*c∧r*c≤4194304:=by
 obtain⟨⟨a,b⟩,d,e⟩:=h
 refine⟨Int.mul_nonneg a d, ?_⟩
 exact Int.le_trans (Int.mul_le_mul b e d (by decide)) (by decide)
def checkF (r c:Int) (n:Nat):Int:=if sidesF r c≠0 then sidesF r c else if (n:Int)≠r*c then 1 else 0
theorem m_Check (r c:Int) (a:List Rat) (hn:a.length<1099511627776):CallOK Tryz.prog 13 [mA r c a] [] (iv (checkF r c a.length)) [] []:=by
 have k1:=m_sides r c
 refine callV (Z:=[]) tabOK mixedOK Tryz.func13 rfl (by kernel_rfl) rfl rfl (by kernel_rfl) rfl ?_
 intro W0 w0 ρ0 hE
 conv=>whnf
 unfold checkF
 by_cases h1:sidesF r c=0
 ·rw[if_neg (by omega)]
  rw[h1]at k1
  have hp:=prod_le (sides_ok h1)
  have t2:IntKind.i64.wrap (r*c)=r*c:=wrap_i64 (by omega) (by omega)
  by_cases h2:(a.length:Int)=r*c
  ·have t3:((a.length:Int) != r*c)=false:=by rw[h2];exact bne_self_eq_false _
   rw[if_neg (by omega)]
   clear hp
   (repeat((first|refine step_w2 rfl rfl ?_|refine g_c (by assumption) ?_|rw[bne_self_eq_false]|refine g_o (op_lenM rfl rfl rfl (ev_ok rfl) (tgt rfl) rfl) ?_|rw[t2]|rw[t3]);conv=>whnf));(first|exact Recast.refl _|exact Frz.recast (Recast.refl _) rfl|(refine Frz.one rfl rfl ?_;skip)|(refine Frz.tup ?_;skip))
  ·have t3:((a.length:Int) != r*c)=true:=bne_iff_ne.2 h2
   rw[if_pos h2]
   clear hp
   (repeat((first|refine step_w1 rfl rfl ?_|refine step_w2 rfl rfl ?_|refine g_c (by assumption) ?_|rw[bne_self_eq_false]|refine g_o (op_lenM rfl rfl rfl (ev_ok rfl) (tgt rfl) rfl) ?_|rw[t2]|rw[t3]);conv=>whnf));(first|exact Recast.refl _|exact Frz.recast (Recast.refl _) rfl|(refine Frz.one rfl rfl ?_;skip)|(refine Frz.tup ?_;skip))
 ·have t1:(sidesF r c != 0)=true:=bne_iff_ne.2 h1
  rw[if_pos h1]
  (repeat(first|(refine step_w1 rfl rfl ?_;conv=>whnf)|(refine g_c (by assumption) ?_;conv=>whnf)|(rw[t1];conv=>whnf)));(first|exact Recast.refl _|exact Frz.recast (Recast.refl _) rfl|(refine Frz.one rfl rfl ?_;skip)|(refine Frz.tup ?_;skip))
theorem check_ok {r c:Nat} {n:Nat} (hr:r≤2048) (hc:c≤2048) (hn:n=r*c):checkF r c n=0:=by
 unfold checkF
 rw[sides_of (by omega),if_neg (by omega),if_neg (by rw[hn];push_cast;omega)]
structure OKM (R C:Nat) (a:List Rat):Prop where
 r:R≤2048
 c:C≤2048
 n:a.length=R*C
theorem OKM.small {r c:Nat} {a:List Rat} (h:OKM r c a):a.length≤4194304:=by rw[h.n];exact Nat.mul_le_mul h.r h.c
theorem m_Check0 {r c:Nat} {a:List Rat} (h:OKM r c a):CallOK Tryz.prog 13 [mA r c a] [] (iv 0) [] []:=by
 have:=m_Check r c a (by have:=h.small;omega)
 rwa [check_ok h.r h.c h.n]at this
theorem m_has (i:Int) (n:Int):CallOK Tryz.prog 109 [iv i,iv n] [] (.val (.bool (decide (0≤i∧i<n)))) [] []:=by
 refine callV (Z:=[]) tabOK mixedOK Tryz.func109 rfl (by kernel_rfl) rfl rfl (by kernel_rfl) rfl ?_
 intro W0 w0 ρ0 hE
 conv=>whnf
 by_cases h1:i<0
 ·have t1:decide (i≥0)=false:=decide_eq_false (by omega)
  rw[decide_eq_false (show ¬(0≤i∧i<n) by omega)]
  (repeat(first|(refine step_w2 rfl rfl ?_;conv=>whnf)|(refine g_o (op_pickF rfl (ev_ok rfl) (ev_ok rfl)) ?_;conv=>whnf)|(rw[t1];conv=>whnf)));(first|exact Recast.refl _|exact Frz.recast (Recast.refl _) rfl|(refine Frz.one rfl rfl ?_;skip)|(refine Frz.tup ?_;skip))
 ·have t1:decide (i≥0)=true:=decide_eq_true (by omega)
  by_cases h2:i<n
  ·have t2:decide (i<n)=true:=decide_eq_true h2
   rw[decide_eq_true (show 0≤i∧i<n by omega)]
   (repeat((first|refine step_w1 rfl rfl ?_|refine g_o (op_pickT rfl (ev_ok rfl) (ev_ok rfl)) ?_|rw[t1]|rw[t2]);conv=>whnf));(first|exact Recast.refl _|exact Frz.recast (Recast.refl _) rfl|(refine Frz.one rfl rfl ?_;skip)|(refine Frz.tup ?_;skip))
  ·have t2:decide (i<n)=false:=decide_eq_false h2
   rw[decide_eq_false (show ¬(0≤i∧i<n) by omega)]
   (repeat((first|refine step_w1 rfl rfl ?_|refine g_o (op_pickT rfl (ev_ok rfl) (ev_ok rfl)) ?_|rw[t1]|rw[t2]);conv=>whnf));(first|exact Recast.refl _|exact Frz.recast (Recast.refl _) rfl|(refine Frz.one rfl rfl ?_;skip)|(refine Frz.tup ?_;skip))
theorem idx_w {i k c:Nat} (hi:i≤2048) (hc:c≤2048) (hk:k≤2048):IntKind.i64.wrap ((i:Int)*(c:Int))=((i*c:Nat):Int)∧IntKind.i64.wrap (((i*c:Nat):Int)+(k:Int))=((i*c+k:Nat):Int):=by
 have h1:i*c≤2048*2048:=Nat.mul_le_mul hi hc
 constructor
 ·rw[←Int.natCast_mul,wrap_i64 (by omega) (by omega)]
 ·rw[wrap_i64 (by omega) (by omega)];omega
theorem m_at {r c:Nat} {a:List Rat} (h:OKM r c a) {i k:Nat} (hi:i<r) (hk:k<c):CallOK Tryz.prog 98 [mA r c a,iv i,iv k] [] (.frac (el a c i k)) [] []:=by
 obtain⟨t1,t2⟩:=idx_w (i:=i) (k:=k) (c:=c) (by have:=h.r;omega) h.c (by have:=h.c;omega)
 have hlt:=idx_lt hi hk
 rw[←h.n]at hlt
 refine callV (Z:=[]) tabOK mixedOK Tryz.func98 rfl (by kernel_rfl) rfl rfl (by kernel_rfl) rfl ?_
 intro W0 w0 ρ0 hE
 conv=>whnf
 (repeat((first|refine g_o (op_loadA rfl (ev_ok rfl) (tgt rfl) rfl (Nat.succ_ne_zero _) rfl) ?_|refine g_o (op_indexM (α:=Rat) (d:=0) rfl (ev_ok rfl) (ev_ok rfl) (tgt rfl) rfl (tgt rfl) rfl (by omega)) ?_|rw[t1]|rw[t2]|rw[Int.toNat_natCast]);conv=>whnf));(first|exact Recast.refl _|exact Frz.recast (Recast.refl _) rfl|(refine Frz.one rfl rfl ?_;skip)|(refine Frz.tup ?_;skip))
abbrev rowL (a:List Rat) (c i:Nat):List Rat:=(a.drop (i*c)).take c
theorem rowL_len {r c i:Nat} {a:List Rat} (hi:i<r) (h:a.length=r*c):(rowL a c i).length=c:=by
 have:=Nat.mul_le_mul_right c (show i+1≤r from hi)
 rw[Nat.succ_mul]at this
 rw[List.length_take,List.length_drop];omega
theorem rowL_get {a:List Rat} {c i k:Nat} (hk:k<c):(rowL a c i).getD k 0=el a c i k:=by
 simp[List.getD_eq_getElem?_getD,hk]
theorem row_w {i c:Nat} (hi:i≤2047) (hc:c≤2048):IntKind.i64.wrap ((i:Int)*(c:Int))=((i*c:Nat):Int)∧IntKind.i64.wrap (((i+1:Nat):Int)*(c:Int))=(((i+1)*c:Nat):Int)∧IntKind.i64.wrap ((i:Int)+1)=((i+1:Nat):Int):=
 ⟨(idx_w (i:=i) (k:=0) (by omega) hc (by omega)).1,(idx_w (i:=i+1) (k:=0) (by omega) hc (by omega)).1,winc (by omega)⟩
end Go.Proofs.YtbopchpncgdaaaaGreatDoor
namespace Go.Sx
set_option linter.unusedSimpArgs false
set_option linter.unusedVariables false
section
variable {P:Program} {o:Oper} {ft:List (Nat×SV)} {fk:List (Nat×Blk)}
theorem op_slice3 {t e:TypeId} {x lo hi mx:Operand} {ti te:TI} {k s i n:Nat} {l h:Int} {kl kh km:IntKind} (ho:o.op= .slice t x (some lo) (some hi) (some mx)) (hx:EvOK ft x (.slc k s i n))
  (hlo:EvOK ft lo (.val (.int kl l))) (hhi:EvOK ft hi (.val (.int kh h))) (hmx:EvOK ft mx (.val (.int km h)))
  (ht:TOK P t ti) (hk:ti.kind= .slc e) (he:TOK P e te) (hs:te.size=s) (hh:0≤l∧l≤h∧h≤n):OpOK P o ft fk (.slc k s (i+l.toNat) (h - l).toNat) [] []:=
 ok_pure fun ρ a w hp=>by
  obtain⟨h0,hlh,hh⟩:=hh
  have hu:=ht.kind;rw[hk]at hu
  have key:∀(ad:Option Addr) (m cap:Nat),n=m→m≤cap→a.eval x= .slice ad m cap→
    (execOp a.eval o).run P w= .ok (.value (.slice (if h.toNat=l.toNat then ad else ad.map (·.add (l.toNat*s))) (h.toNat - l.toNat) (h.toNat - l.toNat))) w:=by
   intro ad m cap hnm hmc hv
   have hr:∀(z:Operand) (kd:IntKind) (bd:Nat),EvOK ft z (.val (.int kd h))→h.toNat≤bd→∀q,(Instr.sliceBound (a.eval z) bd q).run P w= .ok h.toNat w:=by
    intro z kd bd hz hbd q
    have:=of_has_val (hz ρ a hp.hft)
    have hb:0≤h∧h≤(bd:Int):=by omega
    simp[Instr.sliceBound,this,asIntOf,hb]
   have hl:∀q,(Instr.sliceBound (a.eval lo) h.toNat q).run P w= .ok l.toNat w:=by
    intro q
    have:=of_has_val (hlo ρ a hp.hft)
    have hb:0≤l∧l≤(h.toNat:Int):=by omega
    simp only[Instr.sliceBound,this,asIntOf,Sem.run_bind,Sem.run_pure,Result.andThen_ok,hb,and_self,if_true]
   have hbnds:(Instr.sliceBounds true m cap (some (a.eval lo)) (some (a.eval hi)) (some (a.eval mx))).run P w= .ok (l.toNat,h.toNat,h.toNat) w:=by
    unfold Instr.sliceBounds
    simp[hr mx km cap hmx (by omega),hr hi kh h.toNat hhi (Nat.le_refl _),hl]
   simp only[execOp,ho,Option.map_some,Instr.sliceAt,Sem.run_bind,run_underlying hu,Result.andThen_ok,Instr.slice,hv,hbnds,he.sizeOf,hs,Sem.run_pure]
  rcases has_slc (hx ρ a hp.hft)with⟨b,t',cap,h1,h2,h3,h4⟩|⟨rfl,ad,h4⟩
  ·refine⟨_,key _ n cap rfl h2 h4,slc_has ?_⟩
   by_cases hc:h.toNat=l.toNat
   ·right
    have:h.toNat - l.toNat=0:=by omega
    refine⟨by omega,some ⟨b,i*s,none⟩, ?_⟩
    rw[if_pos hc,this]
   ·left
    refine⟨b,t',h.toNat - l.toNat,h1,by omega, ?_, ?_⟩
    ·exact Nat.le_trans (Nat.mul_le_mul_right s (show i+l.toNat+(h.toNat - l.toNat)≤i+cap by omega)) h3
    ·rw[if_neg hc]
     have hadd:(⟨b,i*s,none⟩:Addr).add (l.toNat*s)=⟨b,(i+l.toNat)*s,none⟩:=by
      unfold Addr.add
      rw[Nat.add_mul]
      split
      ·rename_i h0;simp[h0]
      ·rfl
     rw[Option.map_some,hadd,show(h - l).toNat=h.toNat - l.toNat from by omega]
  ·refine⟨_,key ad 0 0 rfl (Nat.le_refl _) h4,slc_has (.inr ⟨by omega,ad, ?_⟩)⟩
   have h1:l.toNat=0:=by omega
   have h2:h.toNat=0:=by omega
   simp[h1,h2]
theorem op_eqNilF {f:FuncId} {a b:List SV} {t t2:TypeId} {x y:Operand} {p r:Array TypeId} {v:Bool} (ho:o.op= .binOp .eql t x y t2) (hx:EvOK ft x (.clo f a b)) (hy:EvOK ft y (.val .nilFunc)) (hu:P.underlying t=some (.func p r v)):OpOK P o ft fk (.val (.bool false)) [] []:=
 ok_pure fun ρ ac w hp=>by
  have h1:=hx ρ ac hp.hft
  simp only[Has,HasC]at h1
  obtain⟨_,⟨fz,cz,_,_,rfl⟩,e1⟩:=h1
  have e2:=of_has_val (hy ρ ac hp.hft)
  simp only[mkV,SV.isOne,if_true,List.headD_cons]at e1
  have hq:∀d vs ws,(Op.equalIn (d+1) t (.func (.func f) vs ws) .nilFunc).run P w= .ok false w:=fun d vs ws=>by simp[Op.equalIn,run_underlying hu]
  have hq':∀vs ws,(Op.equal t (.func (.func f) vs ws) .nilFunc).run P w= .ok false w:=fun vs ws=>hq 9999 vs ws
  refine⟨_, ?_,has_val rfl⟩
  simp[execOp,ho,e1,e2,eqGuard,binOp,hq']
end
end Go.Sx
namespace Go.Proofs.YtbopchpncgdaaaaGreatDoor
open Go.Sx
set_option linter.unusedSimpArgs false
set_option linter.unusedVariables false
set_option maxRecDepth 100000
set_option maxHeartbeats 4000000
abbrev zM:Blk:=⟨24,true,.one [iv 0,iv 0,.val (.slice none 0 0)]⟩
abbrev bM (r c K:Nat):Blk:=⟨24,true,.one [iv r,iv c,.slc K 5 0 (r*c)]⟩
abbrev fblk (l:List Rat):Blk:=⟨53,true,.fracs l⟩
theorem m_rowM {r c:Nat} {a:List Rat} (h:OKM r c a) {i:Nat} (hi:i<r) (K:Nat):CallOK Tryz.prog 86 [.agg [iv r,iv c,.slc K 5 0 (r*c)],iv i] [(K,fblk a)] (.slc K 5 (i*c) c) [] []:=by
 obtain⟨t1,t2,t3⟩:=row_w (i:=i) (c:=c) (by have:=h.r;omega) h.c
 have hlt:=Nat.mul_le_mul_right c (show i+1≤r from hi)
 have hle:i*c≤(i+1)*c:=Nat.mul_le_mul_right c (by omega)
 have e1:(((i+1)*c:Nat) - (i*c:Nat):Int).toNat=c:=by rw[Nat.succ_mul];omega
 refine CallOK.anyWr ?_
 refine callK (Z:=[]) tabOK mixedOK Tryz.func86 rfl (by kernel_rfl) (args:=[.agg [iv r,iv c,.slc 1001 5 0 (r*c)],iv i]) (fk:=[(1001,⟨53,false,.fracs a⟩)]) (c:=.slc 1001 5 (i*c) c) (new:=[]) (upd:=[]) (ShapeOK.of rfl rfl rfl rfl rfl rfl rfl rfl rfl rfl rfl) rfl (fun _=>K) (NamesOK.ro rfl) ?_
 intro W0 w0 ρ0 hE
 conv=>whnf
 (repeat((first|refine step_i (by kernel_rfl) ?_|refine g_o (op_slice3 rfl (ev_ok rfl) (ev_ok rfl) (ev_ok rfl) (ev_ok rfl) (tgt rfl) rfl (tgt rfl) rfl (by omega)) ?_|rw[t1]|rw[t3]|rw[t2]|rw[e1]|rw[Int.toNat_natCast]|rw[Nat.zero_add]);conv=>whnf))
 exact⟨Recast.refl _,(fun _ _ h=>by cases h),(fun _ _ h=>by cases h)⟩
theorem m_Make0 {r c:Nat} (hr:r≤2048) (hc:c≤2048) (F:Nat→Nat→Rat) (g:FuncId)
  (hf:∀i k,i<r→k<c→CallOK Tryz.prog g ([]++([iv (i:Nat),iv (k:Nat)]++[])) [] (.frac (F i k)) [] []):
  CallOK Tryz.prog 96 [iv r,iv c,.clo g [] []] [] (.tup [mA r c (mk r c F),iv 0]) [] []:=by
 have k1:=m_sides r c
 rw[sides_of (by omega)]at k1
 have hz:(mk r c F).length=r*c:=mk_len ..
 have hrc:r*c≤2048*2048:=Nat.mul_le_mul hr hc
 have t1:IntKind.i64.wrap ((r:Int)*(c:Int))=((r*c:Nat):Int):=by rw[←Int.natCast_mul,wrap_i64 (by omega) (by omega)]
 refine callF (Z:=[]) tabOK mixedOK Tryz.func96 rfl (by kernel_rfl) (by first|rfl|(simp[keylessL,keyless,keylessL_map, *];done)) (by first|rfl|(simp[keylessL,keyless,keylessL_map, *];done)) (by kernel_rfl) rfl ?_
 intro w0 ρ0 hE
 conv=>whnf
 (repeat((first|refine step_w2 rfl rfl ?_|refine step_oA (by first|omega|decide|(simp only[tl0,dlen,List.length_replicate,List.length_set,List.length_map,List.length_zipWith,List.length_take,List.length_append,List.length_cons,List.length_nil];omega)) ?_|refine g_c (by assumption) ?_|rw[bne_self_eq_false]|refine⟨_,op_eqNilF rfl (ev_ok rfl) (ev_ok rfl) Tryz.underlying142, ?_⟩|rw[t1]|rw[Int.toNat_natCast]);conv=>whnf))
 refine SW_loopN hE (fun k=>k) [0,1,2,6,9,30,31] [6,9,25] (fun m fr hp=>∃i:Nat,m=r - i∧i≤r∧fr=[(0,iv r),(1,iv c),(2,.clo g [] []),(6,.ptr 6 0 0 0),(9,.ptr 9 0 0 0),(30,iv r),(31,iv (i:Nat))]∧
  hp=[(6,zM),(9,bM r c 25),(25,fblk ((mk r c F).take (i*c)++List.replicate (r*c - i*c) 0))]) r ?_ ?_ ?_
 ·kernel_rfl
 ·exact⟨0,rfl,Nat.zero_le _,rfl,by rw[Nat.zero_mul,List.take_zero];rfl⟩
 rintro m _ _ ⟨i,rfl,hi,rfl,rfl⟩
 conv=>whnf
 by_cases hlt:i<r
 ·have t2:=dlt hlt
  have t3:=winc (i:=i) (by omega)
  have hic:(i+1)*c≤r*c:=Nat.mul_le_mul_right c hlt
  rw[Nat.succ_mul]at hic
  have hlen:=fill_len (d:=(0:Rat)) (show i*c≤r*c by omega) hz
  have o1:=m_rowM (a:=(mk r c F).take (i*c)++List.replicate (r*c - i*c) 0) ⟨hr,hc,hlen⟩ hlt 25
  (repeat(first|(refine step_w1 rfl rfl ?_;conv=>whnf)|(refine g_c1 (by assumption) rfl ?_;conv=>whnf)|(rw[t2];conv=>whnf)))
  refine SW_loopN hE (fun k=>k) [0,1,2,6,9,10,11,30,31,37,38] [6,9,25] (fun m fr hp=>∃k:Nat,m=c - k∧k≤c∧fr=[(0,iv r),(1,iv c),(2,.clo g [] []),(6,.ptr 6 0 0 0),(9,.ptr 9 0 0 0),(10,iv (i:Nat)),(11,.slc 25 5 (i*c) c),(30,iv r),(31,iv (i:Nat)),(37,iv c),(38,iv (k:Nat))]∧
   hp=[(6,zM),(9,bM r c 25),(25,fblk ((mk r c F).take (i*c+k)++List.replicate (r*c - (i*c+k)) 0))]) c ?_ ?_ ?_
  ·kernel_rfl
  ·exact⟨0,rfl,Nat.zero_le _,rfl,rfl⟩
  rintro m _ _ ⟨k,rfl,hk,rfl,rfl⟩
  conv=>whnf
  by_cases hlk:k<c
  ·have t4:=dlt hlk
   have t5:=winc (i:=k) (by omega)
   have hlen:=fill_len (d:=(0:Rat)) (show i*c+k≤r*c by omega) hz
   have o2:=hf i k hlt hlk
   rw[←mk_el (f:=F) hlt hlk]at o2
   (repeat((first|refine step_w1 rfl rfl ?_|refine step_oL (by first|omega|decide|(simp only[tl0,dlen,List.length_replicate,List.length_set,List.length_map,List.length_zipWith,List.length_take,List.length_append,List.length_cons,List.length_nil];omega)) ?_|refine step_oA (by first|omega|decide|(simp only[tl0,dlen,List.length_replicate,List.length_set,List.length_map,List.length_zipWith,List.length_take,List.length_append,List.length_cons,List.length_nil];omega)) ?_|refine g_c (by assumption) ?_|rw[t4]|rw[t5]|rw[Int.toNat_natCast]);conv=>whnf))
   refine⟨c - (k+1),fun k=>k,[0,1,2,6,9,10,11,30,31,37,38],[6,9,25],by omega,by kernel_rfl,k+1,rfl,hlk,rfl, ?_⟩
   rw[show i*c+(k+1)=i*c+k+1 from rfl,fblk,←fill_set (e:=0) (show i*c+k<r*c by omega) hz]
   rfl
  ·have t4:=dge hlk
   obtain rfl:k=c:=by omega
   (repeat(first|(refine step_w2 rfl rfl ?_;conv=>whnf)|(rw[t4];conv=>whnf)|(rw[t3];conv=>whnf)))
   refine⟨r - (i+1),fun k=>k,[0,1,2,6,9,30,31],[6,9,25],by omega,by kernel_rfl,i+1,rfl,hlt,rfl, ?_⟩
   rw[Nat.succ_mul]
   rfl
 ·have t2:=dge hlt
  obtain rfl:i=r:=by omega
  rw[fill_all hz]
  (repeat(first|(refine step_w2 rfl rfl ?_;conv=>whnf)|(rw[t2];conv=>whnf)))
  (first|exact Recast.refl _|exact Frz.recast (Recast.refl _) rfl|(refine Frz.one rfl rfl ?_;skip)|(refine Frz.tup ?_;(repeat(first|exact FrzC.keyless rfl|exact FrzL.nil|refine FrzL.cons ?_ ?_|(refine FrzC.fracs rfl ?_;(first|rfl|omega|(simp<;>fail)|(simp<;>omega)))|refine FrzC.agg ?_))))
theorem m_Make2 {r c:Nat} (hr:r≤2048) (hc:c≤2048) (F:Nat→Nat→Rat) (g:FuncId) (p q:Pred)
  (hf:∀i k,i<r→k<c→CallOK Tryz.prog g ([]++([iv (i:Nat),iv (k:Nat)]++[.atom p,.atom q])) [] (.frac (F i k)) [] []):
  CallOK Tryz.prog 96 [iv r,iv c,.clo g [] [.atom p,.atom q]] [] (.tup [mA r c (mk r c F),iv 0]) [] []:=by
 have k1:=m_sides r c
 rw[sides_of (by omega)]at k1
 have hz:(mk r c F).length=r*c:=mk_len ..
 have hrc:r*c≤2048*2048:=Nat.mul_le_mul hr hc
 have t1:IntKind.i64.wrap ((r:Int)*(c:Int))=((r*c:Nat):Int):=by rw[←Int.natCast_mul,wrap_i64 (by omega) (by omega)]
 refine callF (Z:=[]) tabOK mixedOK Tryz.func96 rfl (by kernel_rfl) (by first|rfl|(simp[keylessL,keyless,keylessL_map, *];done)) (by first|rfl|(simp[keylessL,keyless,keylessL_map, *];done)) (by kernel_rfl) rfl ?_
 intro w0 ρ0 hE
 conv=>whnf
 (repeat((first|refine step_w2 rfl rfl ?_|refine step_oA (by first|omega|decide|(simp only[tl0,dlen,List.length_replicate,List.length_set,List.length_map,List.length_zipWith,List.length_take,List.length_append,List.length_cons,List.length_nil];omega)) ?_|refine g_c (by assumption) ?_|rw[bne_self_eq_false]|refine⟨_,op_eqNilF rfl (ev_ok rfl) (ev_ok rfl) Tryz.underlying142, ?_⟩|rw[t1]|rw[Int.toNat_natCast]);conv=>whnf))
 refine SW_loopN hE (fun k=>k) [0,1,2,6,9,30,31] [6,9,25] (fun m fr hp=>∃i:Nat,m=r - i∧i≤r∧fr=[(0,iv r),(1,iv c),(2,.clo g [] [.atom p,.atom q]),(6,.ptr 6 0 0 0),(9,.ptr 9 0 0 0),(30,iv r),(31,iv (i:Nat))]∧
  hp=[(6,zM),(9,bM r c 25),(25,fblk ((mk r c F).take (i*c)++List.replicate (r*c - i*c) 0))]) r ?_ ?_ ?_
 ·kernel_rfl
 ·exact⟨0,rfl,Nat.zero_le _,rfl,by rw[Nat.zero_mul,List.take_zero];rfl⟩
 rintro m _ _ ⟨i,rfl,hi,rfl,rfl⟩
 conv=>whnf
 by_cases hlt:i<r
 ·have t2:=dlt hlt
  have t3:=winc (i:=i) (by omega)
  have hic:(i+1)*c≤r*c:=Nat.mul_le_mul_right c hlt
  rw[Nat.succ_mul]at hic
  have hlen:=fill_len (d:=(0:Rat)) (show i*c≤r*c by omega) hz
  have o1:=m_rowM (a:=(mk r c F).take (i*c)++List.replicate (r*c - i*c) 0) ⟨hr,hc,hlen⟩ hlt 25
  (repeat(first|(refine step_w1 rfl rfl ?_;conv=>whnf)|(refine g_c1 (by assumption) rfl ?_;conv=>whnf)|(rw[t2];conv=>whnf)))
  refine SW_loopN hE (fun k=>k) [0,1,2,6,9,10,11,30,31,37,38] [6,9,25] (fun m fr hp=>∃k:Nat,m=c - k∧k≤c∧fr=[(0,iv r),(1,iv c),(2,.clo g [] [.atom p,.atom q]),(6,.ptr 6 0 0 0),(9,.ptr 9 0 0 0),(10,iv (i:Nat)),(11,.slc 25 5 (i*c) c),(30,iv r),(31,iv (i:Nat)),(37,iv c),(38,iv (k:Nat))]∧
   hp=[(6,zM),(9,bM r c 25),(25,fblk ((mk r c F).take (i*c+k)++List.replicate (r*c - (i*c+k)) 0))]) c ?_ ?_ ?_
  ·kernel_rfl
  ·exact⟨0,rfl,Nat.zero_le _,rfl,rfl⟩
  rintro m _ _ ⟨k,rfl,hk,rfl,rfl⟩
  conv=>whnf
  by_cases hlk:k<c
  ·have t4:=dlt hlk
   have t5:=winc (i:=k) (by omega)
   have hlen:=fill_len (d:=(0:Rat)) (show i*c+k≤r*c by omega) hz
   have o2:=hf i k hlt hlk
   rw[←mk_el (f:=F) hlt hlk]at o2
   (repeat((first|refine step_w1 rfl rfl ?_|refine step_oL (by first|omega|decide|(simp only[tl0,dlen,List.length_replicate,List.length_set,List.length_map,List.length_zipWith,List.length_take,List.length_append,List.length_cons,List.length_nil];omega)) ?_|refine step_oA (by first|omega|decide|(simp only[tl0,dlen,List.length_replicate,List.length_set,List.length_map,List.length_zipWith,List.length_take,List.length_append,List.length_cons,List.length_nil];omega)) ?_|refine g_c (by assumption) ?_|rw[t4]|rw[t5]|rw[Int.toNat_natCast]);conv=>whnf))
   refine⟨c - (k+1),fun k=>k,[0,1,2,6,9,10,11,30,31,37,38],[6,9,25],by omega,by kernel_rfl,k+1,rfl,hlk,rfl, ?_⟩
   rw[show i*c+(k+1)=i*c+k+1 from rfl,fblk,←fill_set (e:=0) (show i*c+k<r*c by omega) hz]
   rfl
  ·have t4:=dge hlk
   obtain rfl:k=c:=by omega
   (repeat(first|(refine step_w2 rfl rfl ?_;conv=>whnf)|(rw[t4];conv=>whnf)|(rw[t3];conv=>whnf)))
   refine⟨r - (i+1),fun k=>k,[0,1,2,6,9,30,31],[6,9,25],by omega,by kernel_rfl,i+1,rfl,hlt,rfl, ?_⟩
   rw[Nat.succ_mul]
   rfl
 ·have t2:=dge hlt
  obtain rfl:i=r:=by omega
  rw[fill_all hz]
  (repeat(first|(refine step_w2 rfl rfl ?_;conv=>whnf)|(rw[t2];conv=>whnf)))
  (first|exact Recast.refl _|exact Frz.recast (Recast.refl _) rfl|(refine Frz.one rfl rfl ?_;skip)|(refine Frz.tup ?_;(repeat(first|exact FrzC.keyless rfl|exact FrzL.nil|refine FrzL.cons ?_ ?_|(refine FrzC.fracs rfl ?_;(first|rfl|omega|(simp<;>fail)|(simp<;>omega)))|refine FrzC.agg ?_))))
theorem m_Make3 {r c:Nat} (hr:r≤2048) (hc:c≤2048) (F:Nat→Nat→Rat) (g:FuncId) (p q s:Pred)
  (hf:∀i k,i<r→k<c→CallOK Tryz.prog g ([]++([iv (i:Nat),iv (k:Nat)]++[.atom p,.atom q,.atom s])) [] (.frac (F i k)) [] []):
  CallOK Tryz.prog 96 [iv r,iv c,.clo g [] [.atom p,.atom q,.atom s]] [] (.tup [mA r c (mk r c F),iv 0]) [] []:=by
 have k1:=m_sides r c
 rw[sides_of (by omega)]at k1
 have hz:(mk r c F).length=r*c:=mk_len ..
 have hrc:r*c≤2048*2048:=Nat.mul_le_mul hr hc
 have t1:IntKind.i64.wrap ((r:Int)*(c:Int))=((r*c:Nat):Int):=by rw[←Int.natCast_mul,wrap_i64 (by omega) (by omega)]
 refine callF (Z:=[]) tabOK mixedOK Tryz.func96 rfl (by kernel_rfl) (by first|rfl|(simp[keylessL,keyless,keylessL_map, *];done)) (by first|rfl|(simp[keylessL,keyless,keylessL_map, *];done)) (by kernel_rfl) rfl ?_
 intro w0 ρ0 hE
 conv=>whnf
 (repeat((first|refine step_w2 rfl rfl ?_|refine step_oA (by first|omega|decide|(simp only[tl0,dlen,List.length_replicate,List.length_set,List.length_map,List.length_zipWith,List.length_take,List.length_append,List.length_cons,List.length_nil];omega)) ?_|refine g_c (by assumption) ?_|rw[bne_self_eq_false]|refine⟨_,op_eqNilF rfl (ev_ok rfl) (ev_ok rfl) Tryz.underlying142, ?_⟩|rw[t1]|rw[Int.toNat_natCast]);conv=>whnf))
 refine SW_loopN hE (fun k=>k) [0,1,2,6,9,30,31] [6,9,25] (fun m fr hp=>∃i:Nat,m=r - i∧i≤r∧fr=[(0,iv r),(1,iv c),(2,.clo g [] [.atom p,.atom q,.atom s]),(6,.ptr 6 0 0 0),(9,.ptr 9 0 0 0),(30,iv r),(31,iv (i:Nat))]∧
  hp=[(6,zM),(9,bM r c 25),(25,fblk ((mk r c F).take (i*c)++List.replicate (r*c - i*c) 0))]) r ?_ ?_ ?_
 ·kernel_rfl
 ·exact⟨0,rfl,Nat.zero_le _,rfl,by rw[Nat.zero_mul,List.take_zero];rfl⟩
 rintro m _ _ ⟨i,rfl,hi,rfl,rfl⟩
 conv=>whnf
 by_cases hlt:i<r
 ·have t2:=dlt hlt
  have t3:=winc (i:=i) (by omega)
  have hic:(i+1)*c≤r*c:=Nat.mul_le_mul_right c hlt
  rw[Nat.succ_mul]at hic
  have hlen:=fill_len (d:=(0:Rat)) (show i*c≤r*c by omega) hz
  have o1:=m_rowM (a:=(mk r c F).take (i*c)++List.replicate (r*c - i*c) 0) ⟨hr,hc,hlen⟩ hlt 25
  (repeat(first|(refine step_w1 rfl rfl ?_;conv=>whnf)|(refine g_c1 (by assumption) rfl ?_;conv=>whnf)|(rw[t2];conv=>whnf)))
  refine SW_loopN hE (fun k=>k) [0,1,2,6,9,10,11,30,31,37,38] [6,9,25] (fun m fr hp=>∃k:Nat,m=c - k∧k≤c∧fr=[(0,iv r),(1,iv c),(2,.clo g [] [.atom p,.atom q,.atom s]),(6,.ptr 6 0 0 0),(9,.ptr 9 0 0 0),(10,iv (i:Nat)),(11,.slc 25 5 (i*c) c),(30,iv r),(31,iv (i:Nat)),(37,iv c),(38,iv (k:Nat))]∧
   hp=[(6,zM),(9,bM r c 25),(25,fblk ((mk r c F).take (i*c+k)++List.replicate (r*c - (i*c+k)) 0))]) c ?_ ?_ ?_
  ·kernel_rfl
  ·exact⟨0,rfl,Nat.zero_le _,rfl,rfl⟩
  rintro m _ _ ⟨k,rfl,hk,rfl,rfl⟩
  conv=>whnf
  by_cases hlk:k<c
  ·have t4:=dlt hlk
   have t5:=winc (i:=k) (by omega)
   have hlen:=fill_len (d:=(0:Rat)) (show i*c+k≤r*c by omega) hz
   have o2:=hf i k hlt hlk
   rw[←mk_el (f:=F) hlt hlk]at o2
   (repeat((first|refine step_w1 rfl rfl ?_|refine step_oL (by first|omega|decide|(simp only[tl0,dlen,List.length_replicate,List.length_set,List.length_map,List.length_zipWith,List.length_take,List.length_append,List.length_cons,List.length_nil];omega)) ?_|refine step_oA (by first|omega|decide|(simp only[tl0,dlen,List.length_replicate,List.length_set,List.length_map,List.length_zipWith,List.length_take,List.length_append,List.length_cons,List.length_nil];omega)) ?_|refine g_c (by assumption) ?_|rw[t4]|rw[t5]|rw[Int.toNat_natCast]);conv=>whnf))
   refine⟨c - (k+1),fun k=>k,[0,1,2,6,9,10,11,30,31,37,38],[6,9,25],by omega,by kernel_rfl,k+1,rfl,hlk,rfl, ?_⟩
   rw[show i*c+(k+1)=i*c+k+1 from rfl,fblk,←fill_set (e:=0) (show i*c+k<r*c by omega) hz]
   rfl
  ·have t4:=dge hlk
   obtain rfl:k=c:=by omega
   (repeat(first|(refine step_w2 rfl rfl ?_;conv=>whnf)|(rw[t4];conv=>whnf)|(rw[t3];conv=>whnf)))
   refine⟨r - (i+1),fun k=>k,[0,1,2,6,9,30,31],[6,9,25],by omega,by kernel_rfl,i+1,rfl,hlt,rfl, ?_⟩
   rw[Nat.succ_mul]
   rfl
 ·have t2:=dge hlt
  obtain rfl:i=r:=by omega
  rw[fill_all hz]
  (repeat(first|(refine step_w2 rfl rfl ?_;conv=>whnf)|(rw[t2];conv=>whnf)))
  (first|exact Recast.refl _|exact Frz.recast (Recast.refl _) rfl|(refine Frz.one rfl rfl ?_;skip)|(refine Frz.tup ?_;(repeat(first|exact FrzC.keyless rfl|exact FrzL.nil|refine FrzL.cons ?_ ?_|(refine FrzC.fracs rfl ?_;(first|rfl|omega|(simp<;>fail)|(simp<;>omega)))|refine FrzC.agg ?_))))
end Go.Proofs.YtbopchpncgdaaaaGreatDoor
namespace Go.Proofs.YtbopchpncgdaaaaGreatDoor
open Go.Sx
set_option linter.unusedSimpArgs false
set_option linter.unusedVariables false
set_option maxRecDepth 100000
set_option maxHeartbeats 4000000
theorem delta_eq (i k:Nat):delta i k=if i=k then((1:Int):Rat)else 0:=by unfold delta;split<;>simp
theorem m_One1 (i k:Nat) (hi:i≤2048) (hk:k≤2048):CallOK Tryz.prog 139 ([]++([iv (i:Nat),iv (k:Nat)]++[])) [] (.frac (delta i k)) [] []:=by
 have k1:=c_fInt 1 (by decide) (by decide)
 rw[delta_eq]
 refine callV (Z:=[]) tabOK mixedOK Tryz.func139 rfl (by kernel_rfl) rfl rfl (by kernel_rfl) rfl ?_
 intro W0 w0 ρ0 hE
 conv=>whnf
 by_cases h:i=k
 ·have t1:((i:Int) != (k:Int))=false:=by rw[h];exact bne_self_eq_false _
  rw[if_pos h]
  (repeat(first|(refine step_w2 rfl rfl ?_;conv=>whnf)|(refine g_c (by assumption) ?_;conv=>whnf)|(rw[t1];conv=>whnf)));(first|exact Recast.refl _|exact Frz.recast (Recast.refl _) rfl|(refine Frz.one rfl rfl ?_;skip)|(refine Frz.tup ?_;skip))
 ·have t1:((i:Int) != (k:Int))=true:=bne_iff_ne.2 (by omega)
  rw[if_neg h]
  (repeat(first|(refine step_w1 rfl rfl ?_;conv=>whnf)|(rw[t1];conv=>whnf)));(first|exact Recast.refl _|exact Frz.recast (Recast.refl _) rfl|(refine Frz.one rfl rfl ?_;skip)|(refine Frz.tup ?_;skip))
theorem m_One (n:Nat) (hn:n≤2048):CallOK Tryz.prog 68 [iv n] [] (.tup [mA n n (mone n),iv 0]) [] []:=by
 have k1:=m_Make0 hn hn delta 139 (fun i k hi hk=>m_One1 i k (by omega) (by omega))
 refine callV (Z:=[]) tabOK mixedOK Tryz.func68 rfl (by kernel_rfl) rfl rfl (by kernel_rfl) rfl ?_
 intro W0 w0 ρ0 hE
 conv=>whnf
 (repeat(first|(refine g_c (by assumption) ?_;conv=>whnf)));(first|exact Recast.refl _|exact Frz.recast (Recast.refl _) rfl|(refine Frz.one rfl rfl ?_;skip)|(refine Frz.tup ?_;skip))
end Go.Proofs.YtbopchpncgdaaaaGreatDoor
namespace Go.Proofs.YtbopchpncgdaaaaGreatDoor
open Go.Sx
set_option linter.unusedSimpArgs false
set_option linter.unusedVariables false
set_option maxRecDepth 100000
set_option maxHeartbeats 4000000
theorem c_IndexFunc (l:List Int) (g:FuncId) (p:Pred) (P:Int→Bool) (hl:l.length<1099511627776) (hf:∀x∈l,CallOK Tryz.prog g ([]++([iv x]++[.atom p])) [] (.val (.bool (P x))) [] []):
  CallOK Tryz.prog 170 [ivec .i64 l,.clo g [] [.atom p]] [] (iv (if l.any P then(l.findIdx P:Nat)else -1)) [] []:=by
 refine callV (Z:=[]) tabOK mixedOK Tryz.func170 rfl (by kernel_rfl) rfl rfl (by kernel_rfl) rfl ?_
 intro W0 w0 ρ0 hE
 conv=>whnf
 (repeat(first|(refine g_o (op_lenM rfl rfl rfl (ev_ok rfl) (tgt rfl) rfl) ?_;conv=>whnf)))
 refine SW_loopN hE (fun k=>k) [0,1,7,8] [] (fun m fr hp=>∃i:Nat,m=l.length - i∧i≤l.length∧(∀j,j<i→P (l.getD j 0)=false)∧fr=[(0,ivec .i64 l),(1,.clo g [] [.atom p]),(7,iv (l.length:Nat)),(8,iv (i:Nat))]∧hp=[]) l.length ?_ ?_ ?_
 ·kernel_rfl
 ·exact⟨0,rfl,Nat.zero_le _,(fun j hj=>by omega),rfl,rfl⟩
 rintro m _ _ ⟨i,rfl,hi,hs,rfl,rfl⟩
 conv=>whnf
 by_cases hlt:i<l.length
 ·have t1:=dlt hlt
  have t2:=winc (i:=i) (by omega)
  have o1:=hf _ (getD_mem (d:=0) hlt)
  cases hP:P (l.getD i 0)
  ·rw[hP]at o1
   (repeat((first|refine step_w1 rfl rfl ?_|refine step_w2 rfl rfl ?_|refine g_c (by assumption) ?_|refine g_o (op_loadA rfl (ev_ok rfl) (tgt rfl) rfl (Nat.succ_ne_zero _) rfl) ?_|refine g_o (op_indexN (α:=Int) (d:=0) rfl (ev_ok rfl) (ev_ok rfl) (tgt rfl) rfl (tgt rfl) rfl (by omega)) ?_|rw[t1]|rw[t2]);conv=>whnf))
   refine⟨l.length - (i+1),fun k=>k,[0,1,7,8],[],by omega,by kernel_rfl,i+1,rfl,hlt, ?_,rfl,rfl⟩
   intro j hj
   by_cases hji:j=i
   ·rw[hji];exact hP
   ·exact hs j (by omega)
  ·rw[hP]at o1
   have e1:l.any P=true:=any_at (d:=0) hlt hP
   have e2:l.findIdx P=i:=by
    rw[List.findIdx_eq hlt]
    refine⟨by rw[List.getD_eq_getElem?_getD,List.getElem?_eq_getElem hlt]at hP;exact hP,fun j hj=> ?_⟩
    have:=hs j hj
    rw[List.getD_eq_getElem?_getD,List.getElem?_eq_getElem (by omega)]at this
    exact this
   rw[if_pos e1,e2]
   (repeat((first|refine step_w1 rfl rfl ?_|refine g_c (by assumption) ?_|refine g_o (op_loadA rfl (ev_ok rfl) (tgt rfl) rfl (Nat.succ_ne_zero _) rfl) ?_|refine g_o (op_indexN (α:=Int) (d:=0) rfl (ev_ok rfl) (ev_ok rfl) (tgt rfl) rfl (tgt rfl) rfl (by omega)) ?_|rw[t1]);conv=>whnf));(first|exact Recast.refl _|exact Frz.recast (Recast.refl _) rfl|(refine Frz.one rfl rfl ?_;skip)|(refine Frz.tup ?_;skip))
 ·have t1:=dge hlt
  have hI:i=l.length:=by omega
  subst hI
  have e1:l.any P=false:=any_no 0 hs
  rw[if_neg (by rw[e1];exact Bool.false_ne_true)]
  (repeat(first|(refine step_w2 rfl rfl ?_;conv=>whnf)|(rw[t1];conv=>whnf)));(first|exact Recast.refl _|exact Frz.recast (Recast.refl _) rfl|(refine Frz.one rfl rfl ?_;skip)|(refine Frz.tup ?_;skip))
theorem c_ContainsFunc (l:List Int) (g:FuncId) (p:Pred) (P:Int→Bool) (hl:l.length<1099511627776) (hf:∀x∈l,CallOK Tryz.prog g ([]++([iv x]++[.atom p])) [] (.val (.bool (P x))) [] []):
  CallOK Tryz.prog 107 [ivec .i64 l,.clo g [] [.atom p]] [] (.val (.bool (l.any P))) [] []:=by
 have k1:=c_IndexFunc l g p P hl hf
 refine callV (Z:=[]) tabOK mixedOK Tryz.func107 rfl (by kernel_rfl) rfl rfl (by kernel_rfl) rfl ?_
 intro W0 w0 ρ0 hE
 conv=>whnf
 cases h:l.any P
 ·rw[if_neg (by rw[h];exact Bool.false_ne_true)]at k1
  (repeat(first|(refine g_c (by assumption) ?_;conv=>whnf)));(first|exact Recast.refl _|exact Frz.recast (Recast.refl _) rfl|(refine Frz.one rfl rfl ?_;skip)|(refine Frz.tup ?_;skip))
 ·rw[if_pos h]at k1
  have t1:decide (((l.findIdx P:Nat):Int)≥0)=true:=decide_eq_true (by omega)
  (repeat(first|(refine g_c (by assumption) ?_;conv=>whnf)|(rw[t1];conv=>whnf)));(first|exact Recast.refl _|exact Frz.recast (Recast.refl _) rfl|(refine Frz.one rfl rfl ?_;skip)|(refine Frz.tup ?_;skip))
abbrev outF (n:Nat) (i:Int):Bool:= !decide (0≤i∧i<(n:Int))
abbrev mpart (c:Nat) (a:List Rat) (rows cols:List Int):List Rat:=mk rows.length cols.length fun i k=>el a c (rows.getD i 0).toNat (cols.getD k 0).toNat
theorem m_Part {r c:Nat} {a:List Rat} (ha:OKM r c a) (rows cols:List Int) (hr:rows.length≤2048) (hc:cols.length≤2048) (h1:∀x∈rows,0≤x∧x<r) (h2:∀x∈cols,0≤x∧x<c):
  CallOK Tryz.prog 44 [mA r c a,ivec .i64 rows,ivec .i64 cols] [] (.tup [mA rows.length cols.length (mpart c a rows cols),iv 0]) [] []:=by
 have k0:=m_Check0 ha
 have k1:=m_sides rows.length cols.length
 rw[sides_of (by omega)]at k1
 have ka:=c_ContainsFunc rows 108 (ptrP (mC r c a)) (outF r) (by omega) (fun x _=>by
  have k1:=m_has x r
  refine callV (Z:=[]) tabOK mixedOK Tryz.func108 rfl (by kernel_rfl) rfl rfl (by kernel_rfl) rfl ?_
  intro W0 w0 ρ0 hE
  conv=>whnf
  (repeat(first|(refine g_c (by assumption) ?_;conv=>whnf)|(refine g_o (op_loadA rfl (ev_ok rfl) (tgt rfl) rfl (Nat.succ_ne_zero _) rfl) ?_;conv=>whnf)|(refine g_o (op_fieldA rfl (ev_ok rfl) (tgt rfl) rfl rfl (Nat.succ_ne_zero _) rfl) ?_;conv=>whnf)));(first|exact Recast.refl _|exact Frz.recast (Recast.refl _) rfl|(refine Frz.one rfl rfl ?_;skip)|(refine Frz.tup ?_;skip)))
 have kb:=c_ContainsFunc cols 110 (ptrP (mC r c a)) (outF c) (by omega) (fun x _=>by
  have k1:=m_has x c
  refine callV (Z:=[]) tabOK mixedOK Tryz.func110 rfl (by kernel_rfl) rfl rfl (by kernel_rfl) rfl ?_
  intro W0 w0 ρ0 hE
  conv=>whnf
  (repeat(first|(refine g_c (by assumption) ?_;conv=>whnf)|(refine g_o (op_loadA rfl (ev_ok rfl) (tgt rfl) rfl (Nat.succ_ne_zero _) rfl) ?_;conv=>whnf)|(refine g_o (op_fieldA rfl (ev_ok rfl) (tgt rfl) rfl rfl (Nat.succ_ne_zero _) rfl) ?_;conv=>whnf)));(first|exact Recast.refl _|exact Frz.recast (Recast.refl _) rfl|(refine Frz.one rfl rfl ?_;skip)|(refine Frz.tup ?_;skip)))
 have e1:rows.any (outF r)=false:=any_no 0 fun i hi=>by rw[outF,decide_eq_true (h1 _ (getD_mem hi))];rfl
 have e2:cols.any (outF c)=false:=any_no 0 fun i hi=>by rw[outF,decide_eq_true (h2 _ (getD_mem hi))];rfl
 rw[e1]at ka
 rw[e2]at kb
 have k2:=m_Make3 hr hc (fun i k=>el a c (rows.getD i 0).toNat (cols.getD k 0).toNat) 111 (ptrP (mC r c a)) (ptrP [ivec .i64 rows]) (ptrP [ivec .i64 cols]) (fun i k hi hk=>by
  have g1:=h1 _ (getD_mem (d:=0) hi)
  have g2:=h2 _ (getD_mem (d:=0) hk)
  have o1:=m_at ha (i:=(rows.getD i 0).toNat) (k:=(cols.getD k 0).toNat) (by omega) (by omega)
  rw[Int.toNat_of_nonneg g1.1,Int.toNat_of_nonneg g2.1]at o1
  refine callV (Z:=[]) tabOK mixedOK Tryz.func111 rfl (by kernel_rfl) rfl rfl (by kernel_rfl) rfl ?_
  intro W0 w0 ρ0 hE
  conv=>whnf
  (repeat((first|refine step_i (by kernel_rfl) ?_|refine g_c (by assumption) ?_|refine g_o (op_loadA rfl (ev_ok rfl) (tgt rfl) rfl (Nat.succ_ne_zero _) rfl) ?_|refine g_o (op_indexN (α:=Int) (d:=0) rfl (ev_ok rfl) (ev_ok rfl) (tgt rfl) rfl (tgt rfl) rfl (by omega)) ?_);conv=>whnf));(first|exact Recast.refl _|exact Frz.recast (Recast.refl _) rfl|(refine Frz.one rfl rfl ?_;skip)|(refine Frz.tup ?_;skip)))
 refine callV (Z:=[3,4,5]) tabOK mixedOK Tryz.func44 rfl (by kernel_rfl) rfl rfl (by kernel_rfl) rfl ?_
 intro W0 w0 ρ0 hE
 conv=>whnf
 (repeat((first|refine step_w1 rfl rfl ?_|refine step_w2 rfl rfl ?_|refine g_c (by assumption) ?_|refine g_o (op_pickF rfl (ev_ok rfl) (ev_ok rfl)) ?_|rw[bne_self_eq_false]|refine g_o (op_lenM rfl rfl rfl (ev_ok rfl) (tgt rfl) rfl) ?_|refine g_o (op_loadA rfl (ev_ok rfl) (tgt rfl) rfl (Nat.succ_ne_zero _) rfl) ?_|refine g_o (op_makeFunc rfl rfl rfl) ?_);conv=>whnf));(first|exact Recast.refl _|exact Frz.recast (Recast.refl _) rfl|(refine Frz.one rfl rfl ?_;skip)|(refine Frz.tup ?_;skip))
end Go.Proofs.YtbopchpncgdaaaaGreatDoor
namespace Go.Sx
set_option linter.unusedSimpArgs false
set_option linter.unusedVariables false
theorem addKey_RR {E:Env} {k:Nat} {blk:Blk} {fr:List (Nat×SV)} {hp:List (Nat×Blk)} (hk:find hp k=none) (he:blk.data.empty) {a:Act} {w:World} (hR:RR E (fn fr hp) a w):
  RR E (fn fr ((k,blk)::hp)) a w:=by
 obtain⟨ρ,hext,hfx,hR⟩:=hR
 have hkn:ρ.key k=none:=by
  cases hx:ρ.key k with
  |none=>rfl
  |some x=>
   obtain⟨b,hb⟩:=hR.hp.dom k x hx
   simp only[fn,LV.blk,hk]at hb
   cases hb
 have hblk:∀j b,(fn fr ((k,blk)::hp) (.k j)).blk=some b→(j=k∧b=blk)∨(j≠k∧(fn fr hp (.k j)).blk=some b):=by
  intro j b hb
  simp only[fn,LV.blk,find]at hb ⊢
  cases hj:Nat.beq k j with
  |true=>rw[hj]at hb;simp only[Option.some.injEq]at hb;exact .inl ⟨(Nat.eq_of_beq_eq_true hj).symm,hb.symm⟩
  |false=>rw[hj]at hb;exact .inr ⟨by rintro rfl;simp[Nat.beq_refl]at hj,hb⟩
 have hne:∀j x,ρ.key j=some x→j≠k:=fun j x hx h=>by rw[h,hkn]at hx;cases hx
 refine⟨ρ,hext,fun j hj=> ?_,{defers:=hR.defers,size:=hR.size,fr:=fun u sv hu=>hR.fr u sv hu,pres:=hR.pres,hp:= ?_}⟩
 ·have:=hfx j hj
  simp only[fn,LV.blk,find]at this ⊢
  cases hb:Nat.beq k j with
  |true=>simp
  |false=>exact this
 ·constructor
  ·intro j b hb
   rcases hblk j b hb with⟨rfl,rfl⟩|⟨_,h1⟩
   ·exact .inr (.inr ⟨hkn,he⟩)
   ·exact hR.hp.blk j b h1
  ·intro j j' x x' b b' hx hx' hn hxe hb hb'
   rcases hblk j b hb with⟨h1,_⟩|⟨_,h1⟩
   ·exact absurd h1 (hne j x hx)
   ·rcases hblk j' b' hb' with⟨h2,_⟩|⟨_,h2⟩
    ·exact absurd h2 (hne j' x' hx')
    ·exact hR.hp.sep j j' x x' b b' hx hx' hn hxe h1 h2
  ·intro j b x hb hw hl hx
   rcases hblk j b hb with⟨h1,_⟩|⟨_,h1⟩
   ·exact absurd h1 (hne j x hx)
   ·exact hR.hp.own j b x h1 hw hl hx
  ·intro j x hx
   obtain⟨b,hb⟩:=hR.hp.dom j x hx
   have:=hne j x hx
   refine⟨b, ?_⟩
   simp only[fn,LV.blk,find]at hb ⊢
   cases hj:Nat.beq k j with
   |true=>exact absurd (Nat.eq_of_beq_eq_true hj).symm this
   |false=>exact hb
  ·exact hR.hp.imm
  ·intro j b x hb hw hl hx
   rcases hblk j b hb with⟨h1,_⟩|⟨_,h1⟩
   ·exact absurd h1 (hne j x hx)
   ·exact hR.hp.immw j b x h1 hw hl hx
theorem retell_RR {E:Env} {j:Nat} {ty:TypeId} {wr:Bool} {cs cs':List SV} {fr:List (Nat×SV)} {hp:List (Nat×Blk)} (hj:find hp j=some ⟨ty,wr,.one cs⟩) (hd:∀ρ z,HasZ ρ cs z→HasZ ρ cs' z) {a:Act} {w:World} (hR:RR E (fn fr hp) a w):
  RR E (fn fr ((j,⟨ty,wr,.one cs'⟩)::hp)) a w:=by
 obtain⟨ρ,hext,hfx,hR⟩:=hR
 have hblk:∀i b,(fn fr ((j,⟨ty,wr,.one cs'⟩)::hp) (.k i)).blk=some b→∃b0,(fn fr hp (.k i)).blk=some b0∧b0.wr=b.wr∧b0.data.live=b.data.live∧(b0=b∨(i=j∧b0=⟨ty,wr,.one cs⟩∧b=⟨ty,wr,.one cs'⟩)):=by
  intro i b hb
  simp only[fn,LV.blk,find]at hb ⊢
  cases hi:Nat.beq j i with
  |true=>
   rw[hi]at hb
   simp only[Option.some.injEq]at hb
   obtain rfl:=Nat.eq_of_beq_eq_true hi
   subst hb
   exact⟨_,hj,rfl,rfl,.inr ⟨rfl,rfl,rfl⟩⟩
  |false=>rw[hi]at hb;exact⟨b,hb,rfl,rfl,.inl rfl⟩
 refine⟨ρ,hext,fun i hi=> ?_,{defers:=hR.defers,size:=hR.size,fr:=fun u sv hu=>hR.fr u sv hu,pres:=hR.pres,hp:= ?_}⟩
 ·have:=hfx i hi
  simp only[fn,LV.blk,find]at this ⊢
  cases hb:Nat.beq j i with
  |true=>simp
  |false=>exact this
 ·constructor
  ·intro i b hb
   obtain⟨b0,h1,h2,h3,rfl|⟨rfl,rfl,rfl⟩⟩:=hblk i b hb
   ·exact hR.hp.blk i b0 h1
   ·rcases hR.hp.blk i _ h1 with h4|⟨b',t,vs,ex,g1,g2,g3,g4,g5⟩|⟨_,h4⟩
    ·cases h4
    ·refine .inr (.inl ⟨b',t,vs,ex,g1,g2, ?_,g4,g5⟩)
     simp only[DataC]at g3 ⊢
     obtain⟨z,g6,g7⟩:=g3
     exact⟨z,hd ρ z g6,g7⟩
    ·exact h4.elim
  ·intro i i' x x' b b' hx hx' hn hxe hb hb' hl hl'
   obtain⟨b0,h1,h2,h3,_⟩:=hblk i b hb
   obtain⟨b0',h1',h2',h3',_⟩:=hblk i' b' hb'
   rw[←h2]
   exact hR.hp.sep i i' x x' b0 b0' hx hx' hn hxe h1 h1' (h3.trans hl) (h3'.trans hl')
  ·intro i b x hb hw hl hx
   obtain⟨b0,h1,h2,h3,_⟩:=hblk i b hb
   exact hR.hp.own i b0 x h1 (h2.trans hw) (h3.trans hl) hx
  ·intro i x hx
   obtain⟨b,hb⟩:=hR.hp.dom i x hx
   simp only[fn,LV.blk,find]at hb ⊢
   cases hi:Nat.beq j i with
   |true=>exact⟨_,rfl⟩
   |false=>exact⟨b,hb⟩
  ·exact hR.hp.imm
  ·intro i b x hb hw hl hx
   obtain⟨b0,h1,h2,h3,_⟩:=hblk i b hb
   exact hR.hp.immw i b0 x h1 (h2.trans hw) (h3.trans hl) hx
theorem HasZ_adopt {ρ:Rho} {k s:Nat}:∀{cs:List SV} {p:Nat} {z:List (List Value)},cs[p]? =some (.val (.slice none 0 0))→HasZ ρ cs z→HasZ ρ (cs.set p (.slc k s 0 0)) z
 |[],p,z,h,_=>by simp at h
 |c::cs,0,z,h,hz=>by
  simp only[List.getElem?_cons_zero,Option.some.injEq]at h
  subst h
  simp only[HasZ,List.set_cons_zero]at hz ⊢
  obtain⟨x,r,rfl,h1,h2⟩:=hz
  refine⟨x,r,rfl, ?_,h2⟩
  simp only[HasC]at h1 ⊢
  exact .inr ⟨trivial,none,h1.1⟩
 |c::cs,p+1,z,h,hz=>by
  simp only[List.getElem?_cons_succ]at h
  simp only[HasZ,List.set_cons_succ]at hz ⊢
  obtain⟨x,r,rfl,h1,h2⟩:=hz
  exact⟨x,r,rfl,h1,HasZ_adopt h h2⟩
theorem SWx_adoptB {E:Env} {j k s p:Nat} {ty:TypeId} {wr:Bool} {cs cs':List SV} {c:Code} {K:Post'} {blk:Blk} {fr:List (Nat×SV)} {hp:List (Nat×Blk)} (hj:find hp j=some ⟨ty,wr,.one cs⟩) (hp':cs[p]? =some (.val (.slice none 0 0))) (hk:find hp k=none) (he:blk.data.empty)
  (hcs:cs.set p (.slc k s 0 0)=cs') (hs:SWx E c K fr ((k,blk)::(j,⟨ty,wr,.one cs'⟩)::hp)):SWx E c K fr hp:=⟨fun a w hR=>hs.run a w (by
  subst hcs
  refine addKey_RR ?_ he (retell_RR hj (fun ρ z hz=>HasZ_adopt hp' hz) hR)
  simp only[find]
  cases hb:Nat.beq j k with
  |false=>exact hk
  |true=>rw[Nat.eq_of_beq_eq_true hb,hk]at hj;cases hj)⟩
theorem tst_tt {t:Bool} {A B:Prop} (h:t=true) (k:A):(t=true→A)∧(t=false→B):=⟨fun _=>k,fun h'=>(by rw[h]at h';cases h')⟩
theorem tst_ff {t:Bool} {A B:Prop} (h:t=false) (k:B):(t=true→A)∧(t=false→B):=⟨fun h'=>(by rw[h]at h';cases h'),fun _=>k⟩
def Wk (c d:SV):Prop:=c.isOne=d.isOne∧∀ρ x,HasC ρ c x→HasC ρ d x
def WkL (l m:List SV):Prop:=(∀z,List.zipWith mkV l z=List.zipWith mkV m z)∧∀ρ z,HasZ ρ l z→HasZ ρ m z
theorem Wk.refl {c:SV}:Wk c c:=⟨rfl,fun _ _ h=>h⟩
theorem Wk.nil {w:Nat} {a:Option Addr}:Wk (.val (.slice a 0 0)) (vecA w []):=⟨rfl,fun _ _ h=>nil_vec h⟩
theorem WkL.nil:WkL [] []:=⟨fun _=>rfl,fun _ _ h=>h⟩
theorem WkL.cons {c d:SV} {l m:List SV} (h:Wk c d) (k:WkL l m):WkL (c::l) (d::m):=
 ⟨fun z=>by cases z with
  |nil=>rfl
  |cons x r=>rw[List.zipWith_cons_cons,List.zipWith_cons_cons,k.1 r,mkV_eq h.1],fun ρ z hz=>by
  simp only[HasZ]at hz ⊢
  obtain⟨x,r,rfl,h1,h2⟩:=hz
  exact⟨x,r,rfl,h.2 ρ x h1,k.2 ρ r h2⟩⟩
theorem Wk.agg {l m:List SV} (h:WkL l m):Wk (.agg l) (.agg m):=⟨rfl,fun ρ x hx=>by
 simp only[HasC]at hx ⊢
 obtain⟨z,h1,h2⟩:=hx
 exact⟨z,h.2 ρ z h1,h2⟩⟩
theorem CallOK.wk {P:Program} {f:FuncId} {args args':List SV} {fk:List (Nat×Blk)} {c:SV} {new upd:List (Nat×Blk)} (h:CallOK P f args' fk c new upd) (hw:WkL args args'):CallOK P f args fk c new upd:=CallOK.args h hw.2 hw.1
end Go.Sx
namespace Go.Proofs.YtbopchpncgdaaaaGreatDoor
open Go.Sx
set_option linter.unusedSimpArgs false
set_option linter.unusedVariables false
set_option maxRecDepth 100000
set_option maxHeartbeats 4000000
def tdF:Nat→Nat→List Nat
 |0,_=>[]
 |f+1,n=>if n=0 then[]else n % 10000::tdF f (n/10000)
def tdW (n:Nat):List Nat:=tdF n n
def W4 (xs:List Int):Prop:=∀i,0≤xs.getD i 0∧xs.getD i 0<10000
theorem W4.set {xs:List Int} (h:W4 xs) {i:Nat} {v:Int} (h0:0≤v) (h1:v<10000):W4 (xs.set i v):=by
 intro j
 rw[getD_set]
 split
 ·exact⟨h0,h1⟩
 ·exact h j
theorem W4.mem {xs:List Int} (h:W4 xs):∀x∈xs,0≤x∧x<10000:=by
 intro x hx
 obtain⟨i,hi⟩:=List.getElem?_of_mem hx
 have:=h i
 rw[List.getD_eq_getElem?_getD,hi]at this
 exact this
def td (n:Nat):List Int:=(tdW n).map Int.ofNat
end Go.Proofs.YtbopchpncgdaaaaGreatDoor
namespace Go.Proofs.YtbopchpncgdaaaaGreatDoor
open Go.Sx
set_option linter.unusedSimpArgs false
set_option linter.unusedVariables false
set_option maxRecDepth 100000
set_option maxHeartbeats 8000000
theorem OKM_mk {r c:Nat} {F:Nat→Nat→Rat} (hr:r≤2048) (hc:c≤2048):OKM r c (mk r c F):=⟨hr,hc,mk_len ..⟩
end Go.Proofs.YtbopchpncgdaaaaGreatDoor
namespace Go.Sx
set_option linter.unusedSimpArgs false
set_option linter.unusedVariables false
theorem CallOK.weak {P:Program} {f:FuncId} {args:List SV} {fk fk':List (Nat×Blk)} {c:SV} {new upd:List (Nat×Blk)} (h:CallOK P f args fk' c new upd) (hk:∀ρ w,PreW fk new ρ w→PreW fk' new ρ w):CallOK P f args fk c new upd:=by
 rcases h with⟨h1,h2⟩|h
 ·exact .inl ⟨h1,fun ρ w z hz hp=>h2 ρ w z hz (hk ρ w hp)⟩
 ·exact .inr fun ρ w z hz hp=>h ρ w z hz (hk ρ w hp)
def roB (b:Bool) (x:Blk):Blk:=⟨x.ty,b&&x.wr,x.data⟩
theorem PreW.some {ρ:Rho} {w:World} {fk new:List (Nat×Blk)} (g:Nat→Bool) (hp:PreW fk new ρ w):PreW (fk.map fun x=>(x.1,roB (g x.1) x.2)) new ρ w:=by
 refine⟨fun k b hk=> ?_,fun k k' x x' b b' hk hk' e1 e2 e3 e4 e5 e6=> ?_,hp.imm,fun k b x hk hw hl hx=> ?_,hp.fresh⟩
 ·obtain⟨⟨q,b0⟩,hq,he⟩:=List.mem_map.1 hk
  cases he
  exact hp.hfk q b0 hq
 ·obtain⟨⟨q,b0⟩,hq,he⟩:=List.mem_map.1 hk
  obtain⟨⟨q',b0'⟩,hq',he'⟩:=List.mem_map.1 hk'
  cases he
  cases he'
  have:=hp.sep q q' x x' b0 b0' hq hq' e1 e2 e3 e4 e5 e6
  simp[roB,this]
 ·obtain⟨⟨q,b0⟩,hq,he⟩:=List.mem_map.1 hk
  cases he
  exact hp.immw q b0 x hq (by simp[roB]at hw;exact hw.2) hl hx
def deads:List Nat→List (Nat×Blk)
 |[]=>[]
 |k::r=>(k,⟨0,true,.dead⟩)::deads r
theorem find_deads {mv:List Nat} {hp:List (Nat×Blk)} {k:Nat}:(k∈mv→find (deads mv++hp) k=some ⟨0,true,.dead⟩)∧(k∉mv→find (deads mv++hp) k=find hp k):=by
 induction mv with
 |nil=>exact⟨(fun h=>by cases h),fun _=>rfl⟩
 |cons j r ih=>
  simp only[deads,List.cons_append,find]
  cases hb:Nat.beq j k with
  |true=>
   obtain rfl:=Nat.eq_of_beq_eq_true hb
   exact⟨fun _=>rfl,fun h=>absurd (List.mem_cons_self ..) h⟩
  |false=>
   have hne:k≠j:=by rintro rfl;simp[Nat.beq_refl]at hb
   exact⟨fun h=>ih.1 ((List.mem_cons.1 h).resolve_left hne),fun h=>ih.2 fun g=>h (List.mem_cons_of_mem _ g)⟩
def fixM (σ:Nat→Nat) (ks mv:List Nat):List Nat→Bool
 |[]=>true
 |k::r=>(memN k mv||(memN k ks&&Nat.beq (σ k) k))&&fixM σ ks mv r
theorem fixM_spec {σ:Nat→Nat} {ks mv:List Nat}:∀{l:List Nat},fixM σ ks mv l=true→∀k∈l,k∈mv∨(k∈ks∧σ k=k)
 |j::r,h,k,hk=>by
  simp only[fixM,Bool.and_eq_true,Bool.or_eq_true,memN_iff]at h
  rcases List.mem_cons.1 hk with rfl|hk
  ·exact h.1.imp id fun g=>⟨g.1,Nat.eq_of_beq_eq_true g.2⟩
  ·exact fixM_spec h.2 k hk
def awayOK (σ:Nat→Nat) (mv:List Nat):List Nat→Bool
 |[]=>true
 |k::r=> !(memN (σ k) mv)&&awayOK σ mv r
theorem awayOK_spec {σ:Nat→Nat} {mv:List Nat}:∀{l:List Nat},awayOK σ mv l=true→∀k∈l,σ k∉mv
 |j::r,h,k,hk=>by
  simp only[awayOK,Bool.and_eq_true,Bool.not_eq_true',←Bool.not_eq_true,memN_iff]at h
  rcases List.mem_cons.1 hk with rfl|hk
  ·exact h.1
  ·exact awayOK_spec h.2 k hk
def moveOK (fx:List Nat) (σ:Nat→Nat) (ts ks mv:List Nat) (fr:List (Nat×SV)) (hp:List (Nat×Blk)):Bool:=
 normOKf ks fr ts&&(normOKh ks hp ks&&(injOK σ ks&&(fixM σ ks mv fx&&(awayOK σ mv ks&&subN mv fx))))
theorem move_RR {E:Env} (hE:E.OK) {σ:Nat→Nat} {ts ks mv:List Nat} {fr:List (Nat×SV)} {hp:List (Nat×Blk)} (h:moveOK E.fx σ ts ks mv fr hp=true) {a:Act} {w:World} (hR:RR E (fn fr hp) a w):
  RR E (fn (normF σ fr ts) (deads mv++normH σ hp ks)) a w:=by
 simp only[moveOK,Bool.and_eq_true]at h
 obtain⟨h1,h2,h3,h4,h5,h6⟩:=h
 obtain⟨ρ,hext,hfx,hR⟩:=hR
 have hinj:=injOK_spec h3
 have hfix:=fixM_spec h4
 have haway:=awayOK_spec h5
 have hmv:=subN_spec h6
 let ρ':Rho:=⟨fun k'=>if k'∈mv then ρ.key k' else match ks.find? (fun k=>σ k==k')with
  |some k=>ρ.key k
  |none=>none,ρ.imm,ρ.glob⟩
 have hkm:∀k∈mv,ρ'.key k=ρ.key k:=fun k hk=>if_pos hk
 have hkey:∀k∈ks,ρ'.key (σ k)=ρ.key k:=by
  intro k hk
  show(if σ k∈mv then ρ.key (σ k)else match ks.find? (fun j=>σ j==σ k)with|some k=>ρ.key k|none=>none)=ρ.key k
  rw[if_neg (haway k hk)]
  cases hf:ks.find? (fun j=>σ j==σ k)with
  |none=>have:=List.find?_eq_none.1 hf k hk;simp at this
  |some j=>
   have hj:=List.mem_of_find?_eq_some hf
   have hs:=List.find?_some hf
   have:j=k:=hinj j hj k hk (by simpa using hs)
   rw[this]
 have hkey':∀k' x,ρ'.key k'=some x→k'∈mv∨(k'∉mv∧∃k∈ks,σ k=k'∧ρ.key k=some x):=by
  intro k' x hx
  by_cases hm:k'∈mv
  ·exact .inl hm
  have hx:(if k'∈mv then ρ.key k' else match ks.find? (fun j=>σ j==k')with|some k=>ρ.key k|none=>none)=some x:=hx
  rw[if_neg hm]at hx
  cases hf:ks.find? (fun j=>σ j==k')with
  |none=>rw[hf]at hx;cases hx
  |some j=>rw[hf]at hx;exact .inr ⟨hm,j,List.mem_of_find?_eq_some hf,by simpa using List.find?_some hf,hx⟩
 have hold:∀k' b',(fn (normF σ fr ts) (deads mv++normH σ hp ks) (.k k')).blk=some b'→(k'∈mv∧b'=⟨0,true,.dead⟩)∨∃k∈ks,σ k=k'∧∃b,find hp k=some b∧b'=renB σ b∧∀j∈refsD b.data,j∈ks:=by
  intro k' b' hb
  simp only[fn,LV.blk]at hb
  by_cases hm:k'∈mv
  ·rw[find_deads.1 hm]at hb;cases hb;exact .inl ⟨hm,rfl⟩
  ·rw[find_deads.2 hm]at hb;exact .inr (normH_find h2 k' b' hb)
 have hlive:∀k' b',(fn (normF σ fr ts) (deads mv++normH σ hp ks) (.k k')).blk=some b'→b'.data.live=true→∃k∈ks,σ k=k'∧∃b,find hp k=some b∧b'=renB σ b∧∀j∈refsD b.data,j∈ks:=by
  intro k' b' hb hl
  rcases hold k' b' hb with⟨_,rfl⟩|g
  ·cases hl
  ·exact g
 have hfk:∀k∈E.fx,ρ'.key k=ρ.key k:=by
  intro k hk
  rcases hfix k hk with e|⟨e1,e2⟩
  ·exact hkm k e
  ·have:=hkey k e1
   rw[e2]at this;exact this
 refine⟨ρ',⟨⟨fun k x hx=> ?_,hext.le.imm⟩,hext.imm,fun k hk=> ?_⟩,fun k hk=> ?_,{defers:=hR.defers,size:=hR.size,fr:= ?_,pres:=hR.pres,hp:= ?_}⟩
 ·rw[hfk k (hE.dom k x hx)];exact hext.le.key k x hx
 ·rw[hfk k hk];exact hext.fix k hk
 ·simp only[fn,LV.blk]
  rcases hfix k hk with e|⟨e1,e2⟩
  ·rw[find_deads.1 e];simp
  ·by_cases hm:k∈mv
   ·rw[find_deads.1 hm];simp
   ·rw[find_deads.2 hm]
    obtain⟨b,hb⟩:=normH_has (σ:=σ) h2 k e1
    rw[e2]at hb
    rw[hb];simp
 ·intro t sv ht
  obtain⟨c,c1,rfl,c3⟩:=normF_lk h1 t sv ht
  exact(ren_has (ρ:=ρ) (ρ':=ρ') (σ:=σ) rfl c _ (fun k hk=>hkey k (c3 k hk))).2 (hR.fr t c (by simp only[fn,LV.sv];exact c1))
 ·constructor
  ·intro k' b' hb
   rcases hold k' b' hb with⟨_,rfl⟩|⟨k,hk,rfl,b,b1,rfl,b3⟩
   ·exact .inl rfl
   ·exact(renB_iff (ρ:=ρ) (ρ':=ρ') (σ:=σ) rfl k b (hkey k hk) (fun j hj=>hkey j (b3 j hj))).2 (hR.hp.blk k b (by simp only[fn,LV.blk];exact b1))
  ·intro k1 k2 x1 x2 b1 b2 hx1 hx2 hne he hb1 hb2 hl1 hl2
   obtain⟨j1,m1,rfl,c1,d1,rfl,_⟩:=hlive k1 b1 hb1 hl1
   obtain⟨j2,m2,rfl,c2,d2,rfl,_⟩:=hlive k2 b2 hb2 hl2
   rw[hkey j1 m1]at hx1
   rw[hkey j2 m2]at hx2
   exact hR.hp.sep j1 j2 x1 x2 c1 c2 hx1 hx2 (fun h=>hne (by rw[h])) he (by simp only[fn,LV.blk];exact d1) (by simp only[fn,LV.blk];exact d2) (by rwa [renB,renD_live]at hl1) (by rwa [renB,renD_live]at hl2)
  ·intro k' b' x hb hw hl hx
   obtain⟨k,hk,rfl,b,b1,rfl,_⟩:=hlive k' b' hb hl
   rw[hkey k hk]at hx
   exact hR.hp.own k b x (by simp only[fn,LV.blk];exact b1) hw (by rwa [renB,renD_live]at hl) hx
  ·intro k' x hx
   simp only[fn,LV.blk]
   rcases hkey' k' x hx with hm|⟨hm,k,hk,rfl,_⟩
   ·exact⟨_,find_deads.1 hm⟩
   ·rw[find_deads.2 hm]
    exact normH_has (σ:=σ) h2 k hk
  ·exact hR.hp.imm
  ·intro k' b' x hb hw hl hx
   obtain⟨k,hk,rfl,b,b1,rfl,_⟩:=hlive k' b' hb hl
   rw[hkey k hk]at hx
   exact hR.hp.immw k b x (by simp only[fn,LV.blk];exact b1) hw (by rwa [renB,renD_live]at hl) hx
theorem SWx_move {E:Env} (hE:E.OK) (σ:Nat→Nat) (ts ks mv:List Nat) {c:Code} {K:Post'} {fr:List (Nat×SV)} {hp:List (Nat×Blk)} (h:moveOK E.fx σ ts ks mv fr hp=true)
  (hs:SWx E c K (normF σ fr ts) (deads mv++normH σ hp ks)):SWx E c K fr hp:=⟨fun a w hR=>hs.run a w (move_RR hE h hR)⟩
theorem SWx_norm {E:Env} (hE:E.OK) (σ:Nat→Nat) (ts ks:List Nat) {c:Code} {K:Post'} {fr:List (Nat×SV)} {hp:List (Nat×Blk)} (h:normOK E.fx σ ts ks fr hp=true)
  (hs:SWx E c K (normF σ fr ts) (normH σ hp ks)):SWx E c K fr hp:=⟨SW_norm hE σ ts ks h hs.run⟩
theorem get_nil {hp:List (Nat×Blk)}:∀j c,(j,c)∈([]:List (Nat×Blk))→find hp j=some c:=fun _ _ h=>by cases h
theorem get_cons {hp l:List (Nat×Blk)} {k:Nat} {b:Blk} (h:find hp k=some b) (r:∀j c,(j,c)∈l→find hp j=some c):∀j c,(j,c)∈(k,b)::l→find hp j=some c:=by
 intro j c hm
 rcases List.mem_cons.1 hm with e|e
 ·cases e;exact h
 ·exact r j c e
theorem NamesOK.same {fk:List (Nat×Blk)}:NamesOK fk [] fun k=>k:=⟨fun _ _ _ _ _ _ h _=>h,(fun _ _ h=>by cases h),fun _ _ h=>by cases h⟩
mutual
theorem renS_id:∀c:SV,renS (fun k=>k) c=c
 |.ptr .. |.slc .. |.any|.val _|.nat _|.int _|.frac _|.atom _=>rfl
 |.agg cs=>by rw[renS,renL_id cs]
 |.tup vs=>by rw[renS,renL_id vs]
 |.clo f a b=>by rw[renS,renL_id a,renL_id b]
 |.yld k rc ts a=>by rw[renS,renL_id a]
theorem renL_id:∀l:List SV,renL (fun k=>k) l=l
 |[]=>rfl
 |c::l=>by rw[renL,renS_id c,renL_id l]
end
theorem renB_id (b:Blk):renB (fun k=>k) b=b:=by
 obtain⟨ty,wr,d⟩:=b
 cases d<;>simp only[renB,renD,renL_id]
theorem renH_id:∀l:List (Nat×Blk),renH (fun k=>k) l=l
 |[]=>rfl
 |(k,b)::r=>by rw[renH,renB_id,renH_id r]
theorem callI {P:Program} {T:List (TypeId×TI)} {Z:List Nat} (hT:TabOK P T) (hm:P.follows .mixedOrders=true) {f:FuncId} {fn':Func} {code:Code} (hf:P.funcs[f]? =some fn') (hb:fn'.body=some code)
  (hn:(fn'.name== "runtime.NumGoroutine")=false) {args:List SV} {fk:List (Nat×Blk)} {c:SV} {upd:List (Nat×Blk)} (hs:ShapeOK args fk c [] upd) (hnt:Nat.ble args.length fn'.ntmps=true)
  (h:∀W0 w0 ρ0,Env.OK ⟨P,T,W0,w0,fn'.ntmps,ρ0,keysOf fk,Z,none⟩→cwp ⟨P,T,W0,w0,fn'.ntmps,ρ0,keysOf fk,Z,none⟩ code (Ret T fn'.results.toList (Fin c [] upd)) (enum 0 args) fk):
  CallOK P f args fk c [] upd:=by
 have:=callK hT hm hf hb hn hs hnt (fun k=>k) NamesOK.same h
 rwa [renL_id,renH_id,renS_id,renH_id upd]at this
section
variable {P:Program} {o:Oper} {fr:List (Nat×SV)} {hp:List (Nat×Blk)}
theorem ptr1_has {ρ:Rho} {v:Value} {k i:Nat} (h:Has ρ (.ptr k 1 i 0) v):Has ρ (.ptr k 1 0 i) v:=by
 obtain⟨z,⟨b,t',h1,h2⟩,h3⟩:=h
 refine⟨z,⟨b,t',h1, ?_⟩,h3⟩
 rw[h2];simp
theorem g_load1 {K:SV→List (Nat×Blk)→List (Nat×Blk)→List (Nat×Blk)→Prop} {t ty:TypeId} {x:Operand} {ti:TI} {k i:Nat} {wr:Bool} {cs l:List SV} {c:SV} (ho:o.op= .load t x) (hx:EvOK fr x (.ptr k 1 i 0))
  (hf:find hp k=some ⟨ty,wr,.one cs⟩) (ht:TOK P t ti) (hs:sub 64 cs i ti.size=some l) (hsz:ti.size≠0) (hsh:shapeAs ti l=some c) (hK:K c [(k,⟨ty,wr,.one cs⟩)] [] []):
  ∃c fk new upd,OpOK P o fr fk c new upd∧(∀j b,(j,b)∈fk→find hp j=some b)∧(∀j b,(j,b)∈new→find hp j=none)∧(∀j b,(j,b)∈upd→∃b0,(j,b0)∈fk∧b0.wr=true∧b0.data.live=true∧b.wr=true)∧K c fk new upd:=
 ⟨c,_,[],[],op_load (ob:=none) (i:=0) (s:=1) ho (fun ρ a h=>ptr1_has (hx ρ a h)) ht (List.mem_singleton.2 rfl) rfl trivial hs hsz hsh,one_fk hf,nil_new,nil_upd,hK⟩
theorem g_store1 {K:SV→List (Nat×Blk)→List (Nat×Blk)→List (Nat×Blk)→Prop} {t ty:TypeId} {x y:Operand} {ti:TI} {k i:Nat} {cs cs' nw:List SV} {sv:SV} (ho:o.op= .store t x y) (hx:EvOK fr x (.ptr k 1 i 0))
  (hy:EvOK fr y sv) (hf:find hp k=some ⟨ty,true,.one cs⟩) (ht:TOK P t ti) (hc:comps sv=some nw) (hw:SV.widthL nw=ti.size) (hle:i+ti.size≤SV.widthL cs) (hp':put 64 cs i ti.size nw=some cs')
  (hK:K .any [(k,⟨ty,true,.one cs⟩)] [] [(k,⟨ty,true,.one cs'⟩)]):
  ∃c fk new upd,OpOK P o fr fk c new upd∧(∀j b,(j,b)∈fk→find hp j=some b)∧(∀j b,(j,b)∈new→find hp j=none)∧(∀j b,(j,b)∈upd→∃b0,(j,b0)∈fk∧b0.wr=true∧b0.data.live=true∧b.wr=true)∧K c fk new upd:=
 ⟨.any,_,[],_,op_store (ob:=none) (i:=0) (s:=1) ho (fun ρ a h=>ptr1_has (hx ρ a h)) hy ht (List.mem_singleton.2 rfl) rfl trivial hc hw hle hp' rfl,one_fk hf,nil_new,one_upd (List.mem_singleton.2 rfl) rfl rfl rfl,hK⟩
end
end Go.Sx
namespace Go.Proofs.YtbopchpncgdaaaaGreatDoor
open Go.Sx
set_option linter.unusedSimpArgs false
set_option linter.unusedVariables false
set_option maxRecDepth 100000
set_option maxHeartbeats 40000000
abbrev wkC (r m p:Nat) (d:Rat):List SV:=[.slc 1002 1 0 r,iv m,.slc 1003 1 0 p,.frac d]
abbrev wkB (b:Bool) (r m p:Nat) (d:Rat):Blk:=⟨147,b,.one (wkC r m p d)⟩
abbrev rkB (b:Bool) (l:List SV):Blk:=⟨22,b,.one l⟩
abbrev rk (i c:Nat):SV:=.slc (1010+i) 5 0 c
abbrev pvB (b:Bool) (l:List Int):Blk:=⟨3,b,.ints .i64 l⟩
abbrev rwB (b:Bool) (l:List Rat):Blk:=⟨53,b,.fracs l⟩
abbrev cellsE (r c:Nat):List SV:=(List.range r).map fun i=>rk i c
def rowsE (b:Nat→Bool) (M:Nat→List Rat):Nat→Nat→List (Nat×Blk)
 |0,_=>[]
 |n+1,i=>(1010+i,rwB (b i) (M i))::rowsE b M n (i+1)
abbrev hpE (bW bR bP:Bool) (w:Nat→Bool) (r m c p:Nat) (d:Rat) (pv:List Int) (M:Nat→List Rat):List (Nat×Blk):=
 (1001,wkB bW r m p d)::(1002,rkB bR (cellsE r c))::(1003,pvB bP pv)::rowsE w M r 0
theorem e_swap {r i k:Nat} (m c p:Nat) (d:Rat) (pv:List Int) (M:Nat→List Rat) (hr:r≤6) (hi:i<r) (hk:k<i):
  CallOK Tryz.prog 140 [.ptr 1001 0 0 0,iv i,iv k] (hpE true true false (fun _=>false) r m c p d pv M) (.tup []) []
   [(1001,wkB true r m p (-d)),(1002,rkB true (((cellsE r c).set i (rk k c)).set k (rk i c)))]:=by
 have k1:=c_fNeg d
 obtain rfl|rfl|rfl|rfl|rfl:r=2∨r=3∨r=4∨r=5∨r=6:=by omega
 all_goals obtain rfl|rfl|rfl|rfl|rfl:i=1∨i=2∨i=3∨i=4∨i=5:=by omega
 all_goals first|omega|skip
 all_goals obtain rfl|rfl|rfl|rfl|rfl:k=0∨k=1∨k=2∨k=3∨k=4:=by omega
 all_goals first|omega|skip
 all_goals
  refine callI (Z:=[]) tabOK mixedOK Tryz.func140 rfl (by kernel_rfl) (ShapeOK.of rfl rfl rfl rfl rfl rfl rfl rfl rfl rfl rfl) rfl ?_
  intro W0 w0 ρ0 hE
  conv=>whnf
  (repeat((first|refine step_w1 rfl rfl ?_|refine step_i (by kernel_rfl) ?_|refine step_oA (by first|omega|decide|(simp only[tl0,dlen,List.length_replicate,List.length_set,List.length_map,List.length_zipWith,List.length_take,List.length_append,List.length_cons,List.length_nil];omega)) ?_|refine g_c (by assumption) ?_|refine g_load1 rfl (ev_ok rfl) rfl (tgt rfl) rfl (Nat.succ_ne_zero _) rfl ?_|refine g_store1 rfl (ev_ok rfl) (ev_ok rfl) rfl (tgt rfl) rfl rfl (Nat.le_of_ble_eq_true rfl) rfl ?_);conv=>whnf))
  exact⟨Recast.refl _,get_nil,get_cons rfl (get_cons rfl get_nil)⟩
theorem e_swap0 (i:Int):CallOK Tryz.prog 140 [.ptr 1001 0 0 0,iv i,iv i] [(1001,⟨0,false,.dead⟩)] (.tup []) [] []:=by
 refine callI (Z:=[]) tabOK mixedOK Tryz.func140 rfl (by kernel_rfl) (ShapeOK.of rfl rfl rfl rfl rfl rfl rfl rfl rfl rfl rfl) rfl ?_
 intro W0 w0 ρ0 hE
 conv=>whnf
 (repeat(first|(refine step_w2 rfl rfl ?_;conv=>whnf)|(rw[bne_self_eq_false];conv=>whnf)))
 exact⟨Recast.refl _,get_nil,get_nil⟩
end Go.Proofs.YtbopchpncgdaaaaGreatDoor
namespace Go.Sx
set_option linter.unusedSimpArgs false
set_option linter.unusedVariables false
def pickH (hp:List (Nat×Blk)):List Nat→List (Nat×Blk)
 |[]=>[]
 |k::r=>match find hp k with
  |some b=>(k,b)::pickH hp r
  |none=>pickH hp r
theorem normH_id (hp:List (Nat×Blk)):∀ks,normH (fun k=>k) hp ks=pickH hp ks
 |[]=>rfl
 |k::r=>by
  rw[normH,pickH,normH_id hp r]
  cases find hp k with
  |none=>rfl
  |some b=>simp only[renB_id]
theorem SW_loopE {E:Env} (hE:E.OK) {c:Code} {K:Post'} {fr:List (Nat×SV)} {hp:List (Nat×Blk)} (ts:List Nat) (I:Nat→List (Nat×SV)→List (Nat×Blk)→Prop) (m:Nat)
  (h0:normOK E.fx (fun k=>k) ts E.fx fr hp=true) (hI:I m (normF (fun k=>k) fr ts) (pickH hp E.fx))
  (h:∀m fr hp,I m fr hp→cwp E c (fun e fr' hp'=>match e with
   |.normal=>∃m',m'<m∧normOK E.fx (fun k=>k) ts E.fx fr' hp'=true∧I m' (normF (fun k=>k) fr' ts) (pickH hp' E.fx)
   |e=>K e fr' hp') fr hp):SWx E (.loop c) K fr hp:=by
 refine⟨?_⟩
 refine SW_norm hE (fun k=>k) ts E.fx h0 (SW_loop (fun m fr hp=>∃fr0 hp0,(∀a w,RR E (fn fr hp) a w→RR E (fn fr0 hp0) a w)∧I m fr0 hp0) m ⟨_,_,fun _ _ h=>h,by rw[normH_id];exact hI⟩ ?_)
 rintro m fr hp ⟨fr0,hp0,hw,hI⟩ a w hR
 refine Code.wpIn_mono ?_ (cwp_sound hE c _ fr0 hp0 (h m fr0 hp0 hI) a w (hw a w hR))
 rintro e a' w' ⟨fr',hp',h1,h2⟩
 cases e with
 |normal=>
  obtain⟨m',hlt,hok,hI'⟩:=h1
  rw[←normH_id]at hI'
  exact⟨fr',hp',⟨m',hlt,_,_,fun a w hR=>norm_RR hE hok hR,hI'⟩,h2⟩
 |_=>exact⟨fr',hp',h1,h2⟩
theorem normOK_of {fx:List Nat} {σ:Nat→Nat} {ts ks:List Nat} {fr:List (Nat×SV)} {hp:List (Nat×Blk)} (h1:normOKf ks fr ts=true) (h2:normOKh ks hp ks=true) (h3:(injOK σ ks&&fixOK σ ks fx)=true):normOK fx σ ts ks fr hp=true:=by
 rw[normOK,h1,h2,h3];rfl
theorem normOKh_nil {ks:List Nat} {hp:List (Nat×Blk)}:normOKh ks hp []=true:=rfl
theorem normOKh_cons {ks r:List Nat} {hp:List (Nat×Blk)} {k:Nat} {b:Blk} (h:find hp k=some b) (h1:subN (refsD b.data) ks=true) (h2:normOKh ks hp r=true):normOKh ks hp (k::r)=true:=by
 simp only[normOKh,h,h1,h2,Bool.and_self]
theorem subN_app {l m r:List Nat}:subN (l++m) r=(subN l r&&subN m r):=by
 induction l with
 |nil=>rfl
 |cons x l ih=>simp only[List.cons_append,subN,ih,Bool.and_assoc]
theorem refsB_nil {r:List Nat}:subN (refsB []) r=true:=rfl
theorem refsB_cons {k:Nat} {b:Blk} {l:List (Nat×Blk)} {r:List Nat} (h:subN (refsD b.data) r=true) (h2:subN (refsB l) r=true):subN (refsB ((k,b)::l)) r=true:=by
 rw[refsB,subN_app,h,h2];rfl
theorem sub_mid {A B:List SV} {x:SV} (hx:x.width=1):∀(f:Nat),(∀a∈A,a.width=1)→A.length+1<f→sub f (A++x::B) A.length 1=some [x]:=by
 induction A with
 |nil=>
  intro f _ hf
  match f,hf with
  |f+2,_=>simp[sub,hx]
 |cons a A ih=>
  intro f ha hf
  match f,hf with
  |f+1,hf=>
   have:=ih f (fun b hb=>ha b (List.mem_cons_of_mem _ hb)) (by simp only[List.length_cons]at hf;omega)
   simp only[List.cons_append,List.length_cons,sub,ha a (List.mem_cons_self ..),Nat.add_sub_cancel]
   rw[show Nat.ble 1 (A.length+1)=true from Nat.ble_eq_true_of_le (by omega)]
   exact this
inductive WL:List SV→List SV→Prop
 |refl {l}:WL l l
 |eq {c l m}:WL l m→WL (c::l) (c::m)
 |any {c l m}:c.width=1→WL l m→WL (c::l) (.any::m)
theorem WL.has {ρ:Rho} {l m:List SV} (h:WL l m):∀z,HasZ ρ l z→HasZ ρ m z:=by
 induction h with
 |refl=>exact fun _ h=>h
 |eq _ ih=>
  intro z hz
  simp only[HasZ]at hz ⊢
  obtain⟨x,r,rfl,h1,h2⟩:=hz
  exact⟨x,r,rfl,h1,ih r h2⟩
 |any hw _ ih=>
  intro z hz
  simp only[HasZ]at hz ⊢
  obtain⟨x,r,rfl,h1,h2⟩:=hz
  refine⟨x,r,rfl, ?_,ih r h2⟩
  obtain⟨g1,g2⟩:=HasC.len _ x h1
  rw[hw]at g1
  match x,g1,g2 with
  |[v],_,g2=>simp only[HasC];exact⟨v,rfl,g2 v (List.mem_singleton.2 rfl)⟩
inductive WkBlk:Blk→Blk→Prop
 |dead {b ty}:WkBlk b ⟨ty,false,.dead⟩
 |same {ty wr wr' d}:(wr'=true→wr=true)→WkBlk ⟨ty,wr,d⟩ ⟨ty,wr',d⟩
 |one {ty wr wr' cs cs'}:(wr'=true→wr=true)→WL cs cs'→WkBlk ⟨ty,wr,.one cs⟩ ⟨ty,wr',.one cs'⟩
theorem ff_imp {p:Prop} (h:false=true):p:=by cases h
theorem WkBlk.ok {b b':Blk} (h:WkBlk b b') {ρ:Rho} {w:World} {k:Nat} (hb:BlkOK ρ w k b):BlkOK ρ w k b':=by
 cases h with
 |dead=>exact .inl rfl
 |same=>exact hb
 |one _ hl=>
  rcases hb with h|⟨b,t,vs,ex,h1,h2,⟨z,h3,h4⟩,h5⟩|⟨h1,h2⟩
  ·cases h
  ·exact .inr (.inl ⟨b,t,vs,ex,h1,h2,⟨z,hl.has z h3,h4⟩,h5⟩)
  ·exact .inr (.inr ⟨h1,h2⟩)
theorem WkBlk.live {b b':Blk} (h:WkBlk b b') (hl:b'.data.live=true):b.data.live=true∧(b'.wr=true→b.wr=true):=by
 cases h with
 |dead=>cases hl
 |same g=>exact⟨hl,g⟩
 |one g _=>exact⟨rfl,g⟩
def fkOf (hp:List (Nat×Blk)):List (Nat×Blk)→List (Nat×Blk)
 |[]=>[]
 |(k,_)::r=>match find hp k with
  |some b=>(k,b)::fkOf hp r
  |none=>fkOf hp r
theorem fkOf_mem {hp:List (Nat×Blk)}:∀{l:List (Nat×Blk)} (j:Nat) (b:Blk),(j,b)∈fkOf hp l→find hp j=some b
 |(k,_)::r,j,b,hm=>by
  rw[fkOf]at hm
  cases hf:find hp k with
  |none=>rw[hf]at hm;exact fkOf_mem j b hm
  |some c=>
   rw[hf]at hm
   rcases List.mem_cons.1 hm with e|e
   ·cases e;exact hf
   ·exact fkOf_mem j b e
inductive WkH (hp:List (Nat×Blk)):List (Nat×Blk)→Prop
 |nil:WkH hp []
 |cons {k b b' l}:find hp k=some b→WkBlk b b'→WkH hp l→WkH hp ((k,b')::l)
theorem WkH.mem {hp l:List (Nat×Blk)} (h:WkH hp l):∀k b',(k,b')∈l→∃b,(k,b)∈fkOf hp l∧WkBlk b b':=by
 induction h with
 |nil=>intro _ _ h;cases h
 |cons hf hw _ ih=>
  intro j b' hm
  rw[fkOf,hf]
  rcases List.mem_cons.1 hm with e|e
  ·cases e;exact⟨_,List.mem_cons_self ..,hw⟩
  ·obtain⟨c,h1,h2⟩:=ih j b' e
   exact⟨c,List.mem_cons_of_mem _ h1,h2⟩
theorem PreW.view {hp l new:List (Nat×Blk)} {ρ:Rho} {w:World} (h:WkH hp l) (hp':PreW (fkOf hp l) new ρ w):PreW l new ρ w:=by
 refine⟨fun k b hk=> ?_,fun k k' x x' b b' hk hk' e1 e2 e3 e4 e5 e6=> ?_,hp'.imm,fun k b x hk hw hl hx=> ?_,hp'.fresh⟩
 ·obtain⟨c,h1,h2⟩:=h.mem k b hk
  exact h2.ok (hp'.hfk k c h1)
 ·obtain⟨c,h1,h2⟩:=h.mem k b hk
  obtain⟨c',h1',h2'⟩:=h.mem k' b' hk'
  have:=hp'.sep k k' x x' c c' h1 h1' e1 e2 e3 e4 (h2.live e5).1 (h2'.live e6).1
  cases hb:b.wr with
  |false=>rfl
  |true=>rw[(h2.live e5).2 hb]at this;cases this
 ·obtain⟨c,h1,h2⟩:=h.mem k b hk
  exact hp'.immw k c x h1 ((h2.live hl).2 hw) (h2.live hl).1 hx
section
variable {P:Program} {f:FuncId} {args:List SV} {c:SV} {hp:List (Nat×Blk)}
theorem g_cv {k:SV→List (Nat×Blk)→List (Nat×Blk)→List (Nat×Blk)→Prop} {l upd:List (Nat×Blk)} (h:CallOK P f args l c [] upd) (hw:WkH hp l) (hu:UpdOK (fkOf hp l) upd) (hk:k c (fkOf hp l) [] upd):
  ∃fk c new upd,CallOK P f args fk c new upd∧FkOK hp fk∧NewOK hp new∧UpdOK fk upd∧k c fk new upd:=
 ⟨fkOf hp l,c,[],upd,CallOK.weak h fun _ _=>PreW.view hw,fkOf_mem,nil_new,hu,hk⟩
end
theorem updB_spec {fk upd:List (Nat×Blk)} (h:updKB fk upd=true) (hw:(upd.all fun x=>x.2.wr)=true):UpdOK fk upd:=fun j b hm=>by
 obtain⟨b0,h1,h2,h3⟩:=updKB_spec h j b hm
 exact⟨b0,h1,h2,h3,List.all_eq_true.1 hw _ hm⟩
def inj1 (σ:Nat→Nat) (k:Nat):List Nat→Bool
 |[]=>true
 |j::r=>(Nat.beq j k|| !(Nat.beq (σ k) (σ j)))&&inj1 σ k r
theorem inj1_spec {σ:Nat→Nat} {k:Nat}:∀{l:List Nat},inj1 σ k l=true→∀j∈l,k≠j→σ k≠σ j
 |i::r,h,j,hj,hne=>by
  simp only[inj1,Bool.and_eq_true,Bool.or_eq_true,Bool.not_eq_true']at h
  rcases List.mem_cons.1 hj with rfl|hj
  ·rcases h.1 with g|g
   ·exact absurd (Nat.eq_of_beq_eq_true g).symm hne
   ·intro e;rw[e]at g;simp at g
  ·exact inj1_spec h.2 j hj hne
def namesB (σ:Nat→Nat) (ks:List Nat):List (Nat×Blk)→Bool
 |[]=>true
 |(k,b)::r=>(!b.wr||inj1 σ k ks)&&namesB σ ks r
theorem namesB_spec {σ:Nat→Nat} {ks:List Nat}:∀{l:List (Nat×Blk)},namesB σ ks l=true→∀q b,(q,b)∈l→b.wr=true→∀j∈ks,q≠j→σ q≠σ j
 |(k,b)::r,h,q,c,hm,hw,j,hj,hne=>by
  simp only[namesB,Bool.and_eq_true,Bool.or_eq_true,Bool.not_eq_true']at h
  rcases List.mem_cons.1 hm with e|e
  ·cases e
   rcases h.1 with g|g
   ·rw[hw]at g;cases g
   ·exact inj1_spec g j hj hne
  ·exact namesB_spec h.2 q c e hw j hj hne
theorem NamesOK.of {fk:List (Nat×Blk)} {σ:Nat→Nat} (h:namesB σ (keysOf fk) fk=true):NamesOK fk [] σ:=
 ⟨fun q q' b b' hq hq' hne hw=>namesB_spec h q b hq hw q' (keysOf_mem.2 ⟨b',hq'⟩) hne,(fun _ _ h=>by cases h),fun _ _ h=>by cases h⟩
end Go.Sx
namespace Go.Proofs.YtbopchpncgdaaaaGreatDoor
open Go.Sx
set_option linter.unusedSimpArgs false
set_option linter.unusedVariables false
set_option maxRecDepth 100000
set_option maxHeartbeats 40000000
theorem set_at {l:List Rat} {j:Nat} {x:Rat} (h:j<l.length):(l.set j x).getD j 0=x:=by simp[List.getD_eq_getElem?_getD,h]
theorem set_off {l:List Rat} {j k:Nat} {x:Rat} (h:k≠j):(l.set j x).getD k 0=l.getD k 0:=by simp[List.getD_eq_getElem?_getD,List.getElem?_set_ne (Ne.symm h)]
theorem range_ext {o:List Rat} {n:Nat} {F:Nat→Rat} (hl:o.length=n) (h:∀k,k<n→o.getD k 0=F k):o=(List.range n).map F:=by
 refine List.ext_getElem (by simp[hl]) fun k h1 h2=> ?_
 have:=h k (by omega)
 rw[List.getD_eq_getElem?_getD,List.getElem?_eq_getElem h1]at this
 simpa using this
abbrev wvB (r m:Nat) (d:Rat):Blk:=⟨147,false,.one [.slc 1002 1 0 r,iv m,.any,.frac d]⟩
abbrev qB (q:Rat):Blk:=⟨53,false,.one [.frac q]⟩
abbrev mid (A B:List SV) (n:Nat):List SV:=A++ .slc 1010 5 0 n::B
theorem e_each1 {r i:Nat} (A B:List SV) (m c:Nat) (d q:Rat) (x:List Rat) (F:Nat→Rat) (g:FuncId) (hi:A.length=i) (hA:∀a∈A,a.width=1) (hr:r≤40) (hir:i<r) (hc:c≤4096) (hx:x.length=c)
  (hR:subN (refsL (mid A B c)) [1001,1002,1006,1010]=true)
  (hf:∀k,k<c→CallOK Tryz.prog g ([]++([iv (k:Nat),.frac (x.getD k 0)]++[.ptr 1006 0 0 0])) [(1006,qB q)] (.frac (F k)) [] []) (σ:Nat→Nat) (hσ:NamesOK [(1001,wvB r m d),(1002,rkB false (mid A B c)),(1006,qB q),(1010,rwB true x)] [] σ):
  CallOK Tryz.prog 191 (renL σ [.ptr 1001 0 0 0,iv i,.clo g [] [.ptr 1006 0 0 0]]) (renH σ [(1001,wvB r m d),(1002,rkB false (mid A B c)),(1006,qB q),(1010,rwB true x)]) (renS σ (.tup [])) (renH σ []) (renH σ [(1010,rwB true ((List.range c).map F))]):=by
 refine callK (Z:=[]) tabOK mixedOK Tryz.func191 rfl (by kernel_rfl) (ShapeOK.of rfl (by exact refsB_cons rfl (refsB_cons hR (refsB_cons rfl (refsB_cons rfl refsB_nil)))) rfl rfl rfl rfl rfl rfl rfl rfl rfl) rfl σ hσ ?_
 intro W0 w0 ρ0 hE
 have hs:sub 64 (mid A B c) A.length 1=some [.slc 1010 5 0 c]:=sub_mid rfl 64 hA (by omega)
 obtain⟨AA,hAA⟩:∃X,X=A:=⟨A,rfl⟩
 rcases A with _|⟨a,A⟩
 all_goals
  subst hi
  conv=>whnf
  (repeat((first|refine step_oA (by first|omega|decide|(simp only[tl0,dlen,List.length_replicate,List.length_set,List.length_map,List.length_zipWith,List.length_take,List.length_append,List.length_cons,List.length_nil];omega)) ?_|refine g_load1 rfl (ev_ok rfl) rfl (tgt rfl) hs (Nat.succ_ne_zero _) rfl ?_|rw[Int.toNat_natCast]|rw[Nat.zero_add]);conv=>whnf))
  refine SW_loopE hE [0,1,2,14,15,16] (fun m' fr hp=>∃(j:Nat) (o:List Rat),m'=c - j∧j≤c∧o.length=c∧(∀k,k<j→o.getD k 0=F k)∧(∀k,j≤k→o.getD k 0=x.getD k 0)∧
   fr=[(0,.ptr 1001 0 0 0),(1,iv AA.length),(2,.clo g [] [.ptr 1006 0 0 0]),(14,.slc 1010 5 0 c),(15,iv c),(16,iv (j:Nat))]∧hp=[(1001,wvB r m d),(1002,rkB false (mid AA B c)),(1006,qB q),(1010,rwB true o)]) c ?_ ?_ ?_
  ·exact normOK_of (by kernel_rfl) (by exact normOKh_cons rfl rfl (normOKh_cons rfl hR (normOKh_cons rfl rfl (normOKh_cons rfl rfl normOKh_nil)))) (by kernel_rfl)
  ·exact⟨0,x,rfl,Nat.zero_le _,hx,fun k h=>by omega,fun k _=>rfl,by subst hAA;rfl,by subst hAA;rfl⟩
  rintro m _ _ ⟨j,o,rfl,hj,hl,ho,hu,rfl,rfl⟩
  subst hAA
  conv=>whnf
  by_cases hlt:j<c
  ·have t1:=dlt hlt
   have t2:=winc (i:=j) (by omega)
   have hk:=hf j hlt
   rw[←hu j (Nat.le_refl _)]at hk
   (repeat((first|refine step_i (by kernel_rfl) ?_|refine step_oL (by first|omega|decide|(simp only[tl0,dlen,List.length_replicate,List.length_set,List.length_map,List.length_zipWith,List.length_take,List.length_append,List.length_cons,List.length_nil];omega)) ?_|refine step_oA (by first|omega|decide|(simp only[tl0,dlen,List.length_replicate,List.length_set,List.length_map,List.length_zipWith,List.length_take,List.length_append,List.length_cons,List.length_nil];omega)) ?_|refine g_c1 (by assumption) rfl ?_|refine tst_tt t1 ?_|refine g_load1 rfl (ev_ok rfl) rfl (tgt rfl) hs (Nat.succ_ne_zero _) rfl ?_|rw[t1]|rw[t2]|rw[Int.toNat_natCast]|rw[Nat.zero_add]);conv=>whnf))
   refine⟨c - (j+1),by omega,normOK_of (by kernel_rfl) (by exact normOKh_cons rfl rfl (normOKh_cons rfl hR (normOKh_cons rfl rfl (normOKh_cons rfl rfl normOKh_nil)))) (by kernel_rfl),j+1,o.set j (F j),rfl,hlt,by rw[List.length_set];exact hl, ?_, ?_,rfl,rfl⟩
   ·intro k h
    by_cases e:k=j
    ·rw[e,set_at (by omega)]
    ·rw[set_off e];exact ho k (by omega)
   ·intro k h
    rw[set_off (by omega)];exact hu k (by omega)
  ·have t1:=dge hlt
   obtain rfl:j=c:=by omega
   have hx:=range_ext hl ho
   (repeat(first|(refine tst_ff t1 ?_;conv=>whnf)))
   exact⟨Recast.refl _,get_nil,get_cons (by rw[←hx];rfl) get_nil⟩
end Go.Proofs.YtbopchpncgdaaaaGreatDoor
namespace Go.Proofs.YtbopchpncgdaaaaGreatDoor
open Go.Sx
set_option linter.unusedSimpArgs false
set_option linter.unusedVariables false
set_option maxRecDepth 100000
set_option maxHeartbeats 40000000
theorem len_szH {n:Nat} (h:sz n≤4398046511104):(wInts n).length<274877906944:=by
 have:=wlen_sz (n:=n) (M:=137438953472) (by omega)
 omega
theorem natHuge:NatOK 4398046511104 where
 big:=by decide
 cmp a b ha hb:=c_Cmp a b (by have:=len_szH ha;omega) (by have:=len_szH hb;omega)
 add a b h:=n_Add a b (by have:=len_szH (n:=a) (Nat.le_trans (sz_mono (by omega)) h);omega) (by have:=len_szH (n:=b) (Nat.le_trans (sz_mono (by omega)) h);omega)
 sub a b ha h:=n_Sub a b (by have:=len_szH ha;omega) h
 subF a b hb h:=c_SubF a b (by have:=len_szH hb;have:=len_le_of (Nat.lt_trans h (lt_of_len b));omega) (by have:=len_szH hb;omega) h
 mul a b h:=n_Mul a b (len_szH (by omega)) (len_szH (by omega))
 div a b ha hb h0:=c_Div a b (len_szH ha) (len_szH hb) h0
 divZ a:=c_DivZ a
 gcd a b ha hb:=c_Gcd a b (len_szH ha) (len_szH hb)
theorem x_Add (a b:Rat) (h:fs a+fs b≤4398046511104):CallOK Tryz.prog 93 [.frac a,.frac b] [] (.frac (a+b)) [] []:=c_fAdd natHuge a b (by unfold fs at h;omega)
theorem x_Mul (a b:Rat) (h:fs a+fs b≤4398046511104):CallOK Tryz.prog 40 [.frac a,.frac b] [] (.frac (a*b)) [] []:=c_fMul natHuge a b (by unfold fs at h;omega)
theorem x_Div (a b:Rat) (hb:b≠0) (h:fs a+fs b≤4398046511104):CallOK Tryz.prog 67 [.frac a,.frac b] [] (.tup [.frac (a/b),.val (.int .i64 0)]) [] []:=c_fDiv natHuge a b hb (by unfold fs at h;omega)
theorem x_Sub (a b:Rat) (h:fs a+fs b≤4398046511104):CallOK Tryz.prog 194 [.frac a,.frac b] [] (.frac (a - b)) [] []:=by
 have k1:=c_fNeg b
 have k2:=x_Add a (-b) (by rw[fs_neg];exact h)
 rw[←Rat.sub_eq_add_neg]at k2
 refine callV (Z:=[]) tabOK mixedOK Tryz.func194 rfl (by kernel_rfl) rfl rfl (by kernel_rfl) rfl ?_
 intro W0 w0 ρ0 hE
 conv=>whnf
 (repeat(first|(refine step_i (by kernel_rfl) ?_;conv=>whnf)|(refine g_c (by assumption) ?_;conv=>whnf)));(first|exact Recast.refl _|exact Frz.recast (Recast.refl _) rfl|(refine Frz.one rfl rfl ?_;skip)|(refine Frz.tup ?_;skip))
theorem e_clear1 (k:Int) (x q:Rat) (hq:q≠0) (h:fs x+fs q≤4398046511104):CallOK Tryz.prog 192 ([]++([iv k,.frac x]++[.ptr 1006 0 0 0])) [(1006,qB q)] (.frac (x/q)) [] []:=by
 have k1:=x_Div x q hq h
 refine callI (Z:=[]) tabOK mixedOK Tryz.func192 rfl (by kernel_rfl) (ShapeOK.of rfl rfl rfl rfl rfl rfl rfl rfl rfl rfl rfl) rfl ?_
 intro W0 w0 ρ0 hE
 conv=>whnf
 (repeat(first|(refine g_c (by assumption) ?_;conv=>whnf)))
 exact⟨Recast.refl _,get_nil,get_nil⟩
abbrev wbB:Blk:=⟨140,false,.one [.ptr 1001 0 0 0]⟩
abbrev mid2 (C D:List SV) (n:Nat):List SV:=C++ .slc 1011 5 0 n::D
theorem e_clear2 {r top k:Nat} (C D:List SV) (m c A:Nat) (d x q:Rat) (T o:List Rat) (hi:C.length=top) (hC:∀a∈C,a.width=1) (hr:r≤40) (ht:top<r) (hk:k<c) (hT:T.length=c)
  (hR:subN (refsL (mid2 C D c)) [1006,1005,1001,1002,1011,1010]=true) (hx:fs x≤A) (hq:fs q≤A) (hn:fs (T.getD k 0)≤2*A) (hA:4*A≤4398046511104):
  CallOK Tryz.prog 193 ([]++([iv (k:Nat),.frac x]++[.ptr 1006 0 0 0,.ptr 1005 0 0 0,ptrA [iv top]])) [(1006,qB q),(1005,wbB),(1001,wvB r m d),(1002,rkB false (mid2 C D c)),(1011,rwB false T),(1010,rwB false o)] (.frac (x - q*T.getD k 0)) [] []:=by
 have k1:=x_Mul q (T.getD k 0) (by omega)
 have k2:=x_Sub x (q*T.getD k 0) (by have:=fs_mul q (T.getD k 0);omega)
 refine callI (Z:=[]) tabOK mixedOK Tryz.func193 rfl (by kernel_rfl) (ShapeOK.of rfl (by exact refsB_cons rfl (refsB_cons rfl (refsB_cons rfl (refsB_cons hR (refsB_cons rfl (refsB_cons rfl refsB_nil)))))) rfl rfl rfl rfl rfl rfl rfl rfl rfl) rfl ?_
 intro W0 w0 ρ0 hE
 have hs:sub 64 (mid2 C D c) C.length 1=some [.slc 1011 5 0 c]:=sub_mid rfl 64 hC (by omega)
 rcases C with _|⟨a,C⟩
 all_goals
  subst hi
  conv=>whnf
  (repeat((first|refine step_i (by kernel_rfl) ?_|refine step_oL (by first|omega|decide|(simp only[tl0,dlen,List.length_replicate,List.length_set,List.length_map,List.length_zipWith,List.length_take,List.length_append,List.length_cons,List.length_nil];omega)) ?_|refine step_oA (by first|omega|decide|(simp only[tl0,dlen,List.length_replicate,List.length_set,List.length_map,List.length_zipWith,List.length_take,List.length_append,List.length_cons,List.length_nil];omega)) ?_|refine g_c (by assumption) ?_|refine g_o (op_loadA rfl (ev_ok rfl) (tgt rfl) rfl (Nat.succ_ne_zero _) rfl) ?_|refine g_load1 rfl (ev_ok rfl) rfl (tgt rfl) hs (Nat.succ_ne_zero _) rfl ?_|rw[Int.toNat_natCast]|rw[Nat.zero_add]);conv=>whnf))
  exact⟨Recast.refl _,get_nil,get_nil⟩
end Go.Proofs.YtbopchpncgdaaaaGreatDoor
namespace Go.Sx
set_option linter.unusedSimpArgs false
set_option linter.unusedVariables false
section
variable {P:Program} {f:FuncId} {args:List SV} {c:SV} {hp:List (Nat×Blk)}
end
end Go.Sx
namespace Go.Proofs.YtbopchpncgdaaaaGreatDoor
open Go.Sx
set_option linter.unusedSimpArgs false
set_option linter.unusedVariables false
set_option maxRecDepth 100000
set_option maxHeartbeats 40000000
abbrev cap2 (top:Nat):List SV:=[.ptr 1006 0 0 0,.ptr 1005 0 0 0,ptrA [iv top]]
abbrev fk2 (r m c:Nat) (A B:List SV) (d q:Rat) (T x:List Rat) (b:Bool):List (Nat×Blk):=[(1006,qB q),(1005,wbB),(1001,wvB r m d),(1002,rkB false (mid A B c)),(1011,rwB false T),(1010,rwB b x)]
theorem e_each2 {r i top:Nat} (A B:List SV) (m c:Nat) (d q:Rat) (x T:List Rat) (F:Nat→Rat) (g:FuncId) (hi:A.length=i) (hA:∀a∈A,a.width=1) (hr:r≤40) (hir:i<r) (hc:c≤4096) (hx:x.length=c)
  (hR:subN (refsL (mid A B c)) [1006,1005,1001,1002,1011,1010]=true)
  (hf:∀k o,k<c→CallOK Tryz.prog g ([]++([iv (k:Nat),.frac (x.getD k 0)]++cap2 top)) (fk2 r m c A B d q T o false) (.frac (F k)) [] []) (σ:Nat→Nat) (hσ:NamesOK (fk2 r m c A B d q T x true) [] σ):
  CallOK Tryz.prog 191 (renL σ [.ptr 1001 0 0 0,iv i,.clo g [] (cap2 top)]) (renH σ (fk2 r m c A B d q T x true)) (renS σ (.tup [])) (renH σ []) (renH σ [(1010,rwB true ((List.range c).map F))]):=by
 refine callK (Z:=[]) tabOK mixedOK Tryz.func191 rfl (by kernel_rfl) (ShapeOK.of rfl (by exact refsB_cons rfl (refsB_cons rfl (refsB_cons rfl (refsB_cons hR (refsB_cons rfl (refsB_cons rfl refsB_nil)))))) rfl rfl rfl rfl rfl rfl rfl rfl rfl) rfl σ hσ ?_
 intro W0 w0 ρ0 hE
 have hs:sub 64 (mid A B c) A.length 1=some [.slc 1010 5 0 c]:=sub_mid rfl 64 hA (by omega)
 obtain⟨AA,hAA⟩:∃X,X=A:=⟨A,rfl⟩
 rcases A with _|⟨a,A⟩
 all_goals
  subst hi
  conv=>whnf
  (repeat((first|refine step_oA (by first|omega|decide|(simp only[tl0,dlen,List.length_replicate,List.length_set,List.length_map,List.length_zipWith,List.length_take,List.length_append,List.length_cons,List.length_nil];omega)) ?_|refine g_load1 rfl (ev_ok rfl) rfl (tgt rfl) hs (Nat.succ_ne_zero _) rfl ?_|rw[Int.toNat_natCast]|rw[Nat.zero_add]);conv=>whnf))
  refine SW_loopE hE [0,1,2,14,15,16] (fun m' fr hp=>∃(j:Nat) (o:List Rat),m'=c - j∧j≤c∧o.length=c∧(∀k,k<j→o.getD k 0=F k)∧(∀k,j≤k→o.getD k 0=x.getD k 0)∧
   fr=[(0,.ptr 1001 0 0 0),(1,iv AA.length),(2,.clo g [] (cap2 top)),(14,.slc 1010 5 0 c),(15,iv c),(16,iv (j:Nat))]∧hp=fk2 r m c AA B d q T o true) c ?_ ?_ ?_
  ·exact normOK_of (by kernel_rfl) (by exact normOKh_cons rfl rfl (normOKh_cons rfl rfl (normOKh_cons rfl rfl (normOKh_cons rfl hR (normOKh_cons rfl rfl (normOKh_cons rfl rfl normOKh_nil)))))) (by kernel_rfl)
  ·exact⟨0,x,rfl,Nat.zero_le _,hx,fun k h=>by omega,fun k _=>rfl,by subst hAA;rfl,by subst hAA;rfl⟩
  rintro m _ _ ⟨j,o,rfl,hj,hl,ho,hu,rfl,rfl⟩
  subst hAA
  conv=>whnf
  by_cases hlt:j<c
  ·have t1:=dlt hlt
   have t2:=winc (i:=j) (by omega)
   have hk:=fun b=>hf j b hlt
   rw[←hu j (Nat.le_refl _)]at hk
   (repeat((first|refine step_i (by kernel_rfl) ?_|refine step_oL (by first|omega|decide|(simp only[tl0,dlen,List.length_replicate,List.length_set,List.length_map,List.length_zipWith,List.length_take,List.length_append,List.length_cons,List.length_nil];omega)) ?_|refine step_oA (by first|omega|decide|(simp only[tl0,dlen,List.length_replicate,List.length_set,List.length_map,List.length_zipWith,List.length_take,List.length_append,List.length_cons,List.length_nil];omega)) ?_|refine tst_tt t1 ?_|refine g_load1 rfl (ev_ok rfl) rfl (tgt rfl) hs (Nat.succ_ne_zero _) rfl ?_|refine g_cv (hk o) (WkH.cons rfl (.same fun h=>h) (WkH.cons rfl (.same fun h=>h) (WkH.cons rfl (.same fun h=>h) (WkH.cons rfl (.same fun h=>h) (WkH.cons rfl (.same fun h=>h) (WkH.cons rfl (.same ff_imp) .nil)))))) nil_upd ?_|rw[t1]|rw[t2]|rw[Int.toNat_natCast]|rw[Nat.zero_add]);conv=>whnf))
   refine⟨c - (j+1),by omega,normOK_of (by kernel_rfl) (by exact normOKh_cons rfl rfl (normOKh_cons rfl rfl (normOKh_cons rfl rfl (normOKh_cons rfl hR (normOKh_cons rfl rfl (normOKh_cons rfl rfl normOKh_nil)))))) (by kernel_rfl),j+1,o.set j (F j),rfl,hlt,by rw[List.length_set];exact hl, ?_, ?_,rfl,rfl⟩
   ·intro k h
    by_cases e:k=j
    ·rw[e,set_at (by omega)]
    ·rw[set_off e];exact ho k (by omega)
   ·intro k h
    rw[set_off (by omega)];exact hu k (by omega)
  ·have t1:=dge hlt
   obtain rfl:j=c:=by omega
   have hx:=range_ext hl ho
   (repeat(first|(refine tst_ff t1 ?_;conv=>whnf)))
   exact⟨Recast.refl _,get_nil,get_cons (by rw[←hx];rfl) get_nil⟩
end Go.Proofs.YtbopchpncgdaaaaGreatDoor
namespace Go.Proofs.YtbopchpncgdaaaaGreatDoor
open Go.Sx
set_option linter.unusedSimpArgs false
set_option linter.unusedVariables false
set_option maxRecDepth 100000
set_option maxHeartbeats 4000000
theorem sum_shift (f:Nat→Rat):∀n,sumR (n+1) f=f 0+sumR n (fun i=>f (i+1))
 |0=>by simp only[sumR];grind
 |n+1=>by rw[sumR,sum_shift f n,sumR];grind
theorem sum_zeros {f:Nat→Rat} {n:Nat} (h:∀i,i<n→f i=0):sumR n f=0:=by
 rw[sum_congr n h,sum_const_zero]
theorem sum_one {f:Nat→Rat} {j:Nat}:∀n,j<n→(∀i,i<n→i≠j→f i=0)→sumR n f=f j
 |0,h,_=>by omega
 |n+1,hj,h=>by
  rw[sumR]
  by_cases e:j=n
  ·subst e;rw[sum_zeros fun i hi=>h i (by omega) (by omega)];grind
  ·rw[sum_one n (by omega) (fun i hi hn=>h i (by omega) hn),h n (by omega) (fun g=>e g.symm)];grind
theorem sum_two {f:Nat→Rat} {j:Nat} {n:Nat} (hj:j+1<n) (h:∀i,i<n→i≠j→i≠j+1→f i=0) (h2:f j+f (j+1)=0):sumR n f=0:=by
 have e:sumR n f=sumR n (fun i=>(if i=j then f j else 0)+(if i=j+1 then f (j+1)else 0)):=sum_congr n fun i hi=>by
  by_cases h1:i=j
  ·subst h1;simp;grind
  ·by_cases h3:i=j+1
   ·subst h3;simp;grind
   ·rw[h i hi h1 h3,if_neg h1,if_neg h3];grind
 rw[e,sum_add,sum_one (f:=fun i=>if i=j then f j else 0) (j:=j) n (by omega) (fun i _ hn=>if_neg hn),sum_one (f:=fun i=>if i=j+1 then f (j+1)else 0) (j:=j+1) n hj (fun i _ hn=>if_neg hn)]
 simp[h2]
abbrev Mx:=Nat→Nat→Rat
def sg:Nat→Rat
 |0=>1
 |n+1=> - sg n
theorem sg_add (m:Nat):∀n,sg (m+n)=sg m*sg n
 |0=>by rw[sg,Nat.add_zero];grind
 |n+1=>by rw[←Nat.add_assoc,sg,sg,sg_add m n];grind
theorem sg_sq (n:Nat):sg n*sg n=1:=by
 induction n with
 |zero=>rw[sg];grind
 |succ n ih=>rw[sg];grind
def sk (k j:Nat):Nat:=if j<k then j else j+1
theorem sk_ne (k j:Nat):sk k j≠k:=by unfold sk;split<;>omega
theorem sk_lt {n k j:Nat} (hj:j<n):sk k j<n+1:=by unfold sk;split<;>omega
theorem sk_le {k j:Nat} (h:j<k):sk k j=j:=if_pos h
theorem sk_ge {k j:Nat} (h:k≤j):sk k j=j+1:=if_neg (by omega)
theorem sk_sk {k l j:Nat} (h:l≤k):sk (k+1) (sk l j)=sk l (sk k j):=by
 unfold sk
 by_cases h1:j<l
 ·simp[h1,show j<k by omega,show j<k+1 by omega]
 ·by_cases h2:j<k
  ·simp[h1,h2]
  ·simp[h1,h2,show ¬j+1<l by omega]
def mn (A:Mx) (k:Nat):Mx:=fun i j=>A (i+1) (sk k j)
def det:Nat→Mx→Rat
 |0,_=>1
 |n+1,A=>sumR (n+1) fun k=>sg k*A 0 k*det n (mn A k)
theorem det_succ (n:Nat) (A:Mx):det (n+1) A=sumR (n+1) fun k=>sg k*A 0 k*det n (mn A k):=rfl
theorem det_congr:∀{n:Nat} {A B:Mx},(∀i k,i<n→k<n→A i k=B i k)→det n A=det n B
 |0,_,_,_=>rfl
 |n+1,A,B,h=>by
  rw[det_succ,det_succ]
  refine sum_congr _ fun k hk=> ?_
  rw[h 0 k (by omega) hk,det_congr (n:=n) (A:=mn A k) (B:=mn B k) (fun i j hi hj=>h _ _ (by omega) (sk_lt hj))]
def setRow (A:Mx) (i:Nat) (x:Nat→Rat):Mx:=fun p q=>if p=i then x q else A p q
theorem setRow_at (A:Mx) (i:Nat) (x:Nat→Rat):setRow A i x i=x:=by funext q;simp[setRow]
theorem setRow_ne (A:Mx) {i p:Nat} (x:Nat→Rat) (h:p≠i):setRow A i x p=A p:=by funext q;simp[setRow,h]
theorem setRow_self (A:Mx) (i:Nat):setRow A i (A i)=A:=by
 funext p q
 by_cases h:p=i
 ·subst h;rw[setRow_at]
 ·rw[setRow_ne _ _ h]
theorem setRow_two (A:Mx) (i:Nat) (x y:Nat→Rat):setRow (setRow A i x) i y=setRow A i y:=by
 funext p q;unfold setRow;split<;>rfl
theorem setRow_comm (A:Mx) {i j:Nat} (x y:Nat→Rat) (h:i≠j):setRow (setRow A i x) j y=setRow (setRow A j y) i x:=by
 funext p q;unfold setRow
 by_cases h1:p=i
 ·subst h1;simp[h]
 ·simp[h1]
structure Alt (n:Nat) (F:Mx→Rat):Prop where
 congr:∀A B,(∀i k,i<n→k<n→A i k=B i k)→F A=F B
 lin:∀A i x c y,i<n→F (setRow A i fun k=>x k+c*y k)=F (setRow A i x)+c*F (setRow A i y)
 alt:∀A i,i+1<n→(∀k,k<n→A i k=A (i+1) k)→F A=0
theorem mn_set0 (A:Mx) (x:Nat→Rat) (k:Nat):mn (setRow A 0 x) k=mn A k:=by
 funext i j;rw[mn,setRow_ne _ _ (by omega)];rfl
theorem mn_set (A:Mx) (x:Nat→Rat) (k i:Nat):mn (setRow A (i+1) x) k=setRow (mn A k) i fun j=>x (sk k j):=by
 funext p q
 by_cases h:p=i
 ·subst h;rw[setRow_at,mn,setRow_at]
 ·rw[setRow_ne _ _ h,mn,setRow_ne _ _ (by omega)];rfl
theorem det_lin:∀(n:Nat) (A:Mx) (i:Nat) (x:Nat→Rat) (c:Rat) (y:Nat→Rat),i<n→det n (setRow A i fun k=>x k+c*y k)=det n (setRow A i x)+c*det n (setRow A i y)
 |0,_,_,_,_,_,h=>by omega
 |n+1,A,0,x,c,y,_=>by
  rw[det_succ,det_succ,det_succ,sum_mulL,←sum_add]
  refine sum_congr _ fun k _=> ?_
  rw[setRow_at,setRow_at,setRow_at,mn_set0,mn_set0,mn_set0]
  grind
 |n+1,A,i+1,x,c,y,h=>by
  rw[det_succ,det_succ,det_succ,sum_mulL,←sum_add]
  refine sum_congr _ fun k _=> ?_
  rw[setRow_ne _ _ (by omega),setRow_ne _ _ (by omega),setRow_ne _ _ (by omega),mn_set,mn_set,mn_set,det_lin n _ _ _ _ _ (by omega)]
  grind
theorem sum_anti (n:Nat) (T:Nat→Nat→Rat) (h:∀k l,l≤k→k<n→T (k+1) l= - T l k):sumR (n+1) (fun k=>sumR n (T k))=0:=by
 have e1:sumR (n+1) (fun k=>sumR n (T k))=sumR (n+1) (fun k=>sumR n fun l=>if l<k then T k l else 0)+sumR (n+1) (fun k=>sumR n fun l=>if l<k then 0 else T k l):=by
  rw[←sum_add]
  refine sum_congr _ fun k _=> ?_
  rw[←sum_add]
  exact sum_congr _ fun l _=>by split<;>grind
 have e2:sumR (n+1) (fun k=>sumR n fun l=>if l<k then T k l else 0)=sumR n fun k=>sumR n fun l=>if l<k+1 then T (k+1) l else 0:=by
  rw[sum_shift,sum_zeros fun l _=>if_neg (by omega)];grind
 have e3:sumR (n+1) (fun k=>sumR n fun l=>if l<k then 0 else T k l)=sumR n fun k=>sumR n fun l=>if k<l then 0 else T l k:=by
  rw[sumR,sum_zeros (f:=fun l=>if l<n then 0 else T n l) fun l hl=>if_pos hl,sum_swap];grind
 rw[e1,e2,e3,←sum_add]
 refine sum_zeros fun k hk=> ?_
 rw[←sum_add]
 refine sum_zeros fun l hl=> ?_
 by_cases h1:l≤k
 ·rw[if_pos (by omega),if_neg (by omega),h k l h1 hk];grind
 ·rw[if_neg (by omega),if_pos (by omega)];grind
theorem det_alt0:∀(n:Nat) (A:Mx) (i:Nat),i+1<n→(∀k,k<n→A i k=A (i+1) k)→det n A=0
 |0,_,_,h,_=>by omega
 |1,_,_,h,_=>by omega
 |n+2,A,0,_,h=>by
  rw[det_succ]
  have e:∀k,k<n+2→sg k*A 0 k*det (n+1) (mn A k)=sumR (n+1) fun l=>sg k*A 0 k*(sg l*A 1 (sk k l)*det n (mn (mn A k) l)):=fun k _=>by
   rw[det_succ,sum_mulL];rfl
  rw[sum_congr _ e]
  refine sum_anti (n+1) (fun k l=>sg k*A 0 k*(sg l*A 1 (sk k l)*det n (mn (mn A k) l))) fun k l hl hk=> ?_
  have e1:mn (mn A (k+1)) l=mn (mn A l) k:=by
   funext i j
   rw[mn,mn,mn,mn,sk_sk hl]
  show sg (k+1)*A 0 (k+1)*(sg l*A 1 (sk (k+1) l)*det n (mn (mn A (k+1)) l))= - (sg l*A 0 l*(sg k*A 1 (sk l k)*det n (mn (mn A l) k)))
  rw[e1,sk_le (by omega),sk_ge hl,h (k+1) (by omega),h l (by omega),sg]
  grind
 |n+2,A,i+1,hi,h=>by
  rw[det_succ]
  refine sum_zeros fun k _=> ?_
  rw[det_alt0 (n+1) (mn A k) i (by omega) (fun j hj=>h _ (sk_lt hj))];grind
theorem det_Alt (n:Nat):Alt n (det n):=⟨fun _ _=>det_congr,fun A i x c y=>det_lin n A i x c y,fun A i=>det_alt0 n A i⟩
section
variable {n:Nat} {F:Mx→Rat} (hF:Alt n F)
include hF
theorem Alt.add (A:Mx) {i:Nat} (x y:Nat→Rat) (hi:i<n):F (setRow A i fun k=>x k+y k)=F (setRow A i x)+F (setRow A i y):=by
 have:=hF.lin A i x 1 y hi
 rw[show(fun k=>x k+1*y k)=fun k=>x k+y k from by funext k;grind]at this
 rw[this];grind
theorem Alt.zero (A:Mx) {i:Nat} (hi:i<n):F (setRow A i fun _=>0)=0:=by
 have:=hF.add A (fun _=>0) (fun _=>0) hi
 rw[show(fun _:Nat=>(0:Rat)+0)=fun _=>0 from by funext k;grind]at this
 grind
theorem Alt.smul (A:Mx) {i:Nat} (c:Rat) (x:Nat→Rat) (hi:i<n):F (setRow A i fun k=>c*x k)=c*F (setRow A i x):=by
 have:=hF.lin A i (fun _=>0) c x hi
 rw[hF.zero A hi,show(fun k=>(0:Rat)+c*x k)=fun k=>c*x k from by funext k;grind]at this
 rw[this];grind
theorem Alt.sum (A:Mx) {i:Nat} (hi:i<n) (a:Nat→Rat) (e:Nat→Nat→Rat):∀m,F (setRow A i fun k=>sumR m fun p=>a p*e p k)=sumR m fun p=>a p*F (setRow A i (e p))
 |0=>by simp only[sumR];exact hF.zero A hi
 |m+1=>by
  simp only[sumR]
  rw[hF.lin A i (fun k=>sumR m fun p=>a p*e p k) (a m) (e m) hi,Alt.sum A hi a e m]
def swapRow (A:Mx) (i j:Nat):Mx:=fun p=>if p=i then A j else if p=j then A i else A p
omit hF in
theorem swap_set (A:Mx) {i j:Nat} (h:i≠j):swapRow A i j=setRow (setRow A i (A j)) j (A i):=by
 funext p q
 unfold swapRow
 by_cases h1:p=i
 ·subst h1;rw[if_pos rfl,setRow_ne _ _ h,setRow_at]
 ·by_cases h2:p=j
  ·subst h2;rw[if_neg h1,if_pos rfl,setRow_at]
  ·rw[if_neg h1,if_neg h2,setRow_ne _ _ h2,setRow_ne _ _ h1]
theorem Alt.swap_of (A:Mx) {i j:Nat} (hi:i<n) (hj:j<n) (hne:i≠j) (h0:∀x,F (setRow (setRow A i x) j x)=0):F (swapRow A i j)= - F A:=by
 have h1:=h0 (fun k=>A i k+A j k)
 rw[hF.add _ _ _ hj,setRow_comm _ _ _ hne,hF.add _ _ _ hi,setRow_comm _ _ _ hne,hF.add _ _ _ hi,
  setRow_comm _ _ _ hne.symm,h0,setRow_comm _ _ _ hne.symm,setRow_comm _ _ _ hne.symm,setRow_comm _ _ _ hne.symm,h0]at h1
 have e1:setRow (setRow A i (A i)) j (A j)=A:=by rw[setRow_self,setRow_self]
 rw[←swap_set A hne]at h1
 rw[e1]at h1
 grind
theorem Alt.swap1 (A:Mx) {i:Nat} (hi:i+1<n):F (swapRow A i (i+1))= - F A:=
 hF.swap_of A (by omega) hi (by omega) fun x=>hF.alt _ i hi fun k _=>by rw[setRow_ne _ _ (by omega),setRow_at,setRow_at]
theorem Alt.same (d:Nat):∀(A:Mx) (i:Nat),i+d+1<n→(∀k,k<n→A i k=A (i+d+1) k)→F A=0:=by
 induction d with
 |zero=>exact fun A i hi h=>hF.alt A i hi h
 |succ d ih=>
  intro A i hi h
  have h1:=ih (swapRow A (i+d+1) (i+d+1+1)) i (by omega) fun k hk=>by
   unfold swapRow
   rw[if_neg (by omega),if_neg (by omega),if_pos rfl];exact h k hk
  rw[hF.swap1 A (by omega)]at h1
  grind
theorem Alt.eq (A:Mx) {i j:Nat} (hi:i<n) (hj:j<n) (hne:i≠j) (h:∀k,k<n→A i k=A j k):F A=0:=by
 rcases Nat.lt_or_gt_of_ne hne with g|g
 ·exact hF.same (j - i - 1) A i (by omega) fun k hk=>by rw[show i+(j - i - 1)+1=j by omega];exact h k hk
 ·exact hF.same (i - j - 1) A j (by omega) fun k hk=>by rw[show j+(i - j - 1)+1=i by omega];exact(h k hk).symm
theorem Alt.swap (A:Mx) {i j:Nat} (hi:i<n) (hj:j<n) (hne:i≠j):F (swapRow A i j)= - F A:=
 hF.swap_of A hi hj hne fun x=>hF.eq _ hi hj hne fun k _=>by rw[setRow_ne _ _ hne,setRow_at,setRow_at]
theorem Alt.addrow (A:Mx) {i j:Nat} (c:Rat) (hi:i<n) (hj:j<n) (hne:i≠j):F (setRow A i fun k=>A i k+c*A j k)=F A:=by
 rw[hF.lin A i (A i) c (A j) hi,setRow_self,hF.eq (setRow A i (A j)) hi hj hne fun k _=>by rw[setRow_at,setRow_ne _ _ (fun h=>hne h.symm)]]
 grind
def rowTop (k:Nat) (A:Mx):Mx:=fun i=>if i=0 then A k else if i≤k then A (i - 1)else A i
theorem Alt.top:∀(k:Nat) (A:Mx),k<n→F (rowTop k A)=sg k*F A
 |0,A,_=>by
  rw[show rowTop 0 A=A from by
   funext i;unfold rowTop
   by_cases h:i=0
   ·rw[if_pos h,h]
   ·rw[if_neg h,if_neg (by omega)],sg]
  grind
 |k+1,A,h=>by
  have e:rowTop (k+1) A=rowTop k (swapRow A k (k+1)):=by
   funext i;unfold rowTop swapRow
   by_cases h1:i=0
   ·rw[if_pos h1,if_pos h1,if_pos rfl]
   ·rw[if_neg h1,if_neg h1]
    by_cases h2:i≤k
    ·rw[if_pos (by omega),if_pos h2,if_neg (by omega),if_neg (by omega)]
    ·rw[if_neg h2]
     by_cases h3:i=k+1
     ·subst h3;rw[if_pos (by omega),if_neg (by omega),if_pos rfl];rfl
     ·rw[if_neg (by omega),if_neg (by omega),if_neg h3]
  rw[e,Alt.top k _ (by omega),hF.swap1 A h,sg]
  grind
end
def un (k q:Nat):Nat:=if q<k then q else q - 1
theorem un_sk (k j:Nat):un k (sk k j)=j:=by
 unfold un sk
 by_cases h:j<k
 ·rw[if_pos h,if_pos h]
 ·rw[if_neg h,if_neg (by omega)];rfl
theorem sk_un {k q:Nat} (h:q≠k):sk k (un k q)=q:=by
 unfold un sk
 by_cases h1:q<k
 ·rw[if_pos h1,if_pos h1]
 ·rw[if_neg h1,if_neg (by omega)];omega
theorem un_lt {n k q:Nat} (hq:q<n+1) (hk:k<n+1) (h:q≠k):un k q<n:=by unfold un;split<;>omega
def bord (k:Nat) (B:Mx):Mx:=fun i q=>if i=0 then delta k q else if q=k then 0 else B (i - 1) (un k q)
theorem bord_set (k:Nat) (B:Mx) (i:Nat) (x:Nat→Rat):bord k (setRow B i x)=setRow (bord k B) (i+1) fun q=>if q=k then 0 else x (un k q):=by
 funext p q
 by_cases h:p=i+1
 ·subst h
  rw[setRow_at,bord,if_neg (by omega),show i+1 - 1=i by omega,setRow_at]
 ·rw[setRow_ne _ _ h,bord,bord]
  by_cases h0:p=0
  ·rw[if_pos h0,if_pos h0]
  ·rw[if_neg h0,if_neg h0,setRow_ne _ _ (by omega)]
theorem Alt.bord {n:Nat} {F:Mx→Rat} (hF:Alt (n+1) F) {k:Nat} (hk:k<n+1):Alt n fun B=>F (bord k B) where
 congr:=fun A B h=>hF.congr _ _ fun i q hi hq=>by
  unfold Go.Proofs.YtbopchpncgdaaaaGreatDoor.bord
  by_cases h0:i=0
  ·rw[if_pos h0,if_pos h0]
  ·rw[if_neg h0,if_neg h0]
   by_cases h1:q=k
   ·rw[if_pos h1,if_pos h1]
   ·rw[if_neg h1,if_neg h1];exact h _ _ (by omega) (un_lt hq hk h1)
 lin:=fun A i x c y hi=>by
  show F _=F _+c*F _
  rw[bord_set,bord_set,bord_set,←hF.lin _ _ _ _ _ (by omega)]
  congr 2
  funext q
  by_cases h:q=k
  ·rw[if_pos h,if_pos h,if_pos h];grind
  ·rw[if_neg h,if_neg h,if_neg h]
 alt:=fun A i hi h=>hF.alt _ (i+1) (by omega) fun q hq=>by
  unfold Go.Proofs.YtbopchpncgdaaaaGreatDoor.bord
  rw[if_neg (show ¬i+1=0 by omega),if_neg (show ¬i+1+1=0 by omega)]
  by_cases h1:q=k
  ·rw[if_pos h1,if_pos h1]
  ·rw[if_neg h1,if_neg h1];exact h _ (un_lt hq hk h1)
theorem alt_unique:∀(n:Nat) (F:Mx→Rat),Alt n F→∀A,F A=F delta*det n A
 |0,F,hF,A=>by rw[hF.congr A delta fun i k hi=>by omega,det];grind
 |n+1,F,hF,A=>by
  have e0:F A=sumR (n+1) fun k=>A 0 k*F (setRow A 0 (delta k)):=by
   rw[←hF.sum A (by omega) (A 0) delta (n+1)]
   refine hF.congr _ _ fun i q hi hq=> ?_
   by_cases h:i=0
   ·subst h;rw[setRow_at,sum_deltaR,if_pos hq]
   ·rw[setRow_ne _ _ h]
  rw[e0,det_succ,sum_mulL]
  refine sum_congr _ fun k hk=> ?_
  have e1:∀m,m≤n→F (setRow A 0 (delta k))=F (fun i q=>if i=0 then delta k q else if i≤m∧q=k then 0 else A i q):=by
   intro m
   induction m with
   |zero=>
    intro _
    refine hF.congr _ _ fun i q _ _=> ?_
    by_cases h:i=0
    ·subst h;rw[setRow_at,if_pos rfl]
    ·rw[setRow_ne _ _ h,if_neg h,if_neg (by omega)]
   |succ m ih=>
    intro hm
    rw[ih (by omega),←hF.addrow (i:=m+1) (j:=0) (fun i q=>if i=0 then delta k q else if i≤m∧q=k then 0 else A i q) (- A (m+1) k) (by omega) (by omega) (by omega)]
    refine hF.congr _ _ fun i q _ _=> ?_
    by_cases h:i=m+1
    ·subst h
     rw[setRow_at,if_neg (by omega),if_neg (by omega),if_pos rfl,if_neg (by omega)]
     by_cases hq:q=k
     ·subst hq;rw[if_pos ⟨Nat.le_refl _,rfl⟩];simp[delta];grind
     ·rw[if_neg (fun g=>hq g.2),delta,if_neg (fun g=>hq g.symm)];grind
    ·rw[setRow_ne _ _ h]
     by_cases h0:i=0
     ·rw[if_pos h0,if_pos h0]
     ·rw[if_neg h0,if_neg h0]
      by_cases g:i≤m∧q=k
      ·rw[if_pos g,if_pos ⟨by omega,g.2⟩]
      ·rw[if_neg g,if_neg (fun g2=>g ⟨by omega,g2.2⟩)]
  have e2:F (setRow A 0 (delta k))=F (bord k (mn A k)):=by
   rw[e1 n (Nat.le_refl _)]
   refine hF.congr _ _ fun i q hi _=> ?_
   unfold bord
   by_cases h0:i=0
   ·rw[if_pos h0,if_pos h0]
   ·rw[if_neg h0,if_neg h0]
    by_cases hq:q=k
    ·rw[if_pos ⟨by omega,hq⟩,if_pos hq]
    ·rw[if_neg (fun g=>hq g.2),if_neg hq,mn,sk_un hq,show i - 1+1=i by omega]
  have e3:F (bord k delta)=sg k*F delta:=by
   rw[←hF.top k delta hk]
   refine hF.congr _ _ fun i q hi _=> ?_
   unfold bord rowTop
   by_cases h0:i=0
   ·rw[if_pos h0,if_pos h0]
   ·rw[if_neg h0,if_neg h0]
    by_cases hq:q=k
    ·rw[if_pos hq,hq]
     by_cases h1:i≤k
     ·rw[if_pos h1,delta,if_neg (by omega)]
     ·rw[if_neg h1,delta,if_neg (by omega)]
    ·rw[if_neg hq]
     unfold un delta
     by_cases h1:i≤k
     ·rw[if_pos h1]
      by_cases h2:q<k
      ·rw[if_pos h2]
      ·rw[if_neg h2,if_neg (by omega),if_neg (by omega)]
     ·rw[if_neg h1]
      by_cases h2:q<k
      ·rw[if_pos h2,if_neg (by omega),if_neg (by omega)]
      ·rw[if_neg h2]
       by_cases h3:i=q
       ·rw[if_pos (by omega),if_pos h3]
       ·rw[if_neg (by omega),if_neg h3]
  rw[e2,alt_unique n _ (hF.bord hk) (mn A k),e3]
  grind
end Go.Proofs.YtbopchpncgdaaaaGreatDoor
namespace Go.Proofs.YtbopchpncgdaaaaGreatDoor
open Go.Sx
set_option linter.unusedSimpArgs false
set_option linter.unusedVariables false
set_option maxRecDepth 100000
set_option maxHeartbeats 4000000
theorem det_one:∀n,det n delta=1
 |0=>rfl
 |n+1=>by
  rw[det_succ,sum_one (j:=0) (n+1) (by omega) fun i _ hi=>by rw[delta,if_neg fun h=>hi h.symm];grind]
  rw[sg,det_congr (A:=mn delta 0) (B:=delta) fun i k _ _=>by
   show delta (i+1) (sk 0 k)=_
   rw[sk_ge (by omega)];unfold delta
   by_cases h:i=k
   ·rw[if_pos (by omega),if_pos h]
   ·rw[if_neg (by omega),if_neg h],det_one n]
  simp[delta]
def pr (n:Nat) (A B:Mx):Mx:=fun i k=>sumR n fun p=>A i p*B p k
theorem det_mul (n:Nat) (A B:Mx):det n (pr n A B)=det n A*det n B:=by
 have h:Alt n fun A=>det n (pr n A B):={
  congr:=fun A A' h=>det_congr fun i k hi hk=>sum_congr n fun p hp=>by rw[h i p hi hp]
  lin:=fun A i x c y hi=>by
   have e:∀z,pr n (setRow A i z) B=setRow (pr n A B) i fun k=>sumR n fun p=>z p*B p k:=fun z=>by
    funext p q
    by_cases h:p=i
    ·subst h;rw[setRow_at,pr];simp only[setRow_at]
    ·rw[setRow_ne _ _ h];unfold pr;simp only[setRow_ne _ _ h]
   show det n _=det n _+c*det n _
   rw[e,e,e,←det_lin n _ _ _ _ _ hi]
   congr 2
   funext k
   rw[sum_mulL,←sum_add]
   exact sum_congr n fun p _=>by grind
  alt:=fun A i hi h=>det_alt0 n _ i hi fun k _=>sum_congr n fun p hp=>by rw[h p hp]}
 rw[alt_unique n _ h A]
 show det n (pr n delta B)*det n A=_
 rw[det_congr (A:=pr n delta B) (B:=B) fun i k hi _=>by rw[pr,sum_deltaL,if_pos hi]]
 grind
def setCol (A:Mx) (j:Nat) (x:Nat→Rat):Mx:=fun p q=>if q=j then x p else A p q
theorem mn_setCol_eq (A:Mx) (x:Nat→Rat) (k:Nat):mn (setCol A k x) k=mn A k:=by
 funext i j;rw[mn,setCol,if_neg (sk_ne _ _)];rfl
theorem mn_setCol (A:Mx) (x:Nat→Rat) {j k:Nat} (h:j≠k):mn (setCol A j x) k=setCol (mn A k) (un k j) fun p=>x (p+1):=by
 funext p q
 unfold mn setCol
 by_cases e:sk k q=j
 ·rw[if_pos e,if_pos (by rw[←e,un_sk])]
 ·rw[if_neg e,if_neg fun g=>e (by rw[g,sk_un h])]
theorem det_collin:∀(n:Nat) (A:Mx) (j:Nat) (x:Nat→Rat) (c:Rat) (y:Nat→Rat),j<n→det n (setCol A j fun k=>x k+c*y k)=det n (setCol A j x)+c*det n (setCol A j y)
 |0,_,_,_,_,_,h=>by omega
 |n+1,A,j,x,c,y,hj=>by
  rw[det_succ,det_succ,det_succ,sum_mulL,←sum_add]
  refine sum_congr _ fun k hk=> ?_
  by_cases h:j=k
  ·subst h
   rw[mn_setCol_eq,mn_setCol_eq,mn_setCol_eq]
   simp only[setCol,if_true]
   grind
  ·rw[mn_setCol _ _ h,mn_setCol _ _ h,mn_setCol _ _ h,det_collin n _ _ _ _ _ (un_lt hj hk h)]
   simp only[setCol,if_neg fun g=>h (Eq.symm g)]
   grind
theorem det_colalt:∀(n:Nat) (A:Mx) (j:Nat),j+1<n→(∀i,i<n→A i j=A i (j+1))→det n A=0
 |0,_,_,h,_=>by omega
 |n+1,A,j,hj,h=>by
  rw[det_succ]
  refine sum_two hj (fun k hk h1 h2=> ?_) ?_
  ·have:det n (mn A k)=0:=by
    rcases Nat.lt_or_gt_of_ne h1 with g|g
    ·refine det_colalt n _ (j - 1) (by omega) fun i hi=> ?_
     show A (i+1) (sk k (j - 1))=A (i+1) (sk k (j - 1+1))
     rw[sk_ge (by omega),sk_ge (by omega),show j - 1+1=j by omega]
     exact h _ (by omega)
    ·refine det_colalt n _ j (by omega) fun i hi=> ?_
     show A (i+1) (sk k j)=A (i+1) (sk k (j+1))
     rw[sk_le (by omega),sk_le (by omega)]
     exact h _ (by omega)
   rw[this];grind
  ·have:det n (mn A j)=det n (mn A (j+1)):=det_congr fun i q hi _=>by
    unfold mn
    by_cases e:q=j
    ·subst e;rw[sk_ge (Nat.le_refl _),sk_le (Nat.lt_succ_self _)];exact(h _ (by omega)).symm
    ·by_cases g:q<j
     ·rw[sk_le g,sk_le (by omega)]
     ·rw[sk_ge (by omega),sk_ge (by omega)]
   rw[this,h 0 (by omega),sg];grind
def tr (A:Mx):Mx:=fun i k=>A k i
theorem det_turn (n:Nat) (A:Mx):det n (tr A)=det n A:=by
 have h:Alt n fun A=>det n (tr A):={
  congr:=fun A A' h=>det_congr fun i k hi hk=>h k i hk hi
  lin:=fun A i x c y hi=>det_collin n (tr A) i x c y hi
  alt:=fun A i hi h=>det_colalt n (tr A) i hi h}
 rw[alt_unique n _ h A]
 show det n (tr delta)*det n A=_
 rw[det_congr (A:=tr delta) (B:=delta) fun i k _ _=>delta_comm k i,det_one];grind
def mnr (A:Mx) (r k:Nat):Mx:=fun i j=>A (sk r i) (sk k j)
theorem laplace (n:Nat) (A:Mx) {r:Nat} (hr:r<n+1):det (n+1) A=sumR (n+1) fun k=>sg (r+k)*A r k*det n (mnr A r k):=by
 have h:=(det_Alt (n+1)).top r A hr
 have h2:det (n+1) A=sg r*det (n+1) (rowTop r A):=by rw[h,←Rat.mul_assoc,sg_sq];grind
 rw[h2,det_succ,sum_mulL]
 refine sum_congr _ fun k _=> ?_
 have e:mn (rowTop r A) k=mnr A r k:=by
  funext i j
  unfold mn mnr rowTop
  rw[if_neg (by omega)]
  by_cases g:i<r
  ·rw[if_pos (by omega),sk_le g];rfl
  ·rw[if_neg (by omega),sk_ge (k:=r) (by omega)]
 rw[e,sg_add,show rowTop r A 0=A r from rfl];grind
theorem mnr_tr (A:Mx) (r k:Nat):mnr (tr A) r k=tr (mnr A k r):=rfl
def adj (n:Nat) (A:Mx):Mx:=fun i k=>sg (i+k)*det (n - 1) (mnr A k i)
theorem adj_tr (n:Nat) (A:Mx) (i k:Nat):adj n (tr A) i k=adj n A k i:=by
 rw[adj,adj,mnr_tr,det_turn,Nat.add_comm]
theorem mnr_set (A:Mx) (r k:Nat) (x:Nat→Rat):mnr (setRow A r x) r k=mnr A r k:=by
 funext i j;rw[mnr,setRow_ne _ _ (sk_ne _ _)];rfl
theorem mul_adj {n:Nat} (A:Mx) {i k:Nat} (hi:i<n) (hk:k<n):pr n A (adj n A) i k=if i=k then det n A else 0:=by
 obtain⟨m,rfl⟩:∃m,n=m+1:=⟨n - 1,by omega⟩
 have h:pr (m+1) A (adj (m+1) A) i k=det (m+1) (setRow A k (A i)):=by
  rw[laplace m _ hk]
  refine sum_congr _ fun p _=> ?_
  rw[mnr_set,setRow_at,adj,Nat.add_comm k p,show m+1 - 1=m from rfl];grind
 rw[h]
 by_cases e:i=k
 ·subst e;rw[setRow_self,if_pos rfl]
 ·rw[if_neg e,(det_Alt (m+1)).eq _ hi hk e fun q _=>by rw[setRow_ne _ _ e,setRow_at]]
theorem adj_mul {n:Nat} (A:Mx) {i k:Nat} (hi:i<n) (hk:k<n):pr n (adj n A) A i k=if i=k then det n A else 0:=by
 have h:=mul_adj (tr A) hk hi
 rw[det_turn]at h
 have e:pr n (adj n A) A i k=pr n (tr A) (adj n (tr A)) k i:=sum_congr _ fun p _=>by rw[adj_tr,Rat.mul_comm];rfl
 rw[e,h]
 by_cases g:i=k
 ·rw[if_pos g,if_pos g.symm]
 ·rw[if_neg g,if_neg (fun h=>g h.symm)]
def pev:List Rat→Rat→Rat
 |[],_=>0
 |a::l,t=>a+t*pev l t
def Pol (f:Rat→Rat):Prop:=∃l,∀t,f t=pev l t
theorem Pol.const (c:Rat):Pol fun _=>c:=⟨[c],fun t=>by simp only[pev];grind⟩
theorem Pol.id:Pol fun t=>t:=⟨[0,1],fun t=>by simp only[pev];grind⟩
def addL:List Rat→List Rat→List Rat
 |[],l=>l
 |l,[]=>l
 |a::l,b::m=>(a+b)::addL l m
theorem pev_addL:∀(l m:List Rat) (t:Rat),pev (addL l m) t=pev l t+pev m t
 |[],m,t=>by rw[addL,pev];grind
 |a::l,[],t=>by rw[addL];simp only[pev];grind;simp
 |a::l,b::m,t=>by rw[addL];simp only[pev];rw[pev_addL l m t];grind
theorem addL_len:∀(l m:List Rat) (d:Nat),l.length≤d→m.length≤d→(addL l m).length≤d
 |[],m,d,_,h=>by rw[addL];exact h
 |a::l,[],d,h,_=>by rw[addL];exact h;simp
 |a::l,b::m,0,h,_=>by simp at h
 |a::l,b::m,d+1,h1,h2=>by rw[addL,List.length_cons];have:=addL_len l m d (by simpa using h1) (by simpa using h2);omega
theorem pev_map (c:Rat):∀(l:List Rat) (t:Rat),pev (l.map (c*·)) t=c*pev l t
 |[],t=>by simp only[List.map_nil,pev];grind
 |a::l,t=>by simp only[List.map_cons,pev];rw[pev_map c l t];grind
theorem Pol.add {f g:Rat→Rat} (hf:Pol f) (hg:Pol g):Pol fun t=>f t+g t:=by
 obtain⟨l,hl⟩:=hf;obtain⟨m,hm⟩:=hg
 exact⟨addL l m,fun t=>by show f t+g t=_;rw[pev_addL,hl,hm]⟩
theorem Pol.smul {f:Rat→Rat} (c:Rat) (hf:Pol f):Pol fun t=>c*f t:=by
 obtain⟨l,hl⟩:=hf
 exact⟨l.map (c*·),fun t=>by show c*f t=_;rw[pev_map,hl]⟩
theorem Pol.x {f:Rat→Rat} (hf:Pol f):Pol fun t=>t*f t:=by
 obtain⟨l,hl⟩:=hf
 exact⟨0::l,fun t=>by show t*f t=_;rw[pev,hl];grind⟩
theorem Pol.mul {f g:Rat→Rat} (hf:Pol f) (hg:Pol g):Pol fun t=>f t*g t:=by
 obtain⟨l,hl⟩:=hf
 have:∀l:List Rat,Pol fun t=>pev l t*g t:=by
  intro l
  induction l with
  |nil=>exact⟨[],fun t=>by simp only[pev];grind⟩
  |cons a l ih=>
   obtain⟨m,hm⟩:=(hg.smul a).add ih.x
   exact⟨m,fun t=>by rw[←hm t];simp only[pev];grind⟩
 obtain⟨m,hm⟩:=this l
 exact⟨m,fun t=>by show f t*g t=_;rw[hl];exact hm t⟩
theorem Pol.sub {f g:Rat→Rat} (hf:Pol f) (hg:Pol g):Pol fun t=>f t - g t:=by
 obtain⟨m,hm⟩:=hf.add (hg.smul (-1))
 exact⟨m,fun t=>by rw[←hm t];grind⟩
theorem Pol.sum {f:Nat→Rat→Rat}:∀n,(∀i,i<n→Pol (f i))→Pol fun t=>sumR n fun i=>f i t
 |0,_=>⟨[],fun t=>by simp only[sumR,pev]⟩
 |n+1,h=>(Pol.sum n fun i hi=>h i (by omega)).add (h n (by omega))
theorem Pol.det {A:Rat→Mx}:∀n,(∀i k,Pol fun t=>A t i k)→Pol fun t=>det n (A t)
 |0,_=>Pol.const 1
 |n+1,h=>Pol.sum (n+1) fun k _=>((h 0 k).smul (sg k)).mul (Pol.det (A:=fun t=>mn (A t) k) n fun _ _=>h _ _)
def qd (s:Rat):List Rat→List Rat
 |[]=>[]
 |_::l=>addL l ((qd s l).map (s*·))
theorem qd_len (s:Rat):∀(l:List Rat),(qd s l).length≤l.length - 1
 |[]=>by simp[qd]
 |a::l=>by
  rw[qd]
  refine addL_len _ _ _ (by simp) ?_
  rw[List.length_map];have:=qd_len s l;simp;omega
theorem qd_spec (s:Rat):∀(l:List Rat) (t:Rat),pev l t - pev l s=(t - s)*pev (qd s l) t
 |[],t=>by simp only[pev,qd];grind
 |a::l,t=>by
  have:=qd_spec s l t
  rw[qd,pev_addL,pev_map];simp only[pev];grind
theorem pev_zero:∀(d N:Nat) (l:List Rat),l.length≤d→(∀n:Nat,N≤n→pev l n=0)→∀t,pev l t=0
 |0,_,l,hl,_,t=>by
  obtain rfl:l=[]:=List.eq_nil_of_length_eq_zero (by omega)
  rfl
 |d+1,N,l,hl,h,t=>by
  have h1:=qd_spec (N:Rat) l
  rw[h N (Nat.le_refl _)]at h1
  have h2:=pev_zero d (N+1) (qd N l) (by have:=qd_len (N:Rat) l;omega) fun n hn=>by
   have:=h1 n
   rw[h n (by omega)]at this
   have hne:(n:Rat) - N≠0:=by
    intro e
    have:(n:Rat)=N:=by grind
    have:=Rat.natCast_inj.1 this
    omega
   have h0:((n:Rat) - N)*pev (qd N l) n=0:=by rw[←this];grind
   rcases Rat.mul_eq_zero.1 h0 with g|g
   ·exact absurd g hne
   ·exact g
  have:=h1 t
  rw[h2 t]at this
  grind
theorem Pol.zero {f:Rat→Rat} (hf:Pol f) (N:Nat) (h:∀n:Nat,N≤n→f n=0) (t:Rat):f t=0:=by
 obtain⟨l,hl⟩:=hf
 rw[hl];exact pev_zero _ N l (Nat.le_refl _) (fun n hn=>by rw[←hl];exact h n hn) t
theorem Pol.dom {f h:Rat→Rat} (hf:Pol f) (hh:Pol h) (h0:h 0≠0) (H:∀s,h s≠0→f s=0) (t:Rat):f t=0:=by
 have key:∀l:List Rat,(∀t,pev l t*h t=0)→∀t,pev l t=0:=by
  intro l
  induction l with
  |nil=>intro _ t;rfl
  |cons a l ih=>
   intro hz t
   have h1:=hz 0
   simp only[pev]at h1
   have ha:a=0:=by
    rcases Rat.mul_eq_zero.1 h1 with g|g
    ·grind
    ·exact absurd g h0
   have hp:Pol fun t=>pev l t*h t:=Pol.mul ⟨l,fun _=>rfl⟩ hh
   have h2:=ih fun t=>hp.zero 1 (fun n hn=>by
    have h3:=hz n
    simp only[pev]at h3
    rw[ha]at h3
    have h4:(n:Rat)*(pev l n*h n)=0:=by grind
    rcases Rat.mul_eq_zero.1 h4 with g|g
    ·have:=Rat.natCast_inj.1 (show(n:Rat)=(0:Nat) by rw[g];rfl)
     omega
    ·exact g) t
   simp only[pev];rw[ha,h2 t];grind
 obtain⟨l,hl⟩:=hf
 rw[hl]
 refine key l (fun t=> ?_) t
 by_cases g:h t=0
 ·rw[g];grind
 ·rw[←hl,H t g];grind
def mixI (A:Mx) (s:Rat):Mx:=fun i k=>s*A i k+(1 - s)*delta i k
theorem mixI_pol (A:Mx) (i k:Nat):Pol fun s=>mixI A s i k:=(Pol.id.mul (Pol.const _)).add (((Pol.const 1).sub Pol.id).mul (Pol.const _))
theorem mixI_one (A:Mx):mixI A 1=A:=by funext i k;unfold mixI;grind
theorem mixI_zero (A:Mx):mixI A 0=delta:=by funext i k;unfold mixI;grind
theorem generic (s:Nat) (A:Mx) (f:Mx→Rat) (hp:Pol fun t=>f (mixI A t)) (h:∀B,det s B≠0→f B=0):f A=0:=by
 have:=hp.dom (h:=fun t=>det s (mixI A t)) (Pol.det s (mixI_pol A)) (by show det s (mixI A 0)≠0;rw[mixI_zero,det_one];decide) (fun t ht=>h _ ht) 1
 rwa [mixI_one]at this
end Go.Proofs.YtbopchpncgdaaaaGreatDoor
namespace Go.Proofs.YtbopchpncgdaaaaGreatDoor
open Go.Sx
set_option linter.unusedSimpArgs false
set_option linter.unusedVariables false
set_option maxRecDepth 100000
set_option maxHeartbeats 4000000
theorem Alt.addrows {n:Nat} {F:Mx→Rat} (hF:Alt n F) (A:Mx) {i:Nat} (c:Nat→Rat) (hi:i<n):∀m,m≤i→F (setRow A i fun k=>A i k+sumR m fun p=>c p*A p k)=F A
 |0,_=>by
  simp only[sumR]
  rw[show(fun k=>A i k+0)=A i from by funext k;grind,setRow_self]
 |m+1,h=>by
  have h1:=hF.addrow (i:=i) (j:=m) (setRow A i fun k=>A i k+sumR m fun p=>c p*A p k) (c m) hi (by omega) (by omega)
  rw[setRow_at,setRow_two,setRow_ne _ _ (by omega),Alt.addrows hF A c hi m (by omega)]at h1
  rw[←h1]
  congr 2
  funext k
  simp only[sumR];grind
theorem det_last {n:Nat} {A:Mx} (h:∀k,k<n→A n k=0):det (n+1) A=A n n*det n A:=by
 rw[laplace n A (r:=n) (by omega),sum_one (j:=n) (n+1) (by omega) fun k hk hne=>by rw[h k (by omega)];grind,sg_add,sg_sq]
 rw[det_congr (A:=mnr A n n) (B:=A) fun i j hi hj=>by unfold mnr;rw[sk_le hi,sk_le hj]]
 grind
theorem det_last2 {n:Nat} {A:Mx} (h:∀k,k<n→A (n+1) k=0):det (n+2) A=A (n+1) (n+1)*det (n+1) A - A (n+1) n*det (n+1) (fun i j=>A i (if j<n then j else n+1)):=by
 rw[laplace (n+1) A (r:=n+1) (by omega),sumR,sumR,sum_zeros fun k hk=>by rw[h k hk];grind]
 rw[det_congr (A:=mnr A (n+1) n) (B:=fun i j=>A i (if j<n then j else n+1)) fun i j hi hj=>by
  unfold mnr;rw[sk_le hi]
  by_cases g:j<n
  ·rw[sk_le g,if_pos g]
  ·rw[sk_ge (by omega),if_neg g,show j=n by omega]]
 rw[det_congr (A:=mnr A (n+1) (n+1)) (B:=A) fun i j hi hj=>by unfold mnr;rw[sk_le hi,sk_le hj]]
 rw[show n+1+n=(n+n)+1 by omega,sg,sg_add,sg_sq,sg_add,sg_sq]
 grind
def at1 (s i a:Nat):Nat:=if a<s then a else s+i
def bm (s:Nat) (A:Mx) (i k:Nat):Rat:=det (s+1) fun a b=>A (at1 s i a) (at1 s k b)
theorem bm_tr (s:Nat) (A:Mx) (i k:Nat):bm s (tr A) i k=bm s A k i:=by
 unfold bm;rw[←det_turn];rfl
theorem bm_zero (A:Mx) (i k:Nat):bm 0 A i k=A i k:=by
 unfold bm at1
 rw[det_succ,sumR,sumR,det,sg]
 simp only[Nat.not_lt_zero,if_false,Nat.zero_add];grind
theorem bm_first (s:Nat) (A:Mx):bm s A 0 0=det (s+1) A:=det_congr fun a b ha hb=>by
 have e:∀x,x<s+1→at1 s 0 x=x:=fun x hx=>by unfold at1;split<;>omega
 rw[e a ha,e b hb]
section
variable {s:Nat} {A:Mx} (hd:det s A≠0)
include hd
def xs (s:Nat) (A:Mx) (r:Nat→Rat) (p:Nat):Rat:=sumR s fun q=>r q*(adj s A q p*(det s A)⁻¹)
theorem xs_mul (r:Nat→Rat) {b:Nat} (hb:b<s):sumR s (fun p=>xs s A r p*A p b)=r b:=by
 have e1:sumR s (fun p=>xs s A r p*A p b)=sumR s fun p=>sumR s fun q=>r q*(adj s A q p*(det s A)⁻¹)*A p b:=
  sum_congr s fun p _=>by rw[xs,sum_mulR]
 have e2:∀q,q<s→sumR s (fun p=>r q*(adj s A q p*(det s A)⁻¹)*A p b)=r q*delta q b:=fun q hq=>by
  have h1:=adj_mul A hq hb
  unfold pr at h1
  rw[sum_congr s (g:=fun p=>(r q*(det s A)⁻¹)*(adj s A q p*A p b)) fun p _=>by grind,←sum_mulL,h1,delta]
  split
  ·have:=Rat.mul_inv_cancel _ hd;grind
  ·grind
 rw[e1,sum_swap,sum_congr s e2,sum_deltaR,if_pos hb]
def sch (s:Nat) (A:Mx) (i k:Nat):Rat:=A (s+i) (s+k) - sumR s fun p=>xs s A (A (s+i)) p*A p (s+k)
theorem bm_sch (i k:Nat):bm s A i k=det s A*sch s A i k:=by
 have h:=(det_Alt (s+1)).addrows (fun a b=>A (at1 s i a) (at1 s k b)) (i:=s) (fun p=> - xs s A (A (s+i)) p) (by omega) s (Nat.le_refl _)
 rw[bm,←h]
 have e:∀b,(A (at1 s i s) (at1 s k b)+sumR s fun p=> - xs s A (A (s+i)) p*A (at1 s i p) (at1 s k b))=A (s+i) (at1 s k b) - sumR s fun p=>xs s A (A (s+i)) p*A p (at1 s k b):=fun b=>by
  rw[at1,if_neg (by omega),sum_congr s (g:=fun p=>(-1)*(xs s A (A (s+i)) p*A p (at1 s k b))) fun p hp=>by rw[at1,if_pos hp];grind,←sum_mulL]
  grind
 rw[det_last fun b hb=>by rw[setRow_at,e];rw[show at1 s k b=b from if_pos hb,xs_mul hd _ hb];grind]
 rw[setRow_at,e,show at1 s k s=s+k from if_neg (by omega),det_congr (A:=setRow _ s _) (B:=A) fun a b ha hb=>by
  rw[setRow_ne _ _ (by omega),show at1 s i a=a from if_pos ha,show at1 s k b=b from if_pos hb]]
 unfold sch;grind
theorem bm_sch2 (i k:Nat):bm (s+1) A i k=det s A*(sch s A 0 0*sch s A (i+1) (k+1) - sch s A (i+1) 0*sch s A 0 (k+1)):=by
 have h:=(det_Alt (s+2)).addrows (fun a b=>A (at1 (s+1) i a) (at1 (s+1) k b)) (i:=s+1) (fun p=> - xs s A (A (s+(i+1))) p) (by omega) s (by omega)
 rw[bm,←h]
 have ea:∀p,p<s→at1 (s+1) i p=p:=fun p hp=>if_pos (by omega)
 have e:∀b,(A (at1 (s+1) i (s+1)) (at1 (s+1) k b)+sumR s fun p=> - xs s A (A (s+(i+1))) p*A (at1 (s+1) i p) (at1 (s+1) k b))=A (s+(i+1)) (at1 (s+1) k b) - sumR s fun p=>xs s A (A (s+(i+1))) p*A p (at1 (s+1) k b):=fun b=>by
  rw[show at1 (s+1) i (s+1)=s+(i+1)from by unfold at1;rw[if_neg (by omega)];omega,sum_congr s (g:=fun p=>(-1)*(xs s A (A (s+(i+1))) p*A p (at1 (s+1) k b))) fun p hp=>by rw[ea p hp];grind,←sum_mulL]
  grind
 rw[det_last2 fun b hb=>by rw[setRow_at,e,show at1 (s+1) k b=b from if_pos (by omega),xs_mul hd _ hb];grind]
 have e1:det (s+1) (setRow (fun a b=>A (at1 (s+1) i a) (at1 (s+1) k b)) (s+1) fun b=>A (at1 (s+1) i (s+1)) (at1 (s+1) k b)+sumR s fun p=> - xs s A (A (s+(i+1))) p*A (at1 (s+1) i p) (at1 (s+1) k b))=bm s A 0 0:=by
  rw[bm_first]
  exact det_congr fun a b ha hb=>by rw[setRow_ne _ _ (by omega),show at1 (s+1) i a=a from if_pos (by omega),show at1 (s+1) k b=b from if_pos (by omega)]
 have e2:det (s+1) (fun a b=>setRow (fun a b=>A (at1 (s+1) i a) (at1 (s+1) k b)) (s+1) (fun b=>A (at1 (s+1) i (s+1)) (at1 (s+1) k b)+sumR s fun p=> - xs s A (A (s+(i+1))) p*A (at1 (s+1) i p) (at1 (s+1) k b)) a (if b<s then b else s+1))=bm s A 0 (k+1):=by
  refine det_congr fun a b ha hb=> ?_
  show setRow _ (s+1) _ a (if b<s then b else s+1)=_
  rw[setRow_ne _ _ (by omega)]
  show A (at1 (s+1) i a) (at1 (s+1) k (if b<s then b else s+1))=A (at1 s 0 a) (at1 s (k+1) b)
  rw[show at1 (s+1) i a=a from if_pos (by omega),show at1 s 0 a=a from by unfold at1;split<;>omega]
  congr 1
  unfold at1
  by_cases g:b<s
  ·rw[if_pos g,if_pos (by omega),if_pos g]
  ·rw[if_neg g,if_neg (by omega),if_neg g];omega
 rw[e1,e2,setRow_at,e,e,show at1 (s+1) k (s+1)=s+(k+1)from by unfold at1;rw[if_neg (by omega)];omega,show at1 (s+1) k s=s+0 from if_pos (by omega),bm_sch hd,bm_sch hd]
 have f1:(A (s+(i+1)) (s+(k+1)) - sumR s fun p=>xs s A (A (s+(i+1))) p*A p (s+(k+1)))=sch s A (i+1) (k+1):=rfl
 have f2:(A (s+(i+1)) (s+0) - sumR s fun p=>xs s A (A (s+(i+1))) p*A p (s+0))=sch s A (i+1) 0:=rfl
 rw[f1,f2];grind
end
theorem bm_step (s:Nat) (A:Mx) (i k:Nat):bm s A 0 0*bm s A (i+1) (k+1) - bm s A (i+1) 0*bm s A 0 (k+1)=det s A*bm (s+1) A i k:=by
 have hb:∀s i k,Pol fun t=>bm s (mixI A t) i k:=fun s i k=>Pol.det (s+1) fun a b=>mixI_pol A _ _
 have:=generic s A (fun A=>bm s A 0 0*bm s A (i+1) (k+1) - bm s A (i+1) 0*bm s A 0 (k+1) - det s A*bm (s+1) A i k)
  ((((hb _ _ _).mul (hb _ _ _)).sub ((hb _ _ _).mul (hb _ _ _))).sub ((Pol.det s (mixI_pol A)).mul (hb _ _ _))) fun B hB=>by
   rw[bm_sch hB,bm_sch hB,bm_sch hB,bm_sch hB,bm_sch2 hB];grind
 grind
theorem bm_sing {s n:Nat} {A:Mx} (hd:det s A≠0) (hs:s<n) (h:∀i,s+i<n→bm s A i 0=0):det n A=0:=by
 have hd':det s (tr A)≠0:=by rwa [det_turn]
 rw[←det_turn,←(det_Alt n).addrows (tr A) (i:=s) (fun p=> - xs s (tr A) (tr A s) p) hs s (Nat.le_refl _)]
 have e:∀b,b<n→(fun k=>tr A s k+sumR s fun p=> - xs s (tr A) (tr A s) p*tr A p k) b=(fun _=>0) b:=fun b hb=>by
  show tr A s b+(sumR s fun p=> - xs s (tr A) (tr A s) p*tr A p b)=0
  rw[sum_congr s (g:=fun p=>(-1)*(xs s (tr A) (tr A s) p*tr A p b)) fun p _=>by grind,←sum_mulL]
  by_cases g:b<s
  ·rw[xs_mul hd' _ g];grind
  ·have h1:=h (b - s) (by omega)
   rw[←bm_tr,bm_sch hd']at h1
   have h2:sch s (tr A) 0 (b - s)=0:=by
    rcases Rat.mul_eq_zero.1 h1 with g|g
    ·exact absurd g hd'
    ·exact g
   unfold sch at h2
   rw[Nat.add_zero,show s+(b - s)=b by omega]at h2
   grind
 rw[(det_Alt n).congr (setRow (tr A) s fun k=>tr A s k+sumR s fun p=> - xs s (tr A) (tr A s) p*tr A p k) (setRow (tr A) s fun _=>0) fun i k _ hk=>by
  by_cases g:i=s
  ·subst g;rw[setRow_at,setRow_at];exact e k hk
  ·rw[setRow_ne _ _ g,setRow_ne _ _ g],(det_Alt n).zero _ hs]
theorem Pol.adj {A:Rat→Mx} (n:Nat) (h:∀i k,Pol fun t=>A t i k) (i k:Nat):Pol fun t=>adj n (A t) i k:=(Pol.det (A:=fun t=>mnr (A t) k i) (n - 1) fun _ _=>h _ _).smul (sg (i+k))
end Go.Proofs.YtbopchpncgdaaaaGreatDoor
namespace Go.Proofs.YtbopchpncgdaaaaGreatDoor
open Go.Sx
set_option linter.unusedSimpArgs false
set_option linter.unusedVariables false
set_option maxRecDepth 100000
set_option maxHeartbeats 4000000
def Bd (x b:Rat):Prop:= -b≤x∧x≤b
theorem Bd.nonneg {x b:Rat} (h:Bd x b):0≤b:=by obtain⟨h1,h2⟩:=h;grind
theorem Bd.add {x y a b:Rat} (h:Bd x a) (k:Bd y b):Bd (x+y) (a+b):=by
 obtain⟨h1,h2⟩:=h;obtain⟨k1,k2⟩:=k;constructor<;>grind
theorem Bd.neg {x a:Rat} (h:Bd x a):Bd (-x) a:=by obtain⟨h1,h2⟩:=h;constructor<;>grind
theorem Bd.mono {x a b:Rat} (h:Bd x a) (hb:a≤b):Bd x b:=by obtain⟨h1,h2⟩:=h;constructor<;>grind
theorem Bd.mul {x y a b:Rat} (h:Bd x a) (k:Bd y b):Bd (x*y) (a*b):=by
 have ha:=h.nonneg;have hb:=k.nonneg
 obtain⟨h1,h2⟩:=h;obtain⟨k1,k2⟩:=k
 have p1:=Rat.mul_nonneg (show 0≤a - x by grind) (show 0≤b+y by grind)
 have p2:=Rat.mul_nonneg (show 0≤a+x by grind) (show 0≤b - y by grind)
 have p3:=Rat.mul_nonneg (show 0≤a - x by grind) (show 0≤b - y by grind)
 have p4:=Rat.mul_nonneg (show 0≤a+x by grind) (show 0≤b+y by grind)
 constructor<;>grind
theorem Bd.sg {x a:Rat} (h:Bd x a):∀n,Bd (sg n*x) a
 |0=>by rw[Go.Proofs.YtbopchpncgdaaaaGreatDoor.sg,show(1:Rat)*x=x by grind];exact h
 |n+1=>by rw[Go.Proofs.YtbopchpncgdaaaaGreatDoor.sg,show - Go.Proofs.YtbopchpncgdaaaaGreatDoor.sg n*x= - (Go.Proofs.YtbopchpncgdaaaaGreatDoor.sg n*x) by grind];exact(Bd.sg h n).neg
theorem Bd.sum {f r:Nat→Rat}:∀n,(∀i,i<n→Bd (f i) (r i))→Bd (sumR n f) (sumR n r)
 |0,_=>(show Bd 0 0 from⟨by decide,by decide⟩)
 |n+1,h=>(Bd.sum n fun i hi=>h i (by omega)).add (h n (by omega))
end Go.Proofs.YtbopchpncgdaaaaGreatDoor
namespace Go.Proofs.YtbopchpncgdaaaaGreatDoor
open Go.Sx
set_option linter.unusedSimpArgs false
set_option linter.unusedVariables false
set_option maxRecDepth 100000
set_option maxHeartbeats 4000000
abbrev Mz:=Nat→Nat→Int
def toR (A:Mz):Mx:=fun i k=>(A i k:Rat)
def sumZ:Nat→(Nat→Int)→Int
 |0,_=>0
 |n+1,f=>sumZ n f+f n
theorem sumZ_cast (f:Nat→Int):∀n,((sumZ n f:Int):Rat)=sumR n fun i=>(f i:Rat)
 |0=>by simp[sumZ,sumR]
 |n+1=>by rw[sumZ,sumR,Rat.intCast_add,sumZ_cast f n]
def sgZ:Nat→Int
 |0=>1
 |n+1=> - sgZ n
theorem sgZ_cast:∀n,((sgZ n:Int):Rat)=sg n
 |0=>by simp[sgZ,sg]
 |n+1=>by rw[sgZ,sg,Rat.intCast_neg,sgZ_cast n]
theorem sgZ_mod:∀n,sgZ n=if n % 2=1 then -1 else 1
 |0=>rfl
 |n+1=>by
  rw[sgZ,sgZ_mod n]
  by_cases h:n % 2=1
  ·rw[if_pos h,if_neg (by omega)];rfl
  ·rw[if_neg h,if_pos (by omega)]
def detZ:Nat→Mz→Int
 |0,_=>1
 |n+1,A=>sumZ (n+1) fun k=>sgZ k*A 0 k*detZ n fun i j=>A (i+1) (sk k j)
theorem detZ_cast:∀(n:Nat) (A:Mz),((detZ n A:Int):Rat)=det n (toR A)
 |0,_=>by simp[detZ,det]
 |n+1,A=>by
  rw[detZ,det_succ,sumZ_cast]
  refine sum_congr _ fun k _=> ?_
  rw[Rat.intCast_mul,Rat.intCast_mul,sgZ_cast,detZ_cast n];rfl
theorem cast_inj {a b:Int} (h:(a:Rat)=(b:Rat)):a=b:=Rat.intCast_inj.1 h
def bmZ (s:Nat) (A:Mz) (i k:Nat):Int:=detZ (s+1) fun a b=>A (at1 s i a) (at1 s k b)
theorem bmZ_cast (s:Nat) (A:Mz) (i k:Nat):((bmZ s A i k:Int):Rat)=bm s (toR A) i k:=detZ_cast _ _
theorem bmZ_zero (A:Mz) (i k:Nat):bmZ 0 A i k=A i k:=by
 apply cast_inj;rw[bmZ_cast,bm_zero];rfl
theorem bmZ_first (s:Nat) (A:Mz):bmZ s A 0 0=detZ (s+1) A:=by
 apply cast_inj;rw[bmZ_cast,bm_first,detZ_cast]
theorem bmZ_step (s:Nat) (A:Mz) (i k:Nat):bmZ s A 0 0*bmZ s A (i+1) (k+1) - bmZ s A (i+1) 0*bmZ s A 0 (k+1)=detZ s A*bmZ (s+1) A i k:=by
 apply cast_inj
 have:=bm_step s (toR A) i k
 simp only[Rat.intCast_sub,Rat.intCast_mul,bmZ_cast,detZ_cast];exact this
theorem bmZ_div {s:Nat} {A:Mz} (h:detZ s A≠0) (i k:Nat):(bmZ s A 0 0*bmZ s A (i+1) (k+1) - bmZ s A (i+1) 0*bmZ s A 0 (k+1))/detZ s A=bmZ (s+1) A i k:=by
 rw[bmZ_step,Int.mul_ediv_cancel_left _ h]
theorem bmZ_sing {s n:Nat} {A:Mz} (hd:detZ s A≠0) (hs:s<n) (h:∀i,s+i<n→bmZ s A i 0=0):detZ n A=0:=by
 apply cast_inj
 rw[detZ_cast]
 refine bm_sing (s:=s) ?_ hs fun i hi=> ?_
 ·rw[←detZ_cast];intro g;exact hd (cast_inj g)
 ·rw[←bmZ_cast,h i hi];rfl
end Go.Proofs.YtbopchpncgdaaaaGreatDoor
namespace Go.Proofs.YtbopchpncgdaaaaGreatDoor
open Go.Sx
set_option linter.unusedSimpArgs false
set_option linter.unusedVariables false
set_option maxRecDepth 100000
set_option maxHeartbeats 4000000
def pickF (w:Mx) (k:Nat):Nat→Nat→Option Nat
 |0,_=>none
 |m+1,i=>if w i k=0 then pickF w k m (i+1)else some i
theorem pick_none {w:Mx} {k:Nat}:∀{m i:Nat},pickF w k m i=none→∀j,i≤j→j<i+m→w j k=0
 |0,i,_,j,h1,h2=>by omega
 |m+1,i,h,j,h1,h2=>by
  rw[pickF]at h
  by_cases g:w i k=0
  ·rw[if_pos g]at h
   by_cases e:j=i
   ·rw[e,g]
   ·exact pick_none h j (by omega) (by omega)
  ·rw[if_neg g]at h;cases h
theorem pick_some {w:Mx} {k:Nat}:∀{m i j:Nat},pickF w k m i=some j→i≤j∧j<i+m∧w j k≠0
 |0,i,j,h=>by cases h
 |m+1,i,j,h=>by
  rw[pickF]at h
  by_cases g:w i k=0
  ·rw[if_pos g]at h
   have:=pick_some h
   exact⟨by omega,by omega,this.2.2⟩
  ·rw[if_neg g]at h
   obtain rfl:=Option.some.inj h
   exact⟨Nat.le_refl _,by omega,g⟩
def clearM (w:Mx) (top k:Nat):Mx:=fun a q=>if a=top then w top q/w top k else w a q - w a k*(w top q/w top k)
structure St where
 w:Mx
 piv:List Nat
 d:Rat
def colStep (r:Nat) (s:St) (k:Nat):St:=
 match pickF s.w k (r - s.piv.length) s.piv.length with
 |none=>s
 |some i=>⟨clearM (swapRow s.w i s.piv.length) s.piv.length k,s.piv++[k],(if i=s.piv.length then s.d else - s.d)*swapRow s.w i s.piv.length s.piv.length k⟩
def redF (r c:Nat) (s:St):St:=(List.range c).foldl (colStep r) s
theorem redF_succ (r c:Nat) (s:St):redF r (c+1) s=colStep r (redF r c s) c:=by
 rw[redF,List.range_succ,List.foldl_append];rfl
theorem Alt.addall {n:Nat} {F:Mx→Rat} (hF:Alt n F) (A:Mx) {t:Nat} (ht:t<n) (c:Nat→Rat):F (fun a q=>if a=t then A t q else A a q+c a*A t q)=F A:=by
 have h:∀m,m≤n→F (fun a q=>if a=t then A t q else if a<m then A a q+c a*A t q else A a q)=F A:=by
  intro m
  induction m with
  |zero=>
   intro _
   refine hF.congr _ _ fun a q _ _=> ?_
   by_cases e:a=t
   ·rw[if_pos e,e]
   ·rw[if_neg e,if_neg (by omega)]
  |succ m ih=>
   intro hm
   rw[←ih (by omega)]
   by_cases e:m=t
   ·refine hF.congr _ _ fun a q _ _=> ?_
    by_cases g:a=t
    ·rw[if_pos g,if_pos g]
    ·rw[if_neg g,if_neg g]
     by_cases g2:a<m
     ·rw[if_pos g2,if_pos (by omega)]
     ·rw[if_neg g2,if_neg (by omega)]
   ·rw[←hF.addrow (i:=m) (j:=t) (fun a q=>if a=t then A t q else if a<m then A a q+c a*A t q else A a q) (c m) (by omega) ht e]
    refine hF.congr _ _ fun a q _ _=> ?_
    by_cases g:a=m
    ·subst g
     rw[setRow_at,if_neg e,if_pos (by omega),if_neg e,if_neg (by omega),if_pos rfl]
    ·rw[setRow_ne _ _ g]
     by_cases g1:a=t
     ·rw[if_pos g1,if_pos g1]
     ·rw[if_neg g1,if_neg g1]
      by_cases g2:a<m
      ·rw[if_pos g2,if_pos (by omega)]
      ·rw[if_neg g2,if_neg (by omega)]
 rw[←h n (Nat.le_refl _)]
 refine hF.congr _ _ fun a q ha _=> ?_
 by_cases e:a=t
 ·rw[if_pos e,if_pos e]
 ·rw[if_neg e,if_neg e,if_pos ha]
structure Inv (r:Nat) (W:Mx) (k:Nat) (s:St):Prop where
 len:s.piv.length≤r
 lt:∀j,j<s.piv.length→s.piv.getD j 0<k
 inc:∀i j,i<j→j<s.piv.length→s.piv.getD i 0<s.piv.getD j 0
 unit:∀j,j<s.piv.length→∀i,i<r→s.w i (s.piv.getD j 0)=if i=j then 1 else 0
 left:∀i,i<s.piv.length→∀q,q<s.piv.getD i 0→s.w i q=0
 low:∀i,s.piv.length≤i→i<r→∀q,q<k→s.w i q=0
 by_:∃P,det r P*s.d=1∧∀i,i<r→∀q,s.w i q=pr r P W i q
theorem Inv.start (r:Nat) (W:Mx):Inv r W 0 ⟨W,[],1⟩ where
 len:=Nat.zero_le _
 lt:=fun j h=>by simp at h
 inc:=fun i j _ h=>by simp at h
 unit:=fun j h=>by simp at h
 left:=fun j h=>by simp at h
 low:=fun i _ _ q h=>by omega
 by_:=⟨delta,by rw[det_one];grind,fun i hi q=>by rw[pr,sum_deltaL,if_pos hi]⟩
theorem getD_snocN {l:List Nat} {a j:Nat} (h:j<l.length):(l++[a]).getD j 0=l.getD j 0:=by
 rw[List.getD_eq_getElem?_getD,List.getD_eq_getElem?_getD,List.getElem?_append_left h]
theorem getD_last {l:List Nat} {a:Nat}:(l++[a]).getD l.length 0=a:=by simp[List.getD_eq_getElem?_getD]
theorem swapRow_lt {w:Mx} {i t a:Nat} (h:a<t) (hi:t≤i):swapRow w i t a=w a:=by
 unfold swapRow;rw[if_neg (by omega),if_neg (by omega)]
theorem swapRow_ge {w:Mx} {i t a r:Nat} (hi:t≤i) (hir:i<r) (h:t≤a) (har:a<r):∃b,t≤b∧b<r∧swapRow w i t a=w b:=by
 unfold swapRow
 by_cases h1:a=i
 ·rw[if_pos h1];exact⟨t,Nat.le_refl _,by omega,rfl⟩
 ·rw[if_neg h1]
  by_cases h2:a=t
  ·rw[if_pos h2];exact⟨i,hi,hir,rfl⟩
  ·rw[if_neg h2];exact⟨a,h,har,rfl⟩
theorem swapRow_t {w:Mx} {i t:Nat}:swapRow w i t t=w i:=by
 unfold swapRow
 by_cases h:t=i
 ·rw[if_pos h,h]
 ·rw[if_neg h,if_pos rfl]
theorem pr_swap (r:Nat) (P W:Mx) (i t a q:Nat):pr r (swapRow P i t) W a q=swapRow (pr r P W) i t a q:=by
 show(sumR r fun p=>(if a=i then P t else if a=t then P i else P a) p*W p q)=(if a=i then pr r P W t else if a=t then pr r P W i else pr r P W a) q
 by_cases h:a=i
 ·rw[if_pos h,if_pos h];rfl
 ·rw[if_neg h,if_neg h]
  by_cases h2:a=t
  ·rw[if_pos h2,if_pos h2];rfl
  ·rw[if_neg h2,if_neg h2];rfl
theorem Inv.step {r:Nat} {W:Mx} {k:Nat} {s:St} (h:Inv r W k s):Inv r W (k+1) (colStep r s k):=by
 unfold colStep
 cases hp:pickF s.w k (r - s.piv.length) s.piv.length with
 |none=>
  have hz:=pick_none hp
  have:=h.len
  show Inv r W (k+1) s
  exact {h with
   lt:=fun j hj=>by have:=h.lt j hj;omega
   low:=fun i h1 h2 q hq=>by
    by_cases e:q=k
    ·rw[e];exact hz i h1 (by omega)
    ·exact h.low i h1 h2 q (by omega)}
 |some i=>
  obtain⟨g1,g2,g3⟩:=pick_some hp
  dsimp only
  have hl:=h.len
  have hir:i<r:=by omega
  have ht:s.piv.length<r:=by omega
  have hdef:s.piv.length=s.piv.length:=rfl
  revert g1 g2 ht hl
  generalize ht':s.piv.length=t
  intro g1 g2 hl ht
  have hp0:swapRow s.w i t t k≠0:=by rw[swapRow_t];exact g3
  have hz:∀a,t≤a→a<r→∀q,q<k→swapRow s.w i t a q=0:=fun a h1 h2 q hq=>by
   obtain⟨b,b1,b2,e⟩:=swapRow_ge (w:=s.w) g1 hir h1 h2
   rw[e];exact h.low b (by omega) b2 q hq
  have hu:∀j,j<t→∀a,a<r→swapRow s.w i t a (s.piv.getD j 0)=if a=j then 1 else 0:=fun j hj a ha=>by
   by_cases hat:a<t
   ·rw[swapRow_lt hat g1];exact h.unit j (by omega) a ha
   ·rw[hz a (by omega) ha _ (h.lt j (by omega)),if_neg (by omega)]
  have hc:∀a,a<t→∀q,q<k→clearM (swapRow s.w i t) t k a q=s.w a q:=fun a ha q hq=>by
   unfold clearM
   rw[if_neg (by omega),hz t (Nat.le_refl _) ht q hq,swapRow_lt ha g1];grind
  have hlen:(s.piv++[k]).length=t+1:=by rw[List.length_append,ht'];rfl
  refine {len:=by simp only[hlen];omega,lt:= ?_,inc:= ?_,unit:= ?_,left:= ?_,low:= ?_,by_:= ?_}
  ·intro j hj
   simp only[hlen]at hj
   show(s.piv++[k]).getD j 0<k+1
   by_cases e:j<t
   ·rw[getD_snocN (by omega)];have:=h.lt j (by omega);omega
   ·obtain rfl:j=t:=by omega
    rw[←ht',getD_last];omega
  ·intro a b hab hb
   simp only[hlen]at hb
   show(s.piv++[k]).getD a 0<(s.piv++[k]).getD b 0
   by_cases e:b<t
   ·rw[getD_snocN (by omega),getD_snocN (by omega)];exact h.inc a b hab (by omega)
   ·obtain rfl:b=t:=by omega
    rw[getD_snocN (by omega)]
    rw[show(s.piv++[k]).getD b 0=k from by rw[←ht',getD_last]]
    exact h.lt a (by omega)
  ·intro j hj a ha
   simp only[hlen]at hj
   show clearM (swapRow s.w i t) t k a ((s.piv++[k]).getD j 0)=_
   by_cases e:j<t
   ·rw[getD_snocN (by omega)]
    unfold clearM
    rw[hu j e t ht,hu j e a ha,if_neg (show ¬t=j by omega)]
    by_cases g:a=t
    ·rw[if_pos g,if_neg (by omega),Rat.div_def];grind
    ·rw[if_neg g,Rat.div_def];split<;>grind
   ·obtain rfl:j=t:=by omega
    rw[show(s.piv++[k]).getD j 0=k from by rw[←ht',getD_last]]
    unfold clearM
    by_cases g:a=j
    ·rw[if_pos g,if_pos g,Rat.div_def,Rat.mul_inv_cancel _ hp0]
    ·rw[if_neg g,if_neg g,Rat.div_def,Rat.mul_inv_cancel _ hp0];grind
  ·intro a ha q hq
   simp only[hlen]at ha
   change q<(s.piv++[k]).getD a 0 at hq
   show clearM (swapRow s.w i t) t k a q=0
   by_cases e:a<t
   ·rw[getD_snocN (by omega)]at hq
    have:=h.lt a (by omega)
    rw[hc a e q (by omega)]
    exact h.left a (by omega) q hq
   ·obtain rfl:a=t:=by omega
    rw[show(s.piv++[k]).getD a 0=k from by rw[←ht',getD_last]]at hq
    unfold clearM
    rw[if_pos rfl,hz a (Nat.le_refl _) ht q hq,Rat.div_def];grind
  ·intro a h1 h2 q hq
   simp only[hlen]at h1
   show clearM (swapRow s.w i t) t k a q=0
   unfold clearM
   rw[if_neg (by omega)]
   by_cases e:q=k
   ·rw[e,Rat.div_def,Rat.mul_inv_cancel _ hp0];grind
   ·rw[hz a (by omega) h2 q (by omega),hz t (Nat.le_refl _) ht q (by omega),Rat.div_def];grind
  ·obtain⟨P,hP1,hP2⟩:=h.by_
   have hsw:∀a,a<r→∀q,swapRow s.w i t a q=pr r (swapRow P i t) W a q:=fun a ha q=>by
    rw[pr_swap];unfold swapRow
    by_cases e1:a=i
    ·rw[if_pos e1,if_pos e1];exact hP2 t ht q
    ·rw[if_neg e1,if_neg e1]
     by_cases e2:a=t
     ·rw[if_pos e2,if_pos e2];exact hP2 i hir q
     ·rw[if_neg e2,if_neg e2];exact hP2 a ha q
   have hsd:det r (swapRow P i t)*(if i=t then s.d else - s.d)=1:=by
    by_cases e:i=t
    ·subst e
     rw[if_pos rfl,show swapRow P i i=P from by
      funext a;unfold swapRow
      by_cases e1:a=i
      ·rw[if_pos e1,e1]
      ·rw[if_neg e1,if_neg e1],hP1]
    ·rw[if_neg e,(det_Alt r).swap P hir ht e];grind
   generalize swapRow s.w i t=w1 at*
   generalize swapRow P i t=Q at*
   have hinv:=Rat.mul_inv_cancel _ hp0
   refine⟨fun a q=>if a=t then(w1 t k)⁻¹*Q t q else Q a q+(- w1 a k*(w1 t k)⁻¹)*Q t q, ?_, ?_⟩
   ·have e1:=(det_Alt r).addall (setRow Q t fun q=>(w1 t k)⁻¹*Q t q) ht fun a=> - w1 a k
    rw[(det_Alt r).smul Q _ _ ht,show setRow Q t (fun q=>Q t q)=Q from setRow_self Q t]at e1
    rw[det_congr (B:=fun a q=>if a=t then setRow Q t (fun q=>(w1 t k)⁻¹*Q t q) t q else setRow Q t (fun q=>(w1 t k)⁻¹*Q t q) a q+ - w1 a k*setRow Q t (fun q=>(w1 t k)⁻¹*Q t q) t q) fun a q _ _=>by
     rw[setRow_at]
     by_cases e:a=t
     ·rw[if_pos e,if_pos e]
     ·rw[if_neg e,if_neg e,setRow_ne _ _ e];grind,e1]
    show(w1 t k)⁻¹*det r Q*((if i=t then s.d else - s.d)*w1 t k)=1
    grind
   ·intro a ha q
    show clearM w1 t k a q=_
    unfold clearM pr
    by_cases e:a=t
    ·rw[if_pos e,hsw t ht q,Rat.div_def,pr,sum_congr r (f:=fun p=>(if a=t then(w1 t k)⁻¹*Q t p else Q a p+(- w1 a k*(w1 t k)⁻¹)*Q t p)*W p q) (g:=fun p=>(w1 t k)⁻¹*(Q t p*W p q)) fun p _=>by rw[if_pos e];grind,←sum_mulL];grind
    ·rw[if_neg e,hsw t ht q,hsw a ha q,Rat.div_def,pr,sum_congr r (f:=fun p=>(if a=t then(w1 t k)⁻¹*Q t p else Q a p+(- w1 a k*(w1 t k)⁻¹)*Q t p)*W p q) (g:=fun p=>Q a p*W p q+(- w1 a k*(w1 t k)⁻¹)*(Q t p*W p q)) fun p _=>by rw[if_neg e];grind,sum_add,←sum_mulL]
     unfold pr;grind
theorem Inv.red {r:Nat} {W:Mx}:∀c,Inv r W c (redF r c ⟨W,[],1⟩)
 |0=>Inv.start r W
 |c+1=>by rw[redF_succ];exact(Inv.red c).step
end Go.Proofs.YtbopchpncgdaaaaGreatDoor
