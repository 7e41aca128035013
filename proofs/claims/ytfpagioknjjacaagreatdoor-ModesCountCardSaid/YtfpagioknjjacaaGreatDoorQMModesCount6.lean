/- The texts Ek, Em, Ga, Gb, Gc, Gd, Ge, Shelf, Ha, Hb, Pa, Hd, Ja, Na, Nb, Nc, Nd, Ne, Nf, Ng, Nh, Nk, Nl, Ma, Mb, Mc, Mi, Np, Ab, Ac, Xa, Xb, Xc. -/
import Derived.Shelf.Strings.Builder1
import Derived.Shelf.Strings.Builder2
import Derived.Shelf.Strings.OnBuilder
import Derived.Shelf.Small.Bits
import Derived.Shelf.Strings.BuilderF
import Derived.Shelf.Strings.Builder2Cap
import Derived.Shelf.Strconv.Itoa0
import Derived.Shelf.Strconv.Itoa1
import Derived.Shelf.LaysM
import Derived.Shelf.Strconv.Itoa2
import Derived.Shelf.Strconv.Itoa3
import Derived.Shelf.Strings.Prefix
import Derived.Shelf.Bits.Mul64
import Derived.Shelf.Strings.Repeat
import Derived.Ground.Names2Prog
import Derived.Shelf.Slices.ReverseS
import Derived.Shelf.Slices.Cells
import Derived.Test.YtfpagioknjjacaaGreatDoorProg
import Derived.Test.YtfpagioknjjacaaGreatDoorQMModesCount5
import Derived.Test.YtfpagioknjjacaaGreatDoorQMModesCount3
import Derived.Test.YtfpagioknjjacaaGreatDoorQMModesCount4
import Derived.Test.YtfpagioknjjacaaGreatDoorQMModesCount2
namespace Go.Proofs.YtfpagioknjjacaaGreatDoor
open Go.Sx
set_option linter.unusedSimpArgs false
set_option linter.unusedVariables false
set_option maxRecDepth 100000
set_option maxHeartbeats 8000000
theorem LX (a b:Nat) (ha:(ae a).length<274877906944) (hb:(ae b).length<274877906944) (h0:b≠0):
  af Tryz.prog 280 [.nat a,.nat b] [] (.cC [.nat (a/b),.nat (a % b),.val (.bool true)]) [] []:=by
 by_cases hs:a<18446744073709551616∧b<18446744073709551616
 ·exact ae0 a b hs.1 hs.2 h0
 have kz:=vX b
 rw[decide_eq_false h0]at kz
 have kc:=DR a b aa aa
 have kb:=gY b 1002 aa
 have ka:=gY a 1001 aa
 by_cases aI:a<b
 ·have t1:Hid (decide (((a:Int) - b).sign<0)=true):=show decide (((a:Int) - b).sign<0)=true from decide_eq_true (Int.sign_neg_iff.2 aa)
  rw[Nat.div_eq_of_lt aI,Nat.mod_eq_of_lt aI]
  refine cj [] Tryz.func280 ?_
  intro W0 w0 ρ0 hE
  conv=>whnf
  (repeat((first|refine ah rfl rfl ?_|refine ag rfl rfl ?_|refine aB aF ?_|refine a8 (by assumption) ?_|rw[t1.out]);conv=>whnf));exact aq.refl _
 have t1:Hid (decide (((a:Int) - b).sign<0)=false):=show decide (((a:Int) - b).sign<0)=false from decide_eq_false Q26
 have qx:¬a<18446744073709551616:=aa
 have hlen:(ae b).length≤(ae a).length:=gA (Nat.lt_of_le_of_lt (Nat.le_of_not_lt aI) (bY a))
 have hA:b8 a=ae a:=if_neg qx
 rw[hA]at ka
 have qy:=Gb b
 have hb0:(ae b).length≠0:=(mz h0).1
 have bF:=ey a
 have hvb:=xQ b
 have hbl:=cq b
 have ahw:(b8 b).length<549755813888:=by
  have:=uu b (M:=274877906944) aa aa
  omega
 by_cases uh:(ae b).length=1
 ·rw[uh]at kb hvb qy
  obtain⟨y,hy⟩:=Int.eq_ofNat_of_zero_le (mG b 0).1
  have UD:=(mG b 0).2
  have hyb:y=b:=by
   rw[ay,ay,Int.pow_zero,hy]at hvb
   omega
  subst hyb
  have ks:=HA (ae a) (ae a).length (Nat.le_refl _) aa (aX a) y h0 aa 1001 2001 aH true a bF
  have hq:(ay (bE (a/y) (ae a).length) (ae a).length).toNat=a/y:=by
   rw[gB,Nat.mod_eq_of_lt (Nat.lt_of_le_of_lt (Nat.div_le_self _ _) (bY a))];exact Int.toNat_natCast _
  have ko:=uo (bE (a/y) (ae a).length) (ae a).length (by rw[cS];exact Nat.le_refl _) (by rw[cS];omega) (fO _ _) 2001 true
  rw[hq]at ko
  have hr:a % y<y:=Nat.mod_lt _ aa
  have i1:Hid (IntKind.u64.wrap ((a % y:Nat):Int)=((a % y:Nat):Int)):=show IntKind.u64.wrap ((a % y:Nat):Int)=((a % y:Nat):Int)from dW aa
  have i2:Hid ((b8 y).getD (0+Int.toNat 0) 0=(y:Int)):=show(b8 y).getD (0+Int.toNat 0) 0=(y:Int)from hy
  refine cj [] Tryz.func280 ?_
  intro W0 w0 ρ0 hE
  conv=>whnf
  (repeat(first|(refine ag rfl rfl ?_;conv=>whnf)|(refine a8 (by assumption) ?_;conv=>whnf)|(rw[t1.out];conv=>whnf)))
  rw[de,decide_eq_false qx]
  (repeat((first|refine ah rfl rfl ?_|refine ag rfl rfl ?_|refine aB aF ?_|refine bg Q3 ?_|refine av Q3 ?_|refine oR (by assumption) rfl ?_|refine ny (by assumption) rfl ?_|refine Hn (by assumption) rfl rfl ?_|rw[i2.out]|rw[i1.out]);conv=>whnf))
  refine vg (fun _ _ h=>h) rfl (rW ?_ rfl aa) rfl (fun _ _ h=>h) rfl
  rfl
 ·have hn2:2≤(ae b).length:=aa
  have UF:(b8 b).getD ((ae b).length - 1) 0≠0:=qy.resolve_left hb0
  have hbg:4294967296^((ae b).length - 1)≤b:=by
   have:=rO (mG b) UF
   rw[show(ae b).length - 1+1=(ae b).length from aa,hvb,←cM]at this
   omega
  have VG:a/b<4294967296^((ae a).length+1 - (ae b).length):=by
   refine Nat.div_lt_of_lt_mul (Nat.lt_of_lt_of_le (bY a) ?_)
   have e:4294967296^(ae a).length=4294967296^((ae b).length - 1)*4294967296^((ae a).length+1 - (ae b).length):=by rw[←Nat.pow_add];congr 1;omega
   rw[e]
   exact Nat.mul_le_mul_right _ hbg
  have hrb:a % b<4294967296^((ae a).length+1):=Nat.lt_of_le_of_lt (Nat.mod_le _ _) (Nat.lt_of_lt_of_le (bY a) (Nat.pow_le_pow_right aH aa))
  have kl:=af.rL (aa9 (ae a) (b8 b) (ae a).length (ae b).length a b (Nat.le_refl _) hbl aa ahw (aX a) (mG b) bF hvb hn2 UF hlen 1001 1002 2001 2002 aH aH aH) (fk:=[(1001,⟨23,true,.ints .u32 (ae a)⟩),(1002,⟨23,true,.ints .u32 (b8 b)⟩)])
  have ko1:=uo (bE (a/b) ((ae a).length+1 - (ae b).length)) ((ae a).length+1 - (ae b).length) (by rw[cS];exact Nat.le_refl _) (by rw[cS];omega) (fO _ _) 2001 true
  have ko2:=uo (bE (a % b) ((ae a).length+1)) ((ae a).length+1) (by rw[cS];exact Nat.le_refl _) (by rw[cS];omega) (fO _ _) 2002 true
  rw[gB,Nat.mod_eq_of_lt VG,Int.toNat_natCast]at ko1
  rw[gB,Nat.mod_eq_of_lt hrb,Int.toNat_natCast]at ko2
  have t2:Hid ((((ae b).length:Int)==1)=false):=show(((ae b).length:Int)==1)=false from by simp;omega
  have t3:Hid (decide (((ae b).length:Int)=1)=false):=show decide (((ae b).length:Int)=1)=false from by simp;omega
  refine cj [] Tryz.func280 ?_
  intro W0 w0 ρ0 hE
  conv=>whnf
  (repeat(first|(refine ag rfl rfl ?_;conv=>whnf)|(refine a8 (by assumption) ?_;conv=>whnf)|(rw[t1.out];conv=>whnf)))
  rw[de,decide_eq_false qx]
  (repeat((first|refine ag rfl rfl ?_|refine oR (by assumption) rfl ?_|refine ny (by assumption) rfl ?_|refine⟨[_,_],_,[_,_],[],(by assumption),eX rfl rfl,Qd rfl rfl,ar, ?_⟩|rw[t2.out]);conv=>whnf))
  exact aq.refl _
theorem UG (a b:Nat) (ha:(ae a).length<274877906944) (hb:(ae b).length<274877906944):
  af Tryz.prog 178 [.nat a,.nat b] [] (.nat (Nat.gcd a b)) [] []:=by
 refine cj [] Tryz.func178 ?_
 intro W0 w0 ρ0 hE
 conv=>whnf
 refine az hE (fun k=>k) [2,3,4] [2,3,4] (fun m fr hp=>∃x,(ae x).length<274877906944∧(ae m).length<274877906944∧Nat.gcd x m=Nat.gcd a b∧fr=[(2,.ptr 2 0 0 0),(3,.ptr 3 0 0 0),(4,.ptr 4 0 0 0)]∧hp=[(2,⟨46,true,.one [.nat x]⟩),(3,⟨46,true,.one [.nat m]⟩),(4,⟨46,true,.one [.nat 0]⟩)]) b ?_ ?_ ?_
 ·kernel_rfl
 ·exact⟨a,ha,hb,rfl,rfl,rfl⟩
 rintro m _ _ ⟨x,hx,hm,hg,rfl,rfl⟩
 have kz:=vX m
 by_cases h0:m=0
 ·rw[decide_eq_true h0]at kz
  subst h0
  rw[←hg,Nat.gcd_zero_right]
  conv=>whnf
  (repeat(first|(refine ag rfl rfl ?_;conv=>whnf)|(refine a8 (by assumption) ?_;conv=>whnf)));exact aq.refl _
 ·rw[decide_eq_false h0]at kz
  have kd:=LX x m hx hm h0
  have aI:=Nat.mod_lt x (Nat.pos_of_ne_zero h0)
  conv=>whnf
  (repeat(first|(refine ah rfl rfl ?_;conv=>whnf)|(refine aB aF ?_;conv=>whnf)|(refine a8 (by assumption) ?_;conv=>whnf)))
  refine⟨x % m,fun k=>k,[2,3,4],[2,3,4],aI,aF,m,hm, ?_, ?_,rfl,rfl⟩
  ·exact Nat.lt_of_le_of_lt (gA (Nat.lt_trans aI (bY m))) hm
  ·rw[←hg,Nat.gcd_comm m,←Nat.gcd_rec,Nat.gcd_comm]
theorem iG {n:Nat} (h:sz n≤1073741824):(ae n).length<274877906944:=by
 have:=Hy (n:=n) (M:=33554432) aa
 omega
theorem oW:jq 1073741824 where
 pX:=aH
 cmp a b ha hb:=DR a b (by have:=iG ha;omega) (by have:=iG hb;omega)
 add a b h:=Ux a b (by have:=iG (n:=a) (Nat.le_trans (eJ aa) h);omega) (by have:=iG (n:=b) (Nat.le_trans (eJ aa) h);omega)
 sub a b ha h:=Uy a b (by have:=iG ha;omega) h
 aaS a b hb h:=LK a b (by have:=iG hb;have:=gA (Nat.lt_trans h (bY b));omega) (by have:=iG hb;omega) h
 mul a b h:=UA a b (iG aa) (iG aa)
 div a b ha hb h0:=LX a b (iG ha) (iG hb) h0
 aaT a:=LD a
 gcd a b ha hb:=UG a b (iG ha) (iG hb)
def fs (q:Rat):Nat:=qW q+1
theorem iH (a b:Rat):fs (a+b)≤fs a+fs b:=by have:=@Ht a b;unfold fs;omega
theorem uv (a b:Rat):fs (a - b)≤fs a+fs b:=by have:=@P5 a b;unfold fs;omega
theorem cT (a b:Rat):fs (a*b)≤fs a+fs b:=by have:=@P4 a b;unfold fs;omega
theorem oX (a:Rat):fs (-a)=fs a:=by unfold fs;rw[Hu]
theorem LY (a:Rat):fs a⁻¹≤fs a:=by have:=Hv a;unfold fs;omega
theorem qz (a b:Rat):fs (a/b)≤fs a+fs b:=by rw[Rat.div_def];have h1:=cT a b⁻¹;have h2:=LY b;omega
theorem eh:fs 0=2:=by decide+kernel
theorem mf:fs 1=2:=by decide+kernel
theorem LZ (q:Rat):2≤fs q:=by have:=dq q;have:=um q.den q.den_nz;unfold fs;omega
theorem nI {n:Int} (h0: -9223372036854775808≤n) (h1:n<9223372036854775808):fs (n:Rat)≤65:=by
 have:=vY (n:=n) (k:=64) (aaW h0 h1) aH;unfold fs;omega
theorem aff (a b:Rat) (h:fs a+fs b≤1073741824):af Tryz.prog 80 [.frac a,.frac b] [] (.frac (a+b)) [] []:=LS oW a b (by unfold fs at h;omega)
theorem afg (a b:Rat) (h:fs a+fs b≤1073741824):af Tryz.prog 81 [.frac a,.frac b] [] (.frac (a*b)) [] []:=F8 oW a b (by unfold fs at h;omega)
theorem abj (a b:Int) (ha:sz a.natAbs<1073741824) (hb:sz b.natAbs<1073741824):af Tryz.prog 291 [.int a,.int b] [] (.val (.int .i64 (a - b).sign)) [] []:=by
 have k1:=LA oW a b ha hb
 have k2:=BS (a - b)
 refine cj [] Tryz.func291 ?_
 intro W0 w0 ρ0 hE
 conv=>whnf
 (repeat(first|(refine a8 (by assumption) ?_;conv=>whnf)));exact Q4
def nJ (ls:List (List Rat)):Int:=if ls.any (fun v=>decide (2048<v.length))then 3 else if ls.all (fun v=>v.length==(ls.headD []).length)then 0 else 1
theorem Qe (ls:List (List Rat)) (hn:ls.length<1099511627776) (hl:∀v∈ls,v.length<1099511627776):af Tryz.prog 302 [bX 1 cD ls] [] (.val (.int .i64 (nJ ls))) [] []:=by
 refine cj [] Tryz.func302 ?_
 intro W0 w0 ρ0 hE
 conv=>whnf
 (repeat(first|(refine aC Q7 ?_;conv=>whnf)))
 refine az hE (fun k=>k) [0,2,7,8,9] [] (fun m fr hp=>∃i,m=ls.length - i∧i≤ls.length∧(∀j,j<i→decide (2048<(ls.getD j []).length)=false)∧fr=[(0,bX 1 cD ls),(2,.val (.int .i64 0)),(7,bX 1 cD ls),(8,.val (.int .i64 (ls.length:Nat))),(9,.val (.int .i64 (i:Nat)))]∧hp=[]) ls.length ?_ ?_ ?_
 ·kernel_rfl
 ·exact⟨0,rfl,Nat.zero_le _,(fun j hj=>aa),rfl,rfl⟩
 rintro m _ _ ⟨i,rfl,hi,hs,rfl,rfl⟩
 conv=>whnf
 by_cases aI:i<ls.length
 ·have t1:=jD aI
  have t2:=cp (i:=i) aa
  by_cases hL:2048<(ls.getD i []).length
  ·have t3:decide (((ls.getD i []).length:Int)>2048)=true:=decide_eq_true aa
   have e:nJ ls=3:=by rw[nJ,if_pos (Lr (d:=[]) aI (decide_eq_true hL))]
   rw[e]
   (repeat((first|refine ah rfl rfl ?_|refine aC Q7 ?_|refine aC Q6 ?_|refine aC Kk ?_|rw[t1]|rw[t3]);conv=>whnf));exact Q4
  ·have t3:decide (((ls.getD i []).length:Int)>2048)=false:=decide_eq_false aa
   (repeat((first|refine ah rfl rfl ?_|refine ag rfl rfl ?_|refine aC Q7 ?_|refine aC Q6 ?_|refine aC Kk ?_|rw[t1]|rw[t3]|rw[t2]);conv=>whnf))
   refine⟨ls.length - (i+1),fun k=>k,[0,2,7,8,9],[],aa,aF,i+1,rfl,aI, ?_,rfl,rfl⟩
   intro j hj
   by_cases vH:j=i
   ·rw[vH];exact decide_eq_false hL
   ·exact hs j aa
 ·have t1:=jP aI
  have hI:i=ls.length:=aa
  subst hI
  have L0:ls.any (fun v=>decide (2048<v.length))=false:=Ls [] hs
  (repeat(first|(refine ag rfl rfl ?_;conv=>whnf)|(refine aC Q7 ?_;conv=>whnf)|(rw[t1];conv=>whnf)))
  refine az hE (fun k=>k) [0,2,17,18,19] [] (fun m fr hp=>∃i,m=ls.length - i∧i≤ls.length∧(∀j,j<i→((ls.getD j []).length==(ls.headD []).length)=true)∧fr=[(0,bX 1 cD ls),(2,.val (.int .i64 0)),(17,bX 1 cD ls),(18,.val (.int .i64 (ls.length:Nat))),(19,.val (.int .i64 (i:Nat)))]∧hp=[]) ls.length ?_ ?_ ?_
  ·kernel_rfl
  ·exact⟨0,rfl,Nat.zero_le _,(fun j hj=>aa),rfl,rfl⟩
  rintro m _ _ ⟨i,rfl,hi,hs,rfl,rfl⟩
  conv=>whnf
  by_cases aI:i<ls.length
  ·have t1:=jD aI
   have t2:=cp (i:=i) aa
   have h0:0<ls.length:=aa
   have hh:ls.getD 0 []=ls.headD []:=by cases ls<;>rfl
   by_cases hL:(ls.getD i []).length=(ls.getD 0 []).length
   ·have t3:(((ls.getD i []).length:Int) != ((ls.getD 0 []).length:Int))=false:=by rw[hL];exact bne_self_eq_false _
    (repeat((first|refine ah rfl rfl ?_|refine ag rfl rfl ?_|refine aC Q7 ?_|refine aC Q6 ?_|refine aC Kk ?_|rw[t1]|rw[t3]|rw[t2]);conv=>whnf))
    refine⟨ls.length - (i+1),fun k=>k,[0,2,17,18,19],[],aa,aF,i+1,rfl,aI, ?_,rfl,rfl⟩
    intro j hj
    by_cases vH:j=i
    ·rw[vH,hL,hh];exact beq_self_eq_true _
    ·exact hs j aa
   ·have t3:(((ls.getD i []).length:Int) != ((ls.getD 0 []).length:Int))=true:=bne_iff_ne.2 aa
    have e:nJ ls=1:=by
     rw[nJ,if_neg (by rw[L0];exact Bool.false_ne_true),if_neg]
     rw[Lu (d:=[]) aI (by rw[←hh];exact beq_false_of_ne hL)]
     exact Bool.false_ne_true
    rw[e]
    (repeat((first|refine ah rfl rfl ?_|refine aC Q7 ?_|refine aC Q6 ?_|refine aC Kk ?_|rw[t1]|rw[t3]);conv=>whnf));exact Q4
  ·have t1:=jP aI
   have hI:i=ls.length:=aa
   subst hI
   have e:nJ ls=0:=by
    rw[nJ,if_neg (by rw[L0];exact Bool.false_ne_true),if_pos (Lt [] hs)]
   rw[e]
   (repeat(first|(refine ag rfl rfl ?_;conv=>whnf)|(rw[t1];conv=>whnf)));exact Q4
theorem Ju (a b:List Rat):nJ [a,b]=if 2048<a.length∨2048<b.length then 3 else if a.length=b.length then 0 else 1:=by
 simp only[nJ,List.any_cons,List.any_nil,Bool.or_false,Bool.or_eq_true,decide_eq_true_eq,List.all_cons,List.all_nil,Bool.and_true,List.headD_cons,beq_self_eq_true,Bool.true_and,beq_iff_eq]
 split
 ·rfl
 ·split
  ·rename_i h;rw[if_pos h.symm]
  ·rename_i h;rw[if_neg (fun h'=>h h'.symm)]
theorem Qf (F:Rat→Rat→Rat) (g:FuncId) (a b:List Rat) (Ap:a.length=b.length) (hl:a.length≤2048)
  (hf:∀i,i<a.length→af Tryz.prog g ([]++([.frac (a.getD i 0),.frac (b.getD i 0)]++[])) [] (.frac (F (a.getD i 0) (b.getD i 0))) [] []):
  af Tryz.prog 213 [cD a,cD b,.clo g [] []] [] (.cC [cD (List.zipWith F a b),.val (.int .i64 0)]) [] []:=by
 have k1:=Qe [a,b] (by simp) (by simp;omega)
 rw[Ju,if_neg aa,if_pos Ap]at k1
 refine qU [13] Tryz.func213 ?_
 intro w0 ρ0 hE
 conv=>whnf
 (repeat((first|refine ag rfl rfl ?_|refine And.intro Q5 ?_|refine a8 (by assumption) ?_|rw[bne_self_eq_false]|refine aC Q7 ?_|rw[Int.toNat_natCast]);conv=>whnf))
 have hz:=rT (f:=F) rfl Ap.symm
 refine az hE (fun k=>k) [0,1,2,6,7,9,22,23] [20] (fun m fr hp=>∃i,m=a.length - i∧i≤a.length∧fr=[(0,cD a),(1,cD b),(2,.clo g [] []),(6,.val (.slice none 0 0)),(7,.val (.int .i64 0)),(9,.aK 20 5 0 a.length),(22,.val (.int .i64 (a.length:Nat))),(23,.val (.int .i64 (i:Nat)))]∧
  hp=[(20,⟨52,true,.cd ((List.zipWith F a b).take i++List.replicate (a.length - i) 0)⟩)]) a.length ?_ ?_ ?_
 ·kernel_rfl
 ·exact⟨0,rfl,Nat.zero_le _,rfl,rfl⟩
 rintro m _ _ ⟨i,rfl,hi,rfl,rfl⟩
 conv=>whnf
 have hlen:=gW (d:=(0:Rat)) hi hz
 by_cases aI:i<a.length
 ·have t1:=jD aI
  have t2:=cp (i:=i) aa
  have k2:=hf i aI
  rw[←BR (f:=F) (d3:=0) aI aa]at k2
  (repeat((first|refine ah rfl rfl ?_|refine aB aF ?_|refine And.intro Q5 ?_|refine a8 (by assumption) ?_|refine aC An ?_|refine aC Q6 ?_|rw[t1]|rw[t2]|rw[Int.toNat_natCast]|rw[Nat.zero_add]);conv=>whnf))
  refine⟨a.length - (i+1),fun k=>k,[0,1,2,6,7,9,22,23],[20],aa,aF,i+1,rfl,aI,rfl, ?_⟩
  rw[←jo (e:=0) aI hz]
  rfl
 ·have t1:=jP aI
  have hI:i=a.length:=aa
  subst hI
  rw[kQ hz]
  (repeat(first|(refine ag rfl rfl ?_;conv=>whnf)|(rw[t1];conv=>whnf)))
  exact Q17
def vl (l:List Rat):Nat:=(l.map fs).sum
theorem L1 (l:List Rat) (s:Rat):fs (l.foldl (·+·) s)≤fs s+vl l:=by
 induction l generalizing s with
 |nil=>simp[vl]
 |cons q l ih=>
  have:=ih (s+q)
  have:=iH s q
  simp only[List.foldl_cons,vl,List.map_cons,List.sum_cons]at*
  omega
theorem Gl (s q:Rat) (h:fs s+fs q≤1073741824) (K:Nat):
  af Tryz.prog 301 [.ptr K 0 0 0,.frac q] [(K,⟨336,true,.one [.frac s]⟩)] (.cC []) [] [(K,⟨336,true,.one [.frac (s+q)]⟩)]:=by
 have k1:=aff s q h
 refine gw (Z:=[]) aM bB Tryz.func301 rfl aF (args:=[.ptr 0 0 0 0,.frac q]) (fk:=[(0,⟨336,true,.one [.frac s]⟩)]) (c:=.cC []) (new:=[]) (upd:=[(0,⟨336,true,.one [.frac (s+q)]⟩)]) (bV.of rfl rfl rfl rfl rfl rfl rfl rfl rfl rfl rfl) rfl (fun _=>K) bh.upd ?_
 intro W0 w0 ρ0 hE
 conv=>whnf
 (repeat(first|(refine aB aF ?_;conv=>whnf)|(refine a8 (by assumption) ?_;conv=>whnf)))
 exact⟨aq.refl _,(fun _ _ h=>by cases h),fun k b hm=>by simp only[List.mem_singleton,Prod.mk.injEq]at hm;obtain⟨rfl,rfl⟩:=hm;rfl⟩
theorem mJ (l:List Rat) (i:Nat) (hi:i<l.length):l.take (i+1)=l.take i++[l.getD i 0]:=by rw[List.take_add_one,List.getD_eq_getElem?_getD,List.getElem?_eq_getElem hi];rfl
theorem xV (l:List Rat) (i:Nat) (hi:i<l.length) (s:Rat):(l.take (i+1)).foldl (·+·) s=(l.take i).foldl (·+·) s+l.getD i 0:=by
 rw[mJ l i hi,List.foldl_append];rfl
theorem xW (a b:List Rat):vl (a++b)=vl a+vl b:=by unfold vl;rw[List.map_append,List.sum_append]
theorem Qg (q:Rat):vl [q]=fs q:=by simp[vl]
theorem L2 (l:List Rat) (i:Nat) (hi:i<l.length):vl (l.take i)+fs (l.getD i 0)≤vl l:=by
 have h1:vl (l.take (i+1))=vl (l.take i)+fs (l.getD i 0):=by rw[mJ l i hi,xW,Qg]
 have h3:vl l=vl (l.take (i+1))+vl (l.drop (i+1)):=by rw[←xW,List.take_append_drop]
 rw[h3,h1]
 exact Nat.le_add_right _ _
theorem abk (l:List Rat) (s:Rat) (hn:l.length<1099511627776) (h:fs s+vl l≤1073741824) (K:Nat):
  af Tryz.prog 300 [.clo 301 [.ptr K 0 0 0] [],cD l] [(K,⟨336,true,.one [.frac s]⟩)] (.cC []) [] [(K,⟨336,true,.one [.frac (l.foldl (·+·) s)]⟩)]:=by
 refine gw (Z:=[]) aM bB Tryz.func300 rfl aF (args:=[.clo 301 [.ptr 1001 0 0 0] [],cD l]) (fk:=[(1001,⟨336,true,.one [.frac s]⟩)]) (c:=.cC []) (new:=[]) (upd:=[(1001,⟨336,true,.one [.frac (l.foldl (·+·) s)]⟩)]) (bV.of rfl rfl rfl rfl rfl rfl rfl rfl rfl rfl rfl) rfl (fun _=>K) bh.upd ?_
 intro W0 w0 ρ0 hE
 conv=>whnf
 (repeat(first|(refine aC Q7 ?_;conv=>whnf)))
 refine az hE (fun k=>k) [0,1,6,7,8] [1001] (fun m fr hp=>∃i,m=l.length - i∧i≤l.length∧fr=[(0,.clo 301 [.ptr 1001 0 0 0] []),(1,cD l),(6,cD l),(7,.val (.int .i64 (l.length:Nat))),(8,.val (.int .i64 (i:Nat)))]∧
  hp=[(1001,⟨336,true,.one [.frac ((l.take i).foldl (·+·) s)]⟩)]) l.length ?_ ?_ ?_
 ·kernel_rfl
 ·exact⟨0,rfl,Nat.zero_le _,rfl,rfl⟩
 rintro m _ _ ⟨i,rfl,hi,rfl,rfl⟩
 conv=>whnf
 by_cases aI:i<l.length
 ·have t1:=jD aI
  have t2:=cp (i:=i) aa
  have hs:=L1 (l.take i) s
  have Km:=L2 l i aI
  have k1:=Gl ((l.take i).foldl (·+·) s) (l.getD i 0) aa 1001
  rw[←xV l i aI s]at k1
  (repeat((first|refine ah rfl rfl ?_|refine vh (by assumption) rfl rfl ?_|refine aC An ?_|refine aC Q6 ?_|rw[t1]|rw[t2]);conv=>whnf))
  exact⟨l.length - (i+1),fun k=>k,[0,1,6,7,8],[1001],aa,aF,i+1,rfl,aI,rfl,rfl⟩
 ·have t1:=jP aI
  have hI:i=l.length:=aa
  subst hI
  rw[List.take_length]
  (repeat(first|(refine ag rfl rfl ?_;conv=>whnf)|(rw[t1];conv=>whnf)))
  exact⟨aq.refl _,(fun _ _ h=>by cases h),fun k b hm=>by simp only[List.mem_singleton,Prod.mk.injEq]at hm;obtain⟨rfl,rfl⟩:=hm;rfl⟩
theorem afh (l:List Rat) (hn:l.length<1099511627776) (h:vl l+2≤1073741824):af Tryz.prog 211 [cD l] [] (.frac (l.foldl (·+·) 0)) [] []:=by
 have k1:=abk l 0 hn (by rw[eh];omega) 3
 refine cj [] Tryz.func211 ?_
 intro W0 w0 ρ0 hE
 conv=>whnf
 (repeat(first|(refine vh (by assumption) rfl rfl ?_;conv=>whnf)|(refine aC Pa ?_;conv=>whnf)));exact Q4
def Fit (a b:List Rat):Prop:=∀i,i<a.length→fs (a.getD i 0)+fs (b.getD i 0)≤1073741824
abbrev BZ (a b:List Rat):List Rat:=List.zipWith (·*·) a b
def DY (a b:List Rat):Rat:=(BZ a b).foldl (·+·) 0
theorem UH (a b:List Rat) (Ap:a.length=b.length) (hl:a.length≤2048) (h:Fit a b) (hs:vl (BZ a b)+2≤1073741824):af Tryz.prog 89 [cD a,cD b] [] (.cC [.frac (DY a b),.val (.int .i64 0)]) [] []:=by
 have k1:=Qf (·*·) 81 a b Ap hl (fun i hi=>afg _ _ (h i hi))
 have k2:=afh (BZ a b) (by simp;omega) hs
 refine cj [] Tryz.func89 ?_
 intro W0 w0 ρ0 hE
 conv=>whnf
 (repeat(first|(refine a8 (by assumption) ?_;conv=>whnf)));exact Q4
theorem wc:Tryz.prog.eqGuardType Tryz.prog.depth 52=false:=aF
theorem B0 (a b:Rat):xu Fy ef 10 52 (bR a) (bR b)=some (decide (a=b)):=by
 have e:xu Fy ef 10 52 (bR a) (bR b)=some (((((low a.num.natAbs==low b.num.natAbs)&&(((pX a.num.natAbs).toList==(pX b.num.natAbs).toList)&&true))&&true)&&((decide (a.num<0)==decide (b.num<0))&&true))&&
  (((low (a.den - 1)==low (b.den - 1))&&(((pX (a.den - 1)).toList==(pX (b.den - 1)).toList)&&true))&&true)):=rfl
 rw[e]
 simp only[Bool.and_true]
 rw[nu,nu]
 congr 1
 rw[Bool.eq_iff_iff]
 simp only[Bool.and_eq_true,decide_eq_true_eq,beq_iff_eq,decide_eq_decide]
 have h1:=a.den_pos
 have h2:=b.den_pos
 constructor
 ·rintro⟨⟨h3,h4⟩,h5⟩
  exact Rat.ext aa aa
 ·rintro rfl
  exact⟨⟨rfl,Iff.rfl⟩,rfl⟩
def cX (l:List Int):List Rat:=l.map fun(n:Int)=>((n:Int):Rat)
theorem pG {α β:Type} {f:α→β} {l:List α} {i:Nat} {d:α} {e:β} (h:i<l.length):(l.map f).getD i e=f (l.getD i d):=by
 simp[List.getD_eq_getElem?_getD,List.getElem?_eq_getElem h]
theorem abl (l:List Int) (hl:l.length<1099511627776) (h:∀i,i<l.length→ -9223372036854775808≤l.getD i 0∧l.getD i 0<9223372036854775808):af Tryz.prog 109 [mc .i64 l] [] (cD (cX l)) [] []:=by
 refine qU [] Tryz.func109 ?_
 intro w0 ρ0 hE
 conv=>whnf
 (repeat(first|(refine And.intro Q5 ?_;conv=>whnf)|(refine aC Q7 ?_;conv=>whnf)|(rw[Int.toNat_natCast];conv=>whnf)))
 have hz:(cX l).length=l.length:=by simp[cX]
 refine az hE (fun k=>k) [0,2,3,9,10] [7] (fun m fr hp=>∃i,m=l.length - i∧i≤l.length∧fr=[(0,mc .i64 l),(2,.val (.slice none 0 0)),(3,.aK 7 5 0 l.length),(9,.val (.int .i64 (l.length:Nat))),(10,.val (.int .i64 (i:Nat)))]∧
  hp=[(7,⟨52,true,.cd ((cX l).take i++List.replicate (l.length - i) 0)⟩)]) l.length ?_ ?_ ?_
 ·kernel_rfl
 ·exact⟨0,rfl,Nat.zero_le _,rfl,rfl⟩
 rintro m _ _ ⟨i,rfl,hi,rfl,rfl⟩
 conv=>whnf
 have hlen:=gW (d:=(0:Rat)) hi hz
 by_cases aI:i<l.length
 ·have t1:=jD aI
  have t2:=cp (i:=i) aa
  obtain⟨b1,b2⟩:=h i aI
  have k1:=eG (l.getD i 0) b1 b2
  rw[←pG (f:=fun(n:Int)=>((n:Int):Rat)) (e:=0) aI]at k1
  (repeat((first|refine ah rfl rfl ?_|refine And.intro Q5 ?_|refine a8 (by assumption) ?_|refine aC Q6 ?_|refine aC FA ?_|rw[t1]|rw[t2]|rw[Int.toNat_natCast]|rw[Nat.zero_add]);conv=>whnf))
  refine⟨l.length - (i+1),fun k=>k,[0,2,3,9,10],[7],aa,aF,i+1,rfl,aI,rfl, ?_⟩
  rw[←jo (e:=0) aI hz]
  rfl
 ·have t1:=jP aI
  have hI:i=l.length:=aa
  subst hI
  rw[kQ hz]
  (repeat(first|(refine ag rfl rfl ?_;conv=>whnf)|(rw[t1];conv=>whnf)));(first|exact aq.refl _|exact ov.nx (aq.refl _) rfl|(refine ov.one rfl rfl ?_;(repeat(first|(refine dM.cd rfl ?_;(first|rfl|omega|(simp<;>fail)|(simp<;>omega))))))|(refine ov.cC ?_;skip))
end Go.Proofs.YtfpagioknjjacaaGreatDoor
namespace Go.Proofs
open Go.Shelf
def Tryz.vm:Go.Shelf.Ren:=⟨fun|156=>220|165=>304|166=>305|169=>306|240=>344|241=>345|276=>363|277=>364|n=>n,fun|31=>262|9=>9|3=>3|4=>4|0=>0|20=>20|72=>342|76=>346|70=>340|37=>61|75=>345|127=>387|164=>400|5=>5|80=>348|n=>n,fun|n=>n⟩
theorem Tryz.HD:Go.Proofs.Lays.n156 Tryz.prog Tryz.vm:={
 mixed:=by kernel_rfl
 f156:=Tryz.func220.trans (congrArg some (by kernel_rfl))
 f165:=Tryz.func304.trans (congrArg some (by kernel_rfl))
 f166:=Tryz.func305.trans (congrArg some (by kernel_rfl))
 f169:=Tryz.func306.trans (congrArg some (by kernel_rfl))
 f240:=Tryz.func344.trans (congrArg some (by kernel_rfl))
 f241:=Tryz.func345.trans (congrArg some (by kernel_rfl))
 f276:=Tryz.func363.trans (congrArg some (by kernel_rfl))
 f277:=Tryz.func364.trans (congrArg some (by kernel_rfl))
 t0:=Tryz.underlying0
 a0:=Tryz.isAgg0
 z0:=Tryz.sizeOf0
 v0:=Tryz.zeroValue0
 t3:=Tryz.underlying3
 a3:=Tryz.isAgg3
 z3:=Tryz.sizeOf3
 v3:=Tryz.zeroValue3
 t4:=Tryz.underlying4
 a4:=Tryz.isAgg4
 z4:=Tryz.sizeOf4
 v4:=Tryz.zeroValue4
 t9:=Tryz.underlying9
 a9:=Tryz.isAgg9
 z9:=Tryz.sizeOf9
 v9:=Tryz.zeroValue9
 t20:=Tryz.underlying20
 a20:=Tryz.isAgg20
 z20:=Tryz.sizeOf20
 v20:=Tryz.zeroValue20
 t31:=Tryz.underlying262
 a31:=Tryz.isAgg262
 z31:=Tryz.sizeOf262
 v31:=Tryz.zeroValue262
 t37:=Tryz.underlying61
 a37:=Tryz.isAgg61
 z37:=Tryz.sizeOf61
 v37:=Tryz.zeroValue61
 t70:=Tryz.underlying340
 a70:=Tryz.isAgg340
 z70:=Tryz.sizeOf340
 v70:=Tryz.zeroValue340
 t72:=Tryz.underlying342
 a72:=Tryz.isAgg342
 z72:=Tryz.sizeOf342
 v72:=Tryz.zeroValue342
 t75:=Tryz.underlying345
 a75:=Tryz.isAgg345
 z75:=Tryz.sizeOf345
 v75:=Tryz.zeroValue345
 t76:=Tryz.underlying346
 a76:=Tryz.isAgg346
 z76:=Tryz.sizeOf346
 v76:=Tryz.zeroValue346
 t127:=Tryz.underlying387
 a127:=Tryz.isAgg387
 z127:=Tryz.sizeOf387
 v127:=Tryz.zeroValue387
 t164:=Tryz.underlying400
 a164:=Tryz.isAgg400
 z164:=Tryz.sizeOf400
 v164:=Tryz.zeroValue400}
theorem Tryz.l0:Builder.Extra Tryz.prog Tryz.vm:={
 sizeBuilder:=by kernel_rfl
 liesBuilder:=by kernel_rfl
 t5:=Tryz.underlying5
 a5:=Tryz.isAgg5
 z5:=Tryz.sizeOf5
 v5:=Tryz.zeroValue5
 infoByte:=by kernel_rfl
 cellsByte:=by kernel_rfl
 sizeByte:=by kernel_rfl
 neB5:=by decide}
open Go.RowKit in
theorem Tryz.strings_Join_none (a:Option Addr) (c:Nat) (sep:ByteArray) (w:World):
  Calls Tryz.prog 220 #[.slice a 0 c,.string sep] w fun e w'=>e= .returned (.string ⟨#[]⟩)∧w'=w:=Any.strings_Join_none Tryz.HD Tryz.l0 a c sep w
open Go.RowKit in
/-- strings.Join: "Join concatenates the elements of its first argument to create a single string. The separator string sep is placed between elements in the resulting string.": HOWEVER MANY ELEMENTS. Below the heap's end the world is as it was. (LAID: no walk: one application.) -/
theorem Tryz.strings_Join (bk o c:Nat) (xs:List ByteArray) (sep:ByteArray) (w:World) (gf:∀(j:Nat) x,xs[j]? =some x→w.cell? ⟨bk,o+j,none⟩=some (.string x)) (hbk:bk<w.heap.size) (hN:xs.length≤140737488355328) (hcap:xs.length≤c) (hlen:(Lib.join (xs.map (·.data.toList)) sep.data.toList).length≤140737488355328):
  Calls Tryz.prog 220 #[.slice (some ⟨bk,o,none⟩) xs.length c,.string sep] w fun e w'=>e= .returned (.string ⟨(Lib.join (xs.map (·.data.toList)) sep.data.toList).toArray⟩)∧Below w.heap.size w w':=Any.strings_Join Tryz.HD Tryz.l0 bk o c xs sep w gf hbk hN hcap hlen
def Tryz.DZ:Go.Shelf.Ren:=⟨fun|283=>365|n=>n,fun|3=>3|9=>9|4=>4|n=>n,fun|n=>n⟩
theorem Tryz.Qh:Go.Proofs.Lays.n283 Tryz.prog Tryz.DZ:={
 mixed:=by kernel_rfl
 f283:=Tryz.func365.trans (congrArg some (by kernel_rfl))
 t3:=Tryz.underlying3
 a3:=Tryz.isAgg3
 z3:=Tryz.sizeOf3
 v3:=Tryz.zeroValue3
 t4:=Tryz.underlying4
 a4:=Tryz.isAgg4
 z4:=Tryz.sizeOf4
 v4:=Tryz.zeroValue4
 t9:=Tryz.underlying9
 a9:=Tryz.isAgg9
 z9:=Tryz.sizeOf9
 v9:=Tryz.zeroValue9}
open Go.Lib in
/-- internal/strconv.small: "small returns the string for an i with 0 <= i < nSmalls.": i's decimal numeral. The world is as it was. (LAID: no walk: one application.) -/
theorem Tryz.internal_strconv_small (i:Nat) (h:i<100) (w:World):
  Calls Tryz.prog 365 #[.int .i64 i] w fun e w'=>e= .returned (.string ⟨(Lib.decDigits i).toArray⟩)∧w'=w:=Any.internal_strconv_small Tryz.Qh i h w
def Tryz.B1:Go.Shelf.Ren:=⟨fun|284=>366|129=>373|317=>372|318=>374|n=>n,fun|53=>44|3=>3|212=>411|0=>0|4=>4|46=>334|5=>5|9=>9|n=>n,fun|17=>2|n=>n⟩
theorem Tryz.L3:Go.Proofs.LaysM.n284 Tryz.prog Tryz.B1:={
 mixed:=by kernel_rfl
 f129:=Tryz.func373.trans (congrArg some (by kernel_rfl))
 f284:=Tryz.func366.trans (congrArg some (by kernel_rfl))
 f317:=Tryz.func372.trans (congrArg some (by kernel_rfl))
 f318:=Tryz.func374.trans (congrArg some (by kernel_rfl))
 t0:=Tryz.underlying0
 a0:=Tryz.isAgg0
 z0:=Tryz.sizeOf0
 v0:=Tryz.zeroValue0
 t3:=Tryz.underlying3
 a3:=Tryz.isAgg3
 z3:=Tryz.sizeOf3
 v3:=Tryz.zeroValue3
 t4:=Tryz.underlying4
 a4:=Tryz.isAgg4
 z4:=Tryz.sizeOf4
 v4:=Tryz.zeroValue4
 t5:=Tryz.underlying5
 a5:=Tryz.isAgg5
 z5:=Tryz.sizeOf5
 v5:=Tryz.zeroValue5
 t9:=Tryz.underlying9
 a9:=Tryz.isAgg9
 z9:=Tryz.sizeOf9
 v9:=Tryz.zeroValue9
 t46:=Tryz.underlying334
 a46:=Tryz.isAgg334
 z46:=Tryz.sizeOf334
 v46:=Tryz.zeroValue334
 t53:=Tryz.underlying44
 a53:=Tryz.isAgg44
 z53:=Tryz.sizeOf44
 v53:=Tryz.zeroValue44
 t212:=Tryz.underlying411
 a212:=Tryz.isAgg411
 z212:=Tryz.sizeOf411
 v212:=Tryz.zeroValue411
 g17:=by kernel_rfl
 i0:=by kernel_rfl
 i3:=by kernel_rfl
 i4:=by kernel_rfl
 i5:=by kernel_rfl
 i9:=by kernel_rfl
 i46:=by kernel_rfl
 i53:=by kernel_rfl
 i212:=by kernel_rfl
 m17:=by kernel_rfl}
open Go.Lib in
theorem Tryz.internal_strconv_numDigits (u:Nat) (h1:1≤u) (h2:u<18446744073709551616) (w:World) (htab:Lib.TabIs Tryz.prog w "internal/strconv.uint64pow10" .u64 Lib.pow10Tab):
  Calls Tryz.prog 366 #[.int .u64 u] w fun e w'=>e= .returned (.int .i64 (Lib.nDigits u))∧w'=w:=Any.internal_strconv_numDigits Tryz.L3 u h1 h2 w htab
def Tryz.D0:Go.Shelf.Ren:=⟨fun|285=>367|n=>n,fun|37=>61|53=>44|3=>3|4=>4|51=>23|9=>9|5=>5|0=>0|n=>n,fun|n=>n⟩
theorem Tryz.Qi:Go.Proofs.Lays.n285 Tryz.prog Tryz.D0:={
 mixed:=by kernel_rfl
 f285:=Tryz.func367.trans (congrArg some (by kernel_rfl))
 t0:=Tryz.underlying0
 a0:=Tryz.isAgg0
 z0:=Tryz.sizeOf0
 v0:=Tryz.zeroValue0
 t3:=Tryz.underlying3
 a3:=Tryz.isAgg3
 z3:=Tryz.sizeOf3
 v3:=Tryz.zeroValue3
 t4:=Tryz.underlying4
 a4:=Tryz.isAgg4
 z4:=Tryz.sizeOf4
 v4:=Tryz.zeroValue4
 t5:=Tryz.underlying5
 a5:=Tryz.isAgg5
 z5:=Tryz.sizeOf5
 v5:=Tryz.zeroValue5
 t9:=Tryz.underlying9
 a9:=Tryz.isAgg9
 z9:=Tryz.sizeOf9
 v9:=Tryz.zeroValue9
 t37:=Tryz.underlying61
 a37:=Tryz.isAgg61
 z37:=Tryz.sizeOf61
 v37:=Tryz.zeroValue61
 t51:=Tryz.underlying23
 a51:=Tryz.isAgg23
 z51:=Tryz.sizeOf23
 v51:=Tryz.zeroValue23
 t53:=Tryz.underlying44
 a53:=Tryz.isAgg44
 z53:=Tryz.sizeOf44
 v53:=Tryz.zeroValue44}
open Go.RowKit Go.Sort Go.Lib in
/-- internal/strconv.formatBase10: "formatBase10 formats the decimal representation of u into a. The caller is responsible for ensuring that a is big enough to hold u. If a is too big, leading zeros will be filled in as needed.": THE ROW HOLDS u's DIGITS ('FmtInv .. 0 ..': every place t holds 'dg u (len - 1 - t)'); all else is as it was but for the count of draws. (LAID: no walk: one application.) -/
theorem Tryz.internal_strconv_formatBase10 (blk off cap:Nat) (u:Nat) (d:Array UInt8) (w:World) (hH:Holds (fun(b:UInt8)=>Value.int .u8 (b.toNat:Int)) w blk off d) (hu:u<10^d.size) (hu64:u<18446744073709551616) (fG:d.size<4611686018427387904):
  Calls Tryz.prog 367 #[.slice (some ⟨blk,off,none⟩) d.size cap,.int .u64 u] w fun e w'=>
   e= .returned (.tuple #[])∧∃(n v':Nat) (dk:Array UInt8),w'=(putRow (fun(b:UInt8)=>Value.int .u8 (b.toNat:Int)) w blk off dk).drewN n∧FmtInv d.size u 0 v' dk:=Any.internal_strconv_formatBase10 Tryz.Qi blk off cap u d w hH hu hu64 fG
def Tryz.B2:Go.Shelf.Ren:=⟨fun|171=>316|243=>352|246=>369|283=>365|284=>366|285=>367|286=>368|129=>373|317=>372|318=>374|319=>375|320=>376|337=>377|338=>378|n=>n,fun|3=>3|9=>9|2=>2|4=>4|171=>403|0=>0|53=>44|37=>61|5=>5|173=>406|212=>411|51=>23|20=>20|213=>412|46=>334|232=>414|233=>415|n=>n,fun|17=>2|18=>3|19=>4|n=>n⟩
theorem Tryz.L4:Go.Proofs.LaysM.n171 Tryz.prog Tryz.B2:={
 mixed:=by kernel_rfl
 f129:=Tryz.func373.trans (congrArg some (by kernel_rfl))
 f171:=Tryz.func316.trans (congrArg some (by kernel_rfl))
 f243:=Tryz.func352.trans (congrArg some (by kernel_rfl))
 f246:=Tryz.func369.trans (congrArg some (by kernel_rfl))
 f283:=Tryz.func365.trans (congrArg some (by kernel_rfl))
 f284:=Tryz.func366.trans (congrArg some (by kernel_rfl))
 f285:=Tryz.func367.trans (congrArg some (by kernel_rfl))
 f286:=Tryz.func368.trans (congrArg some (by kernel_rfl))
 f317:=Tryz.func372.trans (congrArg some (by kernel_rfl))
 f318:=Tryz.func374.trans (congrArg some (by kernel_rfl))
 f319:=Tryz.func375.trans (congrArg some (by kernel_rfl))
 f320:=Tryz.func376.trans (congrArg some (by kernel_rfl))
 f337:=Tryz.func377.trans (congrArg some (by kernel_rfl))
 f338:=Tryz.func378.trans (congrArg some (by kernel_rfl))
 t0:=Tryz.underlying0
 a0:=Tryz.isAgg0
 z0:=Tryz.sizeOf0
 v0:=Tryz.zeroValue0
 t2:=Tryz.underlying2
 a2:=Tryz.isAgg2
 z2:=Tryz.sizeOf2
 v2:=Tryz.zeroValue2
 t3:=Tryz.underlying3
 a3:=Tryz.isAgg3
 z3:=Tryz.sizeOf3
 v3:=Tryz.zeroValue3
 t4:=Tryz.underlying4
 a4:=Tryz.isAgg4
 z4:=Tryz.sizeOf4
 v4:=Tryz.zeroValue4
 t5:=Tryz.underlying5
 a5:=Tryz.isAgg5
 z5:=Tryz.sizeOf5
 v5:=Tryz.zeroValue5
 t9:=Tryz.underlying9
 a9:=Tryz.isAgg9
 z9:=Tryz.sizeOf9
 v9:=Tryz.zeroValue9
 t20:=Tryz.underlying20
 a20:=Tryz.isAgg20
 z20:=Tryz.sizeOf20
 v20:=Tryz.zeroValue20
 t37:=Tryz.underlying61
 a37:=Tryz.isAgg61
 z37:=Tryz.sizeOf61
 v37:=Tryz.zeroValue61
 t46:=Tryz.underlying334
 a46:=Tryz.isAgg334
 z46:=Tryz.sizeOf334
 v46:=Tryz.zeroValue334
 t51:=Tryz.underlying23
 a51:=Tryz.isAgg23
 z51:=Tryz.sizeOf23
 v51:=Tryz.zeroValue23
 t53:=Tryz.underlying44
 a53:=Tryz.isAgg44
 z53:=Tryz.sizeOf44
 v53:=Tryz.zeroValue44
 t171:=Tryz.underlying403
 a171:=Tryz.isAgg403
 z171:=Tryz.sizeOf403
 v171:=Tryz.zeroValue403
 t173:=Tryz.underlying406
 a173:=Tryz.isAgg406
 z173:=Tryz.sizeOf406
 v173:=Tryz.zeroValue406
 t212:=Tryz.underlying411
 a212:=Tryz.isAgg411
 z212:=Tryz.sizeOf411
 v212:=Tryz.zeroValue411
 t213:=Tryz.underlying412
 a213:=Tryz.isAgg412
 z213:=Tryz.sizeOf412
 t232:=Tryz.underlying414
 a232:=Tryz.isAgg414
 z232:=Tryz.sizeOf414
 v232:=Tryz.zeroValue414
 t233:=Tryz.underlying415
 a233:=Tryz.isAgg415
 z233:=Tryz.sizeOf415
 v233:=Tryz.zeroValue415
 g17:=by kernel_rfl
 g18:=by kernel_rfl
 g19:=by kernel_rfl
 i0:=by kernel_rfl
 i2:=by kernel_rfl
 i3:=by kernel_rfl
 i4:=by kernel_rfl
 i5:=by kernel_rfl
 i9:=by kernel_rfl
 i20:=by kernel_rfl
 i37:=by kernel_rfl
 i46:=by kernel_rfl
 i51:=by kernel_rfl
 i53:=by kernel_rfl
 i171:=by kernel_rfl
 i173:=by kernel_rfl
 i212:=by kernel_rfl
 i232:=by kernel_rfl
 i233:=by kernel_rfl
 m17:=by kernel_rfl
 m18:=by kernel_rfl
 m19:=by kernel_rfl}
open Go.RowKit Go.Sort Go.Lib in
/-- strconv.Itoa: "Itoa is equivalent to FormatInt(int64(i), 10).": i's DECIMAL NUMERAL ('Lib.itoa': a '-' where i is negative, then the digits), FOR EVERY int. The world behind the call: the world before it, new blocks behind the heap (the library's 'var a [24]byte'), draws. (LAID: no walk: one application.) -/
theorem Tryz.strconv_Itoa (n:Int) (h0: -9223372036854775808≤n) (h1:n≤9223372036854775807) (w:World) (htab:Lib.TabIs Tryz.prog w "internal/strconv.uint64pow10" .u64 Lib.pow10Tab):
  Calls Tryz.prog 316 #[.int .i64 n] w fun e w'=>e= .returned (.string ⟨(Lib.itoa n).toArray⟩)∧∃k os,w'=grow (w.drewN k) os:=Any.strconv_Itoa Tryz.L4 n h0 h1 w htab
def Tryz.vn:Go.Shelf.Ren:=⟨fun|105=>317|212=>353|99=>354|165=>304|166=>305|170=>355|169=>306|263=>370|264=>298|206=>371|240=>344|241=>345|276=>363|277=>364|n=>n,fun|9=>9|3=>3|4=>4|20=>20|0=>0|46=>334|109=>391|5=>5|72=>342|76=>346|51=>23|146=>383|53=>44|148=>331|70=>340|37=>61|75=>345|127=>387|164=>400|80=>348|n=>n,fun|n=>n⟩
theorem Tryz.Qj:Go.Proofs.Lays.n105 Tryz.prog Tryz.vn:={
 mixed:=by kernel_rfl
 f99:=Tryz.func354.trans (congrArg some (by kernel_rfl))
 f105:=Tryz.func317.trans (congrArg some (by kernel_rfl))
 f165:=Tryz.func304.trans (congrArg some (by kernel_rfl))
 f166:=Tryz.func305.trans (congrArg some (by kernel_rfl))
 f169:=Tryz.func306.trans (congrArg some (by kernel_rfl))
 f170:=Tryz.func355.trans (congrArg some (by kernel_rfl))
 f206:=Tryz.func371.trans (congrArg some (by kernel_rfl))
 f212:=Tryz.func353.trans (congrArg some (by kernel_rfl))
 f240:=Tryz.func344.trans (congrArg some (by kernel_rfl))
 f241:=Tryz.func345.trans (congrArg some (by kernel_rfl))
 f263:=Tryz.func370.trans (congrArg some (by kernel_rfl))
 f264:=Tryz.func298.trans (congrArg some (by kernel_rfl))
 f276:=Tryz.func363.trans (congrArg some (by kernel_rfl))
 f277:=Tryz.func364.trans (congrArg some (by kernel_rfl))
 t0:=Tryz.underlying0
 a0:=Tryz.isAgg0
 z0:=Tryz.sizeOf0
 v0:=Tryz.zeroValue0
 t3:=Tryz.underlying3
 a3:=Tryz.isAgg3
 z3:=Tryz.sizeOf3
 v3:=Tryz.zeroValue3
 t4:=Tryz.underlying4
 a4:=Tryz.isAgg4
 z4:=Tryz.sizeOf4
 v4:=Tryz.zeroValue4
 t5:=Tryz.underlying5
 a5:=Tryz.isAgg5
 z5:=Tryz.sizeOf5
 v5:=Tryz.zeroValue5
 t9:=Tryz.underlying9
 a9:=Tryz.isAgg9
 z9:=Tryz.sizeOf9
 v9:=Tryz.zeroValue9
 t20:=Tryz.underlying20
 a20:=Tryz.isAgg20
 z20:=Tryz.sizeOf20
 v20:=Tryz.zeroValue20
 t37:=Tryz.underlying61
 a37:=Tryz.isAgg61
 z37:=Tryz.sizeOf61
 v37:=Tryz.zeroValue61
 t46:=Tryz.underlying334
 a46:=Tryz.isAgg334
 z46:=Tryz.sizeOf334
 v46:=Tryz.zeroValue334
 t51:=Tryz.underlying23
 a51:=Tryz.isAgg23
 z51:=Tryz.sizeOf23
 v51:=Tryz.zeroValue23
 t53:=Tryz.underlying44
 a53:=Tryz.isAgg44
 z53:=Tryz.sizeOf44
 v53:=Tryz.zeroValue44
 t70:=Tryz.underlying340
 a70:=Tryz.isAgg340
 z70:=Tryz.sizeOf340
 v70:=Tryz.zeroValue340
 t72:=Tryz.underlying342
 a72:=Tryz.isAgg342
 z72:=Tryz.sizeOf342
 v72:=Tryz.zeroValue342
 t75:=Tryz.underlying345
 a75:=Tryz.isAgg345
 z75:=Tryz.sizeOf345
 v75:=Tryz.zeroValue345
 t76:=Tryz.underlying346
 a76:=Tryz.isAgg346
 z76:=Tryz.sizeOf346
 v76:=Tryz.zeroValue346
 t109:=Tryz.underlying391
 a109:=Tryz.isAgg391
 z109:=Tryz.sizeOf391
 v109:=Tryz.zeroValue391
 t127:=Tryz.underlying387
 a127:=Tryz.isAgg387
 z127:=Tryz.sizeOf387
 v127:=Tryz.zeroValue387
 t146:=Tryz.underlying383
 a146:=Tryz.isAgg383
 z146:=Tryz.sizeOf383
 v146:=Tryz.zeroValue383
 t148:=Tryz.underlying331
 a148:=Tryz.isAgg331
 z148:=Tryz.sizeOf331
 v148:=Tryz.zeroValue331
 t164:=Tryz.underlying400
 a164:=Tryz.isAgg400
 z164:=Tryz.sizeOf400
 v164:=Tryz.zeroValue400}
theorem Tryz.rZ:Builder.Extra Tryz.prog Tryz.vn:={
 sizeBuilder:=by kernel_rfl
 liesBuilder:=by kernel_rfl
 t5:=Tryz.underlying5
 a5:=Tryz.isAgg5
 z5:=Tryz.sizeOf5
 v5:=Tryz.zeroValue5
 infoByte:=by kernel_rfl
 cellsByte:=by kernel_rfl
 sizeByte:=by kernel_rfl
 neB5:=by decide}
open Go.RowKit Go.Lib in
theorem Tryz.strings_Repeat (s:ByteArray) (c:Nat) (w:World) (hc:c≤9223372036854775807) (hlen:s.size*c≤140737488355328):
  Calls Tryz.prog 317 #[.string s,.int .i64 c] w fun e w'=>e= .returned (.string ⟨(Lib.repeatL s.data.toList c).toArray⟩)∧Below w.heap.size w w':=Any.strings_Repeat Tryz.Qj Tryz.rZ s c w hc hlen
end Go.Proofs
namespace Go.Proofs.YtfpagioknjjacaaGreatDoor
open Go.Sx
set_option linter.unusedSimpArgs false
set_option linter.unusedVariables false
set_option maxRecDepth 100000
set_option maxHeartbeats 4000000
def Qk:Nat→Nat→List UInt8
 |0,_=>[]
 |f+1,n=>if n<10 then[UInt8.ofNat (48+n)]else Qk f (n/10)++[UInt8.ofNat (48+n % 10)]
theorem HE:∀f n,n<f→Qk f n=Lib.decDigits n
 |0,n,h=>aa
 |f+1,n,h=>by
  rw[Qk,Lib.decDigits]
  by_cases h1:n<10
  ·rw[if_pos h1,dif_pos h1]
  ·rw[if_neg h1,dif_neg h1,HE f (n/10) aa]
def tN (n:Nat):ByteArray:=⟨(Qk (n+1) n).toArray⟩
theorem og (n:Nat):tN n=⟨(Lib.decDigits n).toArray⟩:=by rw[tN,HE _ _ (Nat.lt_succ_self n)]
def tZ (z:Int):ByteArray:=if z<0 then "-".toUTF8++tN z.natAbs else tN z.natAbs
def tQ (q:Rat):ByteArray:=if q.den=1 then tZ q.num else tZ q.num++ "/".toUTF8++tN q.den
theorem Ql (i:Nat) (h:i<100):af Tryz.prog 365 [.val (.int .i64 (i:Nat))] [] (.val (.string (tN i))) [] []:=
 FZ (vs:=[.int .i64 (i:Nat)]) ⟨Tryz.f365,Tryz.func365,rfl,aF⟩ rfl (fun w=>by rw[og];exact Tryz.internal_strconv_small i h w)
theorem Jv (n:Nat) (h:n<100):af Tryz.prog 350 [.val (.int .u64 (n:Nat)),.val (.int .i64 10)] [] (.val (.string (tN n))) [] []:=by
 have k1:=Ql n h
 have t1:decide ((n:Int)<100)=true:=decide_eq_true aa
 have t2:IntKind.i64.wrap (n:Int)=n:=wrap_i64 aa aa
 refine cj [] Tryz.func350 ?_
 intro W0 w0 ρ0 hE
 conv=>whnf
 (repeat((first|refine ah rfl rfl ?_|refine a8 (by assumption) ?_|rw[beq_self_eq_true]|rw[t1]|rw[t2]);conv=>whnf));exact Q4
theorem L5 (n:Nat) (h:n<100):af Tryz.prog 313 [.val (.int .u64 (n:Nat)),.val (.int .i64 10)] [] (.val (.string (tN n))) [] []:=by
 have k1:=Jv n h
 refine cj [] Tryz.func313 ?_
 intro W0 w0 ρ0 hE
 conv=>whnf
 (repeat(first|(refine a8 (by assumption) ?_;conv=>whnf)));exact Q4
def tV (a:List Rat):ByteArray:= "[".toUTF8++⟨(Lib.join ((a.map tQ).map (·.data.toList)) [32]).toArray⟩++ "]".toUTF8
theorem abm (ss:List ByteArray) (hN:ss.length≤1099511627776) (hlen:(Lib.join (ss.map (·.data.toList)) [32]).length≤140737488355328):
  af Tryz.prog 220 [bX 1 xG ss,.val (.string ⟨#[32]⟩)] [] (.val (.string ⟨(Lib.join (ss.map (·.data.toList)) [32]).toArray⟩)) [] []:=by
 refine Jk ⟨Tryz.f220,Tryz.func220,rfl,aF⟩ rfl ?_ ?_
 ·rintro rfl a w
  exact Tryz.strings_Join_none a 0 ⟨#[32]⟩ w
 ·intro bk o c w hc hb hcap
  exact Tryz.strings_Join bk o c ss ⟨#[32]⟩ w hc hb aa hcap hlen
abbrev qA:Int×Int→SV:=DJ (iF .i64) (iF .u32)
def qV (q:Int×Int):Rat:=(q.1:Rat)/((if q.2<1 then 1 else q.2:Int):Rat)
def Av (q:Int×Int):Prop:=(-9223372036854775808≤q.1∧q.1<9223372036854775808)∧(0≤q.2∧q.2<4294967296)
theorem D3 {q:Int×Int} (h:Av q):fs (qV q)≤130:=by
 have h1:=qz (q.1:Rat) ((if q.2<1 then 1 else q.2:Int):Rat)
 have h2:=nI h.1.1 h.1.2
 have h3:fs ((if q.2<1 then 1 else q.2:Int):Rat)≤65:=nI Kl Kl
 unfold qV
 omega
theorem L6 (q:Int×Int) (h:Av q):af Tryz.prog 39 [qA q] [] (.frac (qV q)) [] []:=by
 have hd:(if q.2<1 then 1 else q.2)≠0:=by have:=h.2;split<;>omega
 have e1:(if (1:Int)>q.2 then 1 else q.2)=(if q.2<1 then 1 else q.2):=rfl
 have e2:IntKind.i64.wrap (if (1:Int)>q.2 then 1 else q.2)=(if q.2<1 then 1 else q.2):=wrap_i64 Kl Kl
 have g2:=nI h.1.1 h.1.2
 have g3:fs ((if q.2<1 then 1 else q.2:Int):Rat)≤65:=nI Kl Kl
 have k1:=Uu oW q.1 (if q.2<1 then 1 else q.2) (by unfold fs at g2 g3;omega) h.1.1 h.1.2 Kl Kl hd
 refine cj [] Tryz.func39 ?_
 intro W0 w0 ρ0 hE
 conv=>whnf
 (repeat(first|(refine a8 (by assumption) ?_;conv=>whnf)|(rw[e2];conv=>whnf)));exact Q4
theorem L7 {α:Type} {l:List α} {i:Nat} {d:α} (h:i<l.length):(l.take i).take i++(([l.getD i d]:List α).drop 0).take 1=l.take (i+1):=by
 have e:l.take (i+1)=l.take i++[l.getD i d]:=by rw[List.take_add_one,List.getD_eq_getElem?_getD,List.getElem?_eq_getElem h];rfl
 rw[List.take_take,Nat.min_self,e];rfl
def ao:Nat→(Nat→Rat)→Rat
 |0,_=>0
 |n+1,f=>ao n f+f n
theorem Aw (l:List Rat):∀n,n≤l.length→(l.take n).foldl (·+·) 0=ao n (fun i=>l.getD i 0)
 |0,_=>rfl
 |n+1,h=>by rw[xV l n aa,Aw l n aa,ao]
theorem L8 {a b:List Rat} {n:Nat} (ha:a.length=n) (hb:b.length=n):DY a b=ao n (fun i=>a.getD i 0*b.getD i 0):=by
 have hz:(BZ a b).length=n:=rT ha hb
 have h1:=Aw (BZ a b) n aa
 rw[List.take_of_length_le aa]at h1
 rw[DY,h1]
 clear h1
 have key:∀m,m≤n→ao m (fun i=>(BZ a b).getD i 0)=ao m (fun i=>a.getD i 0*b.getD i 0):=by
  intro m
  induction m with
  |zero=>intro _;rfl
  |succ m ih=>intro h;rw[ao,ao,ih aa,BR (d1:=0) (d2:=0) aa aa]
 exact key n (Nat.le_refl _)
section
variable (x y:Nat→Rat)
end
theorem ai {f g:Nat→Rat}:∀n,(∀i,i<n→f i=g i)→ao n f=ao n g
 |0,_=>rfl
 |n+1,h=>by rw[ao,ao,ai n (fun i hi=>h i aa),h n aa]
theorem oY:∀n,ao n (fun _=>0)=0
 |0=>rfl
 |n+1=>by rw[ao,oY n];grind
def Sm (B:Nat) (l:List Rat):Prop:=∀i,i<l.length→fs (l.getD i 0)≤B
theorem Gm {op:Rat→Rat→Rat} {a b:List Rat} {A B:Nat} (hop:∀x y,fs (op x y)≤fs x+fs y) (ha:Sm A a) (hb:Sm B b) (Ap:a.length=b.length):Sm (A+B) (List.zipWith op a b):=by
 intro i hi
 rw[List.length_zipWith]at hi
 rw[BR (d1:=0) (d2:=0) aa aa]
 have h1:=hop (a.getD i 0) (b.getD i 0)
 have h2:=ha i aa
 have h3:=hb i aa
 omega
theorem B3:∀{l:List Rat} {B:Nat},Sm B l→vl l≤l.length*B
 |[],_,_=>by simp[vl]
 |q::l,B,h=>by
  have h1:=h 0 (by simp)
  have h2:=B3 (l:=l) (B:=B) (fun i hi=>h (i+1) (by simpa using hi))
  have e:vl (q::l)=fs q+vl l:=by simp[vl]
  rw[e,List.length_cons,Nat.succ_mul]
  have:fs q≤B:=h1
  omega
theorem L9 {a b:List Rat} {A B:Nat} (ha:Sm A a) (hb:Sm B b) (Ap:a.length=b.length) (h:A+B≤1073741824):Fit a b:=by
 intro i hi
 have h1:=ha i hi
 have h2:=hb i aa
 omega
theorem Qm {a b:List Rat} {A B n:Nat} (ha:Sm A a) (hb:Sm B b) (h1:a.length=n) (h2:b.length=n):fs (DY a b)≤2+n*(A+B):=by
 have h:=B3 (Gm cT ha hb (h1.trans h2.symm))
 rw[rT h1 h2]at h
 have h3:=L1 (BZ a b) 0
 rw[eh]at h3
 unfold DY
 exact Nat.le_trans h3 (Nat.add_le_add_left h 2)
abbrev QWf (l:List (Int×Int)):Prop:=l.length≤maxLen∧∀x∈l,((Lit.int .i64 x.1).wf=true)∧((Lit.int .u32 x.2).wf=true)
theorem Ma {l:List (Int×Int)} (w:l.length≤maxLen∧∀x∈l,((Lit.int .i64 x.1).wf=true)∧((Lit.int .u32 x.2).wf=true)):∀q∈l,Av q:=fun q hq=>⟨wf_i64 (w.2 q hq).1,wf_u32 (w.2 q hq).2⟩
theorem Qn {q:Int×Int} (w:((Lit.int .i64 q.1).wf=true)∧((Lit.int .u32 q.2).wf=true)):Av q:=⟨wf_i64 w.1,wf_u32 w.2⟩
theorem HF {A B:Nat} {l:List Rat} (h:A≤B) (ha:Sm A l):Sm B l:=fun i hi=>Nat.le_trans (ha i hi) h
theorem HG (n:Nat):Sm 2 (List.replicate n 0):=by
 intro i hi
 rw[List.length_replicate]at hi
 simp[List.getD_eq_getElem?_getD,hi,eh]
section
variable {a b z:List Rat} {n i:Nat} {c:Rat}
theorem B4 (ha:a.length=n) (hb:b.length=n) (h:∀i,i<n→a.getD i 0=b.getD i 0):a=b:=by
 refine List.ext_getElem (ha.trans hb.symm) fun i h1 h2=> ?_
 have:=h i aa
 rwa [List.getD_eq_getElem?_getD,List.getD_eq_getElem?_getD,List.getElem?_eq_getElem h1,List.getElem?_eq_getElem h2]at this
theorem D4 (hi:i<n):(List.replicate n (0:Rat)).getD i 0=0:=by simp[List.getD_eq_getElem?_getD,hi]
theorem sum_add (f g:Nat→Rat):∀n,ao n (fun i=>f i+g i)=ao n f+ao n g
 |0=>by simp only[ao];grind
 |n+1=>by simp only[ao];rw[sum_add f g n];grind
theorem sum_smul (c:Rat) (f:Nat→Rat):∀n,ao n (fun i=>c*f i)=c*ao n f
 |0=>by simp only[ao];grind
 |n+1=>by simp only[ao];rw[sum_smul c f n];grind
end
def mk (r c:Nat) (f:Nat→Nat→Rat):List Rat:=(List.range (r*c)).map fun p=>f (p/c) (p % c)
abbrev el (a:List Rat) (c i k:Nat):Rat:=a.getD (i*c+k) 0
theorem kU (r c:Nat) (f:Nat→Nat→Rat):(mk r c f).length=r*c:=by simp[mk]
theorem eH {r c i k:Nat} (hi:i<r) (hk:k<c):i*c+k<r*c:=by
 have:=Nat.mul_le_mul_right c (show i+1≤r from hi)
 rw[Nat.succ_mul]at this;omega
theorem we {c i k:Nat} (hk:k<c):(i*c+k)/c=i:=by
 rw[Nat.mul_comm,Nat.mul_add_div aa,Nat.div_eq_of_lt hk,Nat.add_zero]
theorem wg {c i k:Nat} (hk:k<c):(i*c+k) % c=k:=by
 rw[Nat.mul_comm,Nat.mul_add_mod,Nat.mod_eq_of_lt hk]
theorem UI {r c:Nat} {f:Nat→Nat→Rat} {p:Nat} (hp:p<r*c):(mk r c f).getD p 0=f (p/c) (p % c):=by
 simp[mk,List.getD_eq_getElem?_getD,hp]
theorem r8 {r c i k:Nat} {f:Nat→Nat→Rat} (hi:i<r) (hk:k<c):el (mk r c f) c i k=f i k:=by
 rw[el,UI (eH hi hk),we hk,wg hk]
theorem pH {r c p:Nat} (hp:p<r*c):p/c<r∧p % c<c∧p/c*c+p % c=p:=by
 have hc:0<c:=by rcases Nat.eq_zero_or_pos c with h|h
                 ·subst h;omega
                 ·exact h
 refine⟨(Nat.div_lt_iff_lt_mul hc).2 hp,Nat.mod_lt _ hc, ?_⟩
 rw[Nat.mul_comm];exact Nat.div_add_mod p c
theorem Qo {a b:List Rat} {r c:Nat} (ha:a.length=r*c) (hb:b.length=r*c) (h:∀i k,i<r→k<c→el a c i k=el b c i k):a=b:=by
 refine B4 ha hb fun p hp=> ?_
 obtain⟨h1,h2,h3⟩:=pH hp
 have:=h _ _ h1 h2
 rwa [el,el,h3]at this
theorem abn {a:List Rat} {r c:Nat} {f:Nat→Nat→Rat} (ha:a.length=r*c) (h:∀i k,i<r→k<c→f i k=el a c i k):mk r c f=a:=
 Qo (kU ..) ha fun i k hi hk=>by rw[r8 hi hk,h i k hi hk]
theorem Mb {r c B:Nat} {f:Nat→Nat→Rat} (h:∀i k,i<r→k<c→fs (f i k)≤B):Sm B (mk r c f):=by
 intro p hp
 rw[kU]at hp
 obtain⟨h1,h2,_⟩:=pH hp
 rw[UI hp];exact h _ _ h1 h2
theorem jE {a:List Rat} {r c B i k:Nat} (h:Sm B a) (ha:a.length=r*c) (hi:i<r) (hk:k<c):fs (el a c i k)≤B:=h _ (by rw[ha];exact eH hi hk)
theorem dX (f:Nat→Nat→Rat) (m:Nat):∀n,ao n (fun i=>ao m (f i))=ao m (fun k=>ao n (fun i=>f i k))
 |0=>by
  rw[ao]
  have:ao m (fun _=>(0:Rat))=0:=by induction m with
   |zero=>rfl
   |succ m ih=>rw[ao,ih];grind
  exact(show ao m (fun k=>ao 0 (fun i=>f i k))=0 from this).symm
 |n+1=>by rw[ao,dX f m n,←sum_add];exact ai m fun k _=>rfl
theorem Qp (c:Rat) (f:Nat→Rat) (n:Nat):ao n (fun i=>f i*c)=ao n f*c:=by
 rw[Rat.mul_comm,←sum_smul]
 exact ai n fun i _=>Rat.mul_comm _ _
theorem uw {f:Nat→Rat} {B:Nat}:∀n,(∀i,i<n→fs (f i)≤B)→fs (ao n f)≤2+n*B
 |0,_=>by rw[ao,eh];omega
 |n+1,h=>by
  have h1:=uw n (fun i hi=>h i aa)
  have h2:=h n aa
  have:=iH (ao n f) (f n)
  rw[ao,Nat.succ_mul];omega
def delta (i k:Nat):Rat:=if i=k then 1 else 0
theorem eZ {f:Nat→Rat} {i:Nat}:∀n,ao n (fun j=>delta i j*f j)=if i<n then f i else 0
 |0=>by simp[ao]
 |n+1=>by
  rw[ao,eZ n,delta]
  by_cases h:i=n
  ·subst h;simp;grind
  ·by_cases h2:i<n
   ·simp[h,h2,show i<n+1 by omega];grind
   ·simp[h,h2,show ¬i<n+1 by omega];grind
theorem xX (i k:Nat):delta i k=delta k i:=by unfold delta;by_cases h:i=k<;>simp[h,eq_comm]
theorem kV {f:Nat→Rat} {i n:Nat}:ao n (fun j=>f j*delta j i)=if i<n then f i else 0:=by
 rw[←eZ n];exact ai n fun j _=>by rw[xX,Rat.mul_comm]
abbrev vo (r c:Nat) (a:List Rat):List Rat:=mk c r fun i k=>el a c k i
abbrev afi (n:Nat):List Rat:=mk n n delta
abbrev gZ (r c:Nat) (a v:List Rat):List Rat:=(List.range r).map fun i=>ao c fun p=>el a c i p*v.getD p 0
theorem nK {r c:Nat} {a v:List Rat}:(gZ r c a v).length=r:=by simp
theorem qC {r c i:Nat} {a v:List Rat} (hi:i<r):(gZ r c a v).getD i 0=ao c fun p=>el a c i p*v.getD p 0:=by
 simp[List.getD_eq_getElem?_getD,hi]
theorem bO {f:Nat→Rat} (c:Rat) (n:Nat):c*ao n f=ao n fun i=>c*f i:=(sum_smul c f n).symm
theorem jr {f:Nat→Rat} (c:Rat) (n:Nat):ao n f*c=ao n fun i=>f i*c:=(Qp c f n).symm
theorem Ax (f:Nat→Rat):∀n,ao (n+1) f=f 0+ao n (fun i=>f (i+1))
 |0=>by simp only[ao];grind
 |n+1=>by rw[ao,Ax f n,ao];grind
theorem bl {f:Nat→Rat} {n:Nat} (h:∀i,i<n→f i=0):ao n f=0:=by
 rw[ai n h,oY]
theorem dA {f:Nat→Rat} {j:Nat}:∀n,j<n→(∀i,i<n→i≠j→f i=0)→ao n f=f j
 |0,h,_=>aa
 |n+1,hj,h=>by
  rw[ao]
  by_cases e:j=n
  ·subst e;rw[bl fun i hi=>h i aa aa];grind
  ·rw[dA n aa (fun i hi hn=>h i aa hn),h n aa (fun g=>e g.symm)];grind
theorem Qq {f:Nat→Rat} {j:Nat} {n:Nat} (hj:j+1<n) (h:∀i,i<n→i≠j→i≠j+1→f i=0) (h2:f j+f (j+1)=0):ao n f=0:=by
 have e:ao n f=ao n (fun i=>(if i=j then f j else 0)+(if i=j+1 then f (j+1)else 0)):=ai n fun i hi=>by
  by_cases h1:i=j
  ·subst h1;simp;grind
  ·by_cases h3:i=j+1
   ·subst h3;simp;grind
   ·rw[h i hi h1 h3,if_neg h1,if_neg h3];grind
 rw[e,sum_add,dA (f:=fun i=>if i=j then f j else 0) (j:=j) n aa (fun i _ hn=>if_neg hn),dA (f:=fun i=>if i=j+1 then f (j+1)else 0) (j:=j+1) n hj (fun i _ hn=>if_neg hn)]
 simp[h2]
abbrev Mx:=Nat→Nat→Rat
def sg:Nat→Rat
 |0=>1
 |n+1=> - sg n
theorem xY (m:Nat):∀n,sg (m+n)=sg m*sg n
 |0=>by rw[sg,Nat.add_zero];grind
 |n+1=>by rw[←Nat.add_assoc,sg,sg,xY m n];grind
theorem D5 (n:Nat):sg n*sg n=1:=by
 induction n with
 |zero=>rw[sg];grind
 |succ n ih=>rw[sg];grind
def sk (k j:Nat):Nat:=if j<k then j else j+1
theorem Mc (k j:Nat):sk k j≠k:=by unfold sk;split<;>omega
theorem Ay {n k j:Nat} (hj:j<n):sk k j<n+1:=by unfold sk;split<;>omega
theorem mK {k j:Nat} (h:j<k):sk k j=j:=if_pos h
theorem r9 {k j:Nat} (h:k≤j):sk k j=j+1:=if_neg aa
theorem afj {k l j:Nat} (h:l≤k):sk (k+1) (sk l j)=sk l (sk k j):=by
 unfold sk
 by_cases h1:j<l
 ·simp[h1,show j<k by omega,show j<k+1 by omega]
 ·by_cases h2:j<k
  ·simp[h1,h2]
  ·simp[h1,h2,show ¬j+1<l by omega]
def mn (A:Mx) (k:Nat):Mx:=fun i j=>A (i+1) (sk k j)
def bD:Nat→Mx→Rat
 |0,_=>1
 |n+1,A=>ao (n+1) fun k=>sg k*A 0 k*bD n (mn A k)
theorem bP (n:Nat) (A:Mx):bD (n+1) A=ao (n+1) fun k=>sg k*A 0 k*bD n (mn A k):=rfl
theorem bn:∀{n:Nat} {A B:Mx},(∀i k,i<n→k<n→A i k=B i k)→bD n A=bD n B
 |0,_,_,_=>rfl
 |n+1,A,B,h=>by
  rw[bP,bP]
  refine ai _ fun k hk=> ?_
  rw[h 0 k aa hk,bn (n:=n) (A:=mn A k) (B:=mn B k) (fun i j hi hj=>h _ _ aa (Ay hj))]
def setRow (A:Mx) (i:Nat) (x:Nat→Rat):Mx:=fun p q=>if p=i then x q else A p q
theorem aR (A:Mx) (i:Nat) (x:Nat→Rat):setRow A i x i=x:=by funext q;simp[setRow]
theorem aS (A:Mx) {i p:Nat} (x:Nat→Rat) (h:p≠i):setRow A i x p=A p:=by funext q;simp[setRow,h]
theorem setRow_self (A:Mx) (i:Nat):setRow A i (A i)=A:=by
 funext p q
 by_cases h:p=i
 ·subst h;rw[aR]
 ·rw[aS _ _ h]
theorem Gn (A:Mx) (i:Nat) (x y:Nat→Rat):setRow (setRow A i x) i y=setRow A i y:=by
 funext p q;unfold setRow;split<;>rfl
theorem gE (A:Mx) {i j:Nat} (x y:Nat→Rat) (h:i≠j):setRow (setRow A i x) j y=setRow (setRow A j y) i x:=by
 funext p q;unfold setRow
 by_cases h1:p=i
 ·subst h1;simp[h]
 ·simp[h1]
structure Alt (n:Nat) (F:Mx→Rat):Prop where
 congr:∀A B,(∀i k,i<n→k<n→A i k=B i k)→F A=F B
 uf:∀A i x c y,i<n→F (setRow A i fun k=>x k+c*y k)=F (setRow A i x)+c*F (setRow A i y)
 alt:∀A i,i+1<n→(∀k,k<n→A i k=A (i+1) k)→F A=0
theorem B5 (A:Mx) (x:Nat→Rat) (k:Nat):mn (setRow A 0 x) k=mn A k:=by
 funext i j;rw[mn,aS _ _ aa];rfl
theorem Gp (A:Mx) (x:Nat→Rat) (k i:Nat):mn (setRow A (i+1) x) k=setRow (mn A k) i fun j=>x (sk k j):=by
 funext p q
 by_cases h:p=i
 ·subst h;rw[aR,mn,aR]
 ·rw[aS _ _ h,mn,aS _ _ aa];rfl
theorem B6:∀(n:Nat) (A:Mx) (i:Nat) (x:Nat→Rat) (c:Rat) (y:Nat→Rat),i<n→bD n (setRow A i fun k=>x k+c*y k)=bD n (setRow A i x)+c*bD n (setRow A i y)
 |0,_,_,_,_,_,h=>aa
 |n+1,A,0,x,c,y,_=>by
  rw[bP,bP,bP,bO,←sum_add]
  refine ai _ fun k _=> ?_
  rw[aR,aR,aR,B5,B5,B5]
  grind
 |n+1,A,i+1,x,c,y,h=>by
  rw[bP,bP,bP,bO,←sum_add]
  refine ai _ fun k _=> ?_
  rw[aS _ _ aa,aS _ _ aa,aS _ _ aa,Gp,Gp,Gp,B6 n _ _ _ _ _ aa]
  grind
theorem Md (n:Nat) (T:Nat→Nat→Rat) (h:∀k l,l≤k→k<n→T (k+1) l= - T l k):ao (n+1) (fun k=>ao n (T k))=0:=by
 have e1:ao (n+1) (fun k=>ao n (T k))=ao (n+1) (fun k=>ao n fun l=>if l<k then T k l else 0)+ao (n+1) (fun k=>ao n fun l=>if l<k then 0 else T k l):=by
  rw[←sum_add]
  refine ai _ fun k _=> ?_
  rw[←sum_add]
  exact ai _ fun l _=>by split<;>grind
 have e2:ao (n+1) (fun k=>ao n fun l=>if l<k then T k l else 0)=ao n fun k=>ao n fun l=>if l<k+1 then T (k+1) l else 0:=by
  rw[Ax,bl fun l _=>if_neg aa];grind
 have e3:ao (n+1) (fun k=>ao n fun l=>if l<k then 0 else T k l)=ao n fun k=>ao n fun l=>if k<l then 0 else T l k:=by
  rw[ao,bl (f:=fun l=>if l<n then 0 else T n l) fun l hl=>if_pos hl,dX];grind
 rw[e1,e2,e3,←sum_add]
 refine bl fun k hk=> ?_
 rw[←sum_add]
 refine bl fun l hl=> ?_
 by_cases h1:l≤k
 ·rw[if_pos aa,if_neg aa,h k l h1 hk];grind
 ·rw[if_neg aa,if_pos aa];grind
theorem xZ:∀(n:Nat) (A:Mx) (i:Nat),i+1<n→(∀k,k<n→A i k=A (i+1) k)→bD n A=0
 |0,_,_,h,_=>aa
 |1,_,_,h,_=>aa
 |n+2,A,0,_,h=>by
  rw[bP]
  have e:∀k,k<n+2→sg k*A 0 k*bD (n+1) (mn A k)=ao (n+1) fun l=>sg k*A 0 k*(sg l*A 1 (sk k l)*bD n (mn (mn A k) l)):=fun k _=>by
   rw[bP,bO];rfl
  rw[ai _ e]
  refine Md (n+1) (fun k l=>sg k*A 0 k*(sg l*A 1 (sk k l)*bD n (mn (mn A k) l))) fun k l hl hk=> ?_
  have e1:mn (mn A (k+1)) l=mn (mn A l) k:=by
   funext i j
   rw[mn,mn,mn,mn,afj hl]
  show sg (k+1)*A 0 (k+1)*(sg l*A 1 (sk (k+1) l)*bD n (mn (mn A (k+1)) l))= - (sg l*A 0 l*(sg k*A 1 (sk l k)*bD n (mn (mn A l) k)))
  rw[e1,mK aa,r9 hl,h (k+1) aa,h l aa,sg]
  grind
 |n+2,A,i+1,hi,h=>by
  rw[bP]
  refine bl fun k _=> ?_
  rw[xZ (n+1) (mn A k) i aa (fun j hj=>h _ (Ay hj))];grind
theorem eK (n:Nat):Alt n (bD n):=⟨fun _ _=>bn,fun A i x c y=>B6 n A i x c y,fun A i=>xZ n A i⟩
section
variable {n:Nat} {F:Mx→Rat} (hF:Alt n F)
include hF
theorem Alt.add (A:Mx) {i:Nat} (x y:Nat→Rat) (hi:i<n):F (setRow A i fun k=>x k+y k)=F (setRow A i x)+F (setRow A i y):=by
 have:=hF.uf A i x 1 y hi
 rw[show(fun k=>x k+1*y k)=fun k=>x k+y k from by funext k;grind]at this
 rw[this];grind
theorem Alt.zero (A:Mx) {i:Nat} (hi:i<n):F (setRow A i fun _=>0)=0:=by
 have:=hF.add A (fun _=>0) (fun _=>0) hi
 rw[show(fun _:Nat=>(0:Rat)+0)=fun _=>0 from by funext k;grind]at this
 grind
theorem Alt.smul (A:Mx) {i:Nat} (c:Rat) (x:Nat→Rat) (hi:i<n):F (setRow A i fun k=>c*x k)=c*F (setRow A i x):=by
 have:=hF.uf A i (fun _=>0) c x hi
 rw[hF.zero A hi,show(fun k=>(0:Rat)+c*x k)=fun k=>c*x k from by funext k;grind]at this
 rw[this];grind
theorem Alt.sum (A:Mx) {i:Nat} (hi:i<n) (a:Nat→Rat) (e:Nat→Nat→Rat):∀m,F (setRow A i fun k=>ao m fun p=>a p*e p k)=ao m fun p=>a p*F (setRow A i (e p))
 |0=>by simp only[ao];exact hF.zero A hi
 |m+1=>by
  simp only[ao]
  rw[hF.uf A i (fun k=>ao m fun p=>a p*e p k) (a m) (e m) hi,Alt.sum A hi a e m]
def aO (A:Mx) (i j:Nat):Mx:=fun p=>if p=i then A j else if p=j then A i else A p
omit hF in
theorem Me (A:Mx) {i j:Nat} (h:i≠j):aO A i j=setRow (setRow A i (A j)) j (A i):=by
 funext p q
 unfold aO
 by_cases h1:p=i
 ·subst h1;rw[if_pos rfl,aS _ _ h,aR]
 ·by_cases h2:p=j
  ·subst h2;rw[if_neg h1,if_pos rfl,aR]
  ·rw[if_neg h1,if_neg h2,aS _ _ h2,aS _ _ h1]
theorem Alt.HI (A:Mx) {i j:Nat} (hi:i<n) (hj:j<n) (a7:i≠j) (h0:∀x,F (setRow (setRow A i x) j x)=0):F (aO A i j)= - F A:=by
 have h1:=h0 (fun k=>A i k+A j k)
 rw[hF.add _ _ _ hj,gE _ _ _ a7,hF.add _ _ _ hi,gE _ _ _ a7,hF.add _ _ _ hi,
  gE _ _ _ a7.symm,h0,gE _ _ _ a7.symm,gE _ _ _ a7.symm,gE _ _ _ a7.symm,h0]at h1
 have e1:setRow (setRow A i (A i)) j (A j)=A:=by rw[setRow_self,setRow_self]
 rw[←Me A a7]at h1
 rw[e1]at h1
 grind
theorem Alt.UJ (A:Mx) {i:Nat} (hi:i+1<n):F (aO A i (i+1))= - F A:=
 hF.HI A aa hi aa fun x=>hF.alt _ i hi fun k _=>by rw[aS _ _ aa,aR,aR]
theorem Alt.same (d:Nat):∀(A:Mx) (i:Nat),i+d+1<n→(∀k,k<n→A i k=A (i+d+1) k)→F A=0:=by
 induction d with
 |zero=>exact fun A i hi h=>hF.alt A i hi h
 |succ d ih=>
  intro A i hi h
  have h1:=ih (aO A (i+d+1) (i+d+1+1)) i aa fun k hk=>by
   unfold aO
   rw[if_neg aa,if_neg aa,if_pos rfl];exact h k hk
  rw[hF.UJ A aa]at h1
  grind
theorem Alt.eq (A:Mx) {i j:Nat} (hi:i<n) (hj:j<n) (a7:i≠j) (h:∀k,k<n→A i k=A j k):F A=0:=by
 rcases Nat.lt_or_gt_of_ne a7 with g|g
 ·exact hF.same (j - i - 1) A i aa fun k hk=>by rw[show i+(j - i - 1)+1=j by omega];exact h k hk
 ·exact hF.same (i - j - 1) A j aa fun k hk=>by rw[show j+(i - j - 1)+1=i by omega];exact(h k hk).symm
theorem Alt.swap (A:Mx) {i j:Nat} (hi:i<n) (hj:j<n) (a7:i≠j):F (aO A i j)= - F A:=
 hF.HI A hi hj a7 fun x=>hF.eq _ hi hj a7 fun k _=>by rw[aS _ _ a7,aR,aR]
theorem Alt.Gq (A:Mx) {i j:Nat} (c:Rat) (hi:i<n) (hj:j<n) (a7:i≠j):F (setRow A i fun k=>A i k+c*A j k)=F A:=by
 rw[hF.uf A i (A i) c (A j) hi,setRow_self,hF.eq (setRow A i (A j)) hi hj a7 fun k _=>by rw[aR,aS _ _ (fun h=>a7 h.symm)]]
 grind
def kW (k:Nat) (A:Mx):Mx:=fun i=>if i=0 then A k else if i≤k then A (i - 1)else A i
theorem Alt.top:∀(k:Nat) (A:Mx),k<n→F (kW k A)=sg k*F A
 |0,A,_=>by
  rw[show kW 0 A=A from by
   funext i;unfold kW
   by_cases h:i=0
   ·rw[if_pos h,h]
   ·rw[if_neg h,if_neg aa],sg]
  grind
 |k+1,A,h=>by
  have e:kW (k+1) A=kW k (aO A k (k+1)):=by
   funext i;unfold kW aO
   by_cases h1:i=0
   ·rw[if_pos h1,if_pos h1,if_pos rfl]
   ·rw[if_neg h1,if_neg h1]
    by_cases h2:i≤k
    ·rw[if_pos aa,if_pos h2,if_neg aa,if_neg aa]
    ·rw[if_neg h2]
     by_cases h3:i=k+1
     ·subst h3;rw[if_pos aa,if_neg aa,if_pos rfl];rfl
     ·rw[if_neg aa,if_neg aa,if_neg h3]
  rw[e,Alt.top k _ aa,hF.UJ A h,sg]
  grind
end
def un (k q:Nat):Nat:=if q<k then q else q - 1
theorem Mf (k j:Nat):un k (sk k j)=j:=by
 unfold un sk
 by_cases h:j<k
 ·rw[if_pos h,if_pos h]
 ·rw[if_neg h,if_neg aa];rfl
theorem UK {k q:Nat} (h:q≠k):sk k (un k q)=q:=by
 unfold un sk
 by_cases h1:q<k
 ·rw[if_pos h1,if_pos h1]
 ·rw[if_neg h1,if_neg aa];omega
theorem Mg {n k q:Nat} (hq:q<n+1) (hk:k<n+1) (h:q≠k):un k q<n:=by unfold un;split<;>omega
def se (k:Nat) (B:Mx):Mx:=fun i q=>if i=0 then delta k q else if q=k then 0 else B (i - 1) (un k q)
theorem x0 (k:Nat) (B:Mx) (i:Nat) (x:Nat→Rat):se k (setRow B i x)=setRow (se k B) (i+1) fun q=>if q=k then 0 else x (un k q):=by
 funext p q
 by_cases h:p=i+1
 ·subst h
  rw[aR,se,if_neg aa,show i+1 - 1=i by omega,aR]
 ·rw[aS _ _ h,se,se]
  by_cases h0:p=0
  ·rw[if_pos h0,if_pos h0]
  ·rw[if_neg h0,if_neg h0,aS _ _ aa]
theorem Alt.se {n:Nat} {F:Mx→Rat} (hF:Alt (n+1) F) {k:Nat} (hk:k<n+1):Alt n fun B=>F (se k B) where
 congr:=fun A B h=>hF.congr _ _ fun i q hi hq=>by
  unfold Go.Proofs.YtfpagioknjjacaaGreatDoor.se
  by_cases h0:i=0
  ·rw[if_pos h0,if_pos h0]
  ·rw[if_neg h0,if_neg h0]
   by_cases h1:q=k
   ·rw[if_pos h1,if_pos h1]
   ·rw[if_neg h1,if_neg h1];exact h _ _ aa (Mg hq hk h1)
 uf:=fun A i x c y hi=>by
  show F _=F _+c*F _
  rw[x0,x0,x0,←hF.uf _ _ _ _ _ aa]
  congr 2
  funext q
  by_cases h:q=k
  ·rw[if_pos h,if_pos h,if_pos h];grind
  ·rw[if_neg h,if_neg h,if_neg h]
 alt:=fun A i hi h=>hF.alt _ (i+1) aa fun q hq=>by
  unfold Go.Proofs.YtfpagioknjjacaaGreatDoor.se
  rw[if_neg (show ¬i+1=0 by omega),if_neg (show ¬i+1+1=0 by omega)]
  by_cases h1:q=k
  ·rw[if_pos h1,if_pos h1]
  ·rw[if_neg h1,if_neg h1];exact h _ (Mg hq hk h1)
theorem nL:∀(n:Nat) (F:Mx→Rat),Alt n F→∀A,F A=F delta*bD n A
 |0,F,hF,A=>by rw[hF.congr A delta fun i k hi=>aa,bD];grind
 |n+1,F,hF,A=>by
  have e0:F A=ao (n+1) fun k=>A 0 k*F (setRow A 0 (delta k)):=by
   rw[←hF.sum A aa (A 0) delta (n+1)]
   refine hF.congr _ _ fun i q hi hq=> ?_
   by_cases h:i=0
   ·subst h;rw[aR,kV,if_pos hq]
   ·rw[aS _ _ h]
  rw[e0,bP,bO]
  refine ai _ fun k hk=> ?_
  have e1:∀m,m≤n→F (setRow A 0 (delta k))=F (fun i q=>if i=0 then delta k q else if i≤m∧q=k then 0 else A i q):=by
   intro m
   induction m with
   |zero=>
    intro _
    refine hF.congr _ _ fun i q _ _=> ?_
    by_cases h:i=0
    ·subst h;rw[aR,if_pos rfl]
    ·rw[aS _ _ h,if_neg h,if_neg aa]
   |succ m ih=>
    intro hm
    rw[ih aa,←hF.Gq (i:=m+1) (j:=0) (fun i q=>if i=0 then delta k q else if i≤m∧q=k then 0 else A i q) (- A (m+1) k) aa aa aa]
    refine hF.congr _ _ fun i q _ _=> ?_
    by_cases h:i=m+1
    ·subst h
     rw[aR,if_neg aa,if_neg aa,if_pos rfl,if_neg aa]
     by_cases hq:q=k
     ·subst hq;rw[if_pos ⟨Nat.le_refl _,rfl⟩];simp[delta];grind
     ·rw[if_neg (fun g=>hq g.2),delta,if_neg (fun g=>hq g.symm)];grind
    ·rw[aS _ _ h]
     by_cases h0:i=0
     ·rw[if_pos h0,if_pos h0]
     ·rw[if_neg h0,if_neg h0]
      by_cases g:i≤m∧q=k
      ·rw[if_pos g,if_pos ⟨aa,g.2⟩]
      ·rw[if_neg g,if_neg (fun g2=>g ⟨aa,g2.2⟩)]
  have e2:F (setRow A 0 (delta k))=F (se k (mn A k)):=by
   rw[e1 n (Nat.le_refl _)]
   refine hF.congr _ _ fun i q hi _=> ?_
   unfold se
   by_cases h0:i=0
   ·rw[if_pos h0,if_pos h0]
   ·rw[if_neg h0,if_neg h0]
    by_cases hq:q=k
    ·rw[if_pos ⟨aa,hq⟩,if_pos hq]
    ·rw[if_neg (fun g=>hq g.2),if_neg hq,mn,UK hq,show i - 1+1=i by omega]
  have e3:F (se k delta)=sg k*F delta:=by
   rw[←hF.top k delta hk]
   refine hF.congr _ _ fun i q hi _=> ?_
   unfold se kW
   by_cases h0:i=0
   ·rw[if_pos h0,if_pos h0]
   ·rw[if_neg h0,if_neg h0]
    by_cases hq:q=k
    ·rw[if_pos hq,hq]
     by_cases h1:i≤k
     ·rw[if_pos h1,delta,if_neg aa]
     ·rw[if_neg h1,delta,if_neg aa]
    ·rw[if_neg hq]
     unfold un delta
     by_cases h1:i≤k
     ·rw[if_pos h1]
      by_cases h2:q<k
      ·rw[if_pos h2]
      ·rw[if_neg h2,if_neg aa,if_neg aa]
     ·rw[if_neg h1]
      by_cases h2:q<k
      ·rw[if_pos h2,if_neg aa,if_neg aa]
      ·rw[if_neg h2]
       by_cases h3:i=q
       ·rw[if_pos aa,if_pos h3]
       ·rw[if_neg aa,if_neg h3]
  rw[e2,nL n _ (hF.se hk) (mn A k),e3]
  grind
theorem sf:∀n,bD n delta=1
 |0=>rfl
 |n+1=>by
  rw[bP,dA (j:=0) (n+1) aa fun i _ hi=>by rw[delta,if_neg fun h=>hi h.symm];grind]
  rw[sg,bn (A:=mn delta 0) (B:=delta) fun i k _ _=>by
   show delta (i+1) (sk 0 k)=_
   rw[r9 aa];unfold delta
   by_cases h:i=k
   ·rw[if_pos aa,if_pos h]
   ·rw[if_neg aa,if_neg h],sf n]
  simp[delta]
def pr (n:Nat) (A B:Mx):Mx:=fun i k=>ao n fun p=>A i p*B p k
theorem wh (n:Nat) (A B:Mx):bD n (pr n A B)=bD n A*bD n B:=by
 have h:Alt n fun A=>bD n (pr n A B):={
  congr:=fun A A' h=>bn fun i k hi hk=>ai n fun p hp=>by rw[h i p hi hp]
  uf:=fun A i x c y hi=>by
   have e:∀z,pr n (setRow A i z) B=setRow (pr n A B) i fun k=>ao n fun p=>z p*B p k:=fun z=>by
    funext p q
    by_cases h:p=i
    ·subst h;rw[aR,pr];simp only[aR]
    ·rw[aS _ _ h];unfold pr;simp only[aS _ _ h]
   show bD n _=bD n _+c*bD n _
   rw[e,e,e,←B6 n _ _ _ _ _ hi]
   congr 2
   funext k
   rw[bO,←sum_add]
   exact ai n fun p _=>by grind
  alt:=fun A i hi h=>xZ n _ i hi fun k _=>ai n fun p hp=>by rw[h p hp]}
 rw[nL n _ h A]
 show bD n (pr n delta B)*bD n A=_
 rw[bn (A:=pr n delta B) (B:=B) fun i k hi _=>by rw[pr,eZ,if_pos hi]]
 grind
def mg (A:Mx) (j:Nat) (x:Nat→Rat):Mx:=fun p q=>if q=j then x p else A p q
theorem nM (A:Mx) (x:Nat→Rat) (k:Nat):mn (mg A k x) k=mn A k:=by
 funext i j;rw[mn,mg,if_neg (Mc _ _)];rfl
theorem ux (A:Mx) (x:Nat→Rat) {j k:Nat} (h:j≠k):mn (mg A j x) k=mg (mn A k) (un k j) fun p=>x (p+1):=by
 funext p q
 unfold mn mg
 by_cases e:sk k q=j
 ·rw[if_pos e,if_pos (by rw[←e,Mf])]
 ·rw[if_neg e,if_neg fun g=>e (by rw[g,UK h])]
theorem x7:∀(n:Nat) (A:Mx) (j:Nat) (x:Nat→Rat) (c:Rat) (y:Nat→Rat),j<n→bD n (mg A j fun k=>x k+c*y k)=bD n (mg A j x)+c*bD n (mg A j y)
 |0,_,_,_,_,_,h=>aa
 |n+1,A,j,x,c,y,hj=>by
  rw[bP,bP,bP,bO,←sum_add]
  refine ai _ fun k hk=> ?_
  by_cases h:j=k
  ·subst h
   rw[nM,nM,nM]
   simp only[mg,if_true]
   grind
  ·rw[ux _ _ h,ux _ _ h,ux _ _ h,x7 n _ _ _ _ _ (Mg hj hk h)]
   simp only[mg,if_neg fun g=>h (Eq.symm g)]
   grind
theorem qD:∀(n:Nat) (A:Mx) (j:Nat),j+1<n→(∀i,i<n→A i j=A i (j+1))→bD n A=0
 |0,_,_,h,_=>aa
 |n+1,A,j,hj,h=>by
  rw[bP]
  refine Qq hj (fun k hk h1 h2=> ?_) ?_
  ·have:bD n (mn A k)=0:=by
    rcases Nat.lt_or_gt_of_ne h1 with g|g
    ·refine qD n _ (j - 1) aa fun i hi=> ?_
     show A (i+1) (sk k (j - 1))=A (i+1) (sk k (j - 1+1))
     rw[r9 aa,r9 aa,show j - 1+1=j by omega]
     exact h _ aa
    ·refine qD n _ j aa fun i hi=> ?_
     show A (i+1) (sk k j)=A (i+1) (sk k (j+1))
     rw[mK aa,mK aa]
     exact h _ aa
   rw[this];grind
  ·have:bD n (mn A j)=bD n (mn A (j+1)):=bn fun i q hi _=>by
    unfold mn
    by_cases e:q=j
    ·subst e;rw[r9 (Nat.le_refl _),mK (Nat.lt_succ_self _)];exact(h _ aa).symm
    ·by_cases g:q<j
     ·rw[mK g,mK aa]
     ·rw[r9 aa,r9 aa]
   rw[this,h 0 aa,sg];grind
def tr (A:Mx):Mx:=fun i k=>A k i
theorem mL (n:Nat) (A:Mx):bD n (tr A)=bD n A:=by
 have h:Alt n fun A=>bD n (tr A):={
  congr:=fun A A' h=>bn fun i k hi hk=>h k i hk hi
  uf:=fun A i x c y hi=>x7 n (tr A) i x c y hi
  alt:=fun A i hi h=>qD n (tr A) i hi h}
 rw[nL n _ h A]
 show bD n (tr delta)*bD n A=_
 rw[bn (A:=tr delta) (B:=delta) fun i k _ _=>xX k i,sf];grind
def FB (A:Mx) (r k:Nat):Mx:=fun i j=>A (sk r i) (sk k j)
theorem B7 (n:Nat) (A:Mx) {r:Nat} (hr:r<n+1):bD (n+1) A=ao (n+1) fun k=>sg (r+k)*A r k*bD n (FB A r k):=by
 have h:=(eK (n+1)).top r A hr
 have h2:bD (n+1) A=sg r*bD (n+1) (kW r A):=by rw[h,←Rat.mul_assoc,D5];grind
 rw[h2,bP,bO]
 refine ai _ fun k _=> ?_
 have e:mn (kW r A) k=FB A r k:=by
  funext i j
  unfold mn FB kW
  rw[if_neg aa]
  by_cases g:i<r
  ·rw[if_pos aa,mK g];rfl
  ·rw[if_neg aa,r9 (k:=r) aa]
 rw[e,xY,show kW r A 0=A r from rfl];grind
theorem abo (A:Mx) (r k:Nat):FB (tr A) r k=tr (FB A k r):=rfl
def C7 (n:Nat) (A:Mx):Mx:=fun i k=>sg (i+k)*bD (n - 1) (FB A k i)
theorem abp (n:Nat) (A:Mx) (i k:Nat):C7 n (tr A) i k=C7 n A k i:=by
 rw[C7,C7,abo,mL,Nat.add_comm]
theorem Qr (A:Mx) (r k:Nat) (x:Nat→Rat):FB (setRow A r x) r k=FB A r k:=by
 funext i j;rw[FB,aS _ _ (Mc _ _)];rfl
theorem Qs {n:Nat} (A:Mx) {i k:Nat} (hi:i<n) (hk:k<n):pr n A (C7 n A) i k=if i=k then bD n A else 0:=by
 obtain⟨m,rfl⟩:∃m,n=m+1:=⟨n - 1,aa⟩
 have h:pr (m+1) A (C7 (m+1) A) i k=bD (m+1) (setRow A k (A i)):=by
  rw[B7 m _ hk]
  refine ai _ fun p _=> ?_
  rw[Qr,aR,C7,Nat.add_comm k p,show m+1 - 1=m from rfl];grind
 rw[h]
 by_cases e:i=k
 ·subst e;rw[setRow_self,if_pos rfl]
 ·rw[if_neg e,(eK (m+1)).eq _ hi hk e fun q _=>by rw[aS _ _ e,aR]]
theorem HJ {n:Nat} (A:Mx) {i k:Nat} (hi:i<n) (hk:k<n):pr n (C7 n A) A i k=if i=k then bD n A else 0:=by
 have h:=Qs (tr A) hk hi
 rw[mL]at h
 have e:pr n (C7 n A) A i k=pr n (tr A) (C7 n (tr A)) k i:=ai _ fun p _=>by rw[abp,Rat.mul_comm];rfl
 rw[e,h]
 by_cases g:i=k
 ·rw[if_pos g,if_pos g.symm]
 ·rw[if_neg g,if_neg (fun h=>g h.symm)]
def cm:List Rat→Rat→Rat
 |[],_=>0
 |a::l,t=>a+t*cm l t
def iI (f:Rat→Rat):Prop:=∃l,∀t,f t=cm l t
theorem iI.const (c:Rat):iI fun _=>c:=⟨[c],fun t=>by simp only[cm];grind⟩
theorem iI.id:iI fun t=>t:=⟨[0,1],fun t=>by simp only[cm];grind⟩
def lE:List Rat→List Rat→List Rat
 |[],l=>l
 |l,[]=>l
 |a::l,b::m=>(a+b)::lE l m
theorem mM:∀(l m:List Rat) (t:Rat),cm (lE l m) t=cm l t+cm m t
 |[],m,t=>by rw[lE,cm];grind
 |a::l,[],t=>by rw[lE];simp only[cm];grind;simp
 |a::l,b::m,t=>by rw[lE];simp only[cm];rw[mM l m t];grind
theorem sh:∀(l m:List Rat) (d:Nat),l.length≤d→m.length≤d→(lE l m).length≤d
 |[],m,d,_,h=>by rw[lE];exact h
 |a::l,[],d,h,_=>by rw[lE];exact h;simp
 |a::l,b::m,0,h,_=>by simp at h
 |a::l,b::m,d+1,h1,h2=>by rw[lE,List.length_cons];have:=sh l m d (by simpa using h1) (by simpa using h2);omega
theorem jQ (c:Rat):∀(l:List Rat) (t:Rat),cm (l.map (c*·)) t=c*cm l t
 |[],t=>by simp only[List.map_nil,cm];grind
 |a::l,t=>by simp only[List.map_cons,cm];rw[jQ c l t];grind
theorem iI.add {f g:Rat→Rat} (hf:iI f) (hg:iI g):iI fun t=>f t+g t:=by
 obtain⟨l,hl⟩:=hf;obtain⟨m,hm⟩:=hg
 exact⟨lE l m,fun t=>by show f t+g t=_;rw[mM,hl,hm]⟩
theorem iI.smul {f:Rat→Rat} (c:Rat) (hf:iI f):iI fun t=>c*f t:=by
 obtain⟨l,hl⟩:=hf
 exact⟨l.map (c*·),fun t=>by show c*f t=_;rw[jQ,hl]⟩
theorem iI.x {f:Rat→Rat} (hf:iI f):iI fun t=>t*f t:=by
 obtain⟨l,hl⟩:=hf
 exact⟨0::l,fun t=>by show t*f t=_;rw[cm,hl];grind⟩
theorem iI.mul {f g:Rat→Rat} (hf:iI f) (hg:iI g):iI fun t=>f t*g t:=by
 obtain⟨l,hl⟩:=hf
 have:∀l:List Rat,iI fun t=>cm l t*g t:=by
  intro l
  induction l with
  |nil=>exact⟨[],fun t=>by simp only[cm];grind⟩
  |cons a l ih=>
   obtain⟨m,hm⟩:=(hg.smul a).add ih.x
   exact⟨m,fun t=>by rw[←hm t];simp only[cm];grind⟩
 obtain⟨m,hm⟩:=this l
 exact⟨m,fun t=>by show f t*g t=_;rw[hl];exact hm t⟩
theorem iI.sub {f g:Rat→Rat} (hf:iI f) (hg:iI g):iI fun t=>f t - g t:=by
 obtain⟨m,hm⟩:=hf.add (hg.smul (-1))
 exact⟨m,fun t=>by rw[←hm t];grind⟩
theorem iI.sum {f:Nat→Rat→Rat}:∀n,(∀i,i<n→iI (f i))→iI fun t=>ao n fun i=>f i t
 |0,_=>⟨[],fun t=>by simp only[ao,cm]⟩
 |n+1,h=>(iI.sum n fun i hi=>h i aa).add (h n aa)
theorem iI.bD {A:Rat→Mx}:∀n,(∀i k,iI fun t=>A t i k)→iI fun t=>bD n (A t)
 |0,_=>iI.const 1
 |n+1,h=>iI.sum (n+1) fun k _=>((h 0 k).smul (sg k)).mul (iI.bD (A:=fun t=>mn (A t) k) n fun _ _=>h _ _)
def qd (s:Rat):List Rat→List Rat
 |[]=>[]
 |_::l=>lE l ((qd s l).map (s*·))
theorem Gr (s:Rat):∀(l:List Rat),(qd s l).length≤l.length - 1
 |[]=>by simp[qd]
 |a::l=>by
  rw[qd]
  refine sh _ _ _ (by simp) ?_
  rw[List.length_map];have:=Gr s l;simp;omega
theorem B8 (s:Rat):∀(l:List Rat) (t:Rat),cm l t - cm l s=(t - s)*cm (qd s l) t
 |[],t=>by simp only[cm,qd];grind
 |a::l,t=>by
  have:=B8 s l t
  rw[qd,mM,jQ];simp only[cm];grind
theorem D6:∀(d N:Nat) (l:List Rat),l.length≤d→(∀n:Nat,N≤n→cm l n=0)→∀t,cm l t=0
 |0,_,l,hl,_,t=>by
  obtain rfl:l=[]:=List.eq_nil_of_length_eq_zero aa
  rfl
 |d+1,N,l,hl,h,t=>by
  have h1:=B8 (N:Rat) l
  rw[h N (Nat.le_refl _)]at h1
  have h2:=D6 d (N+1) (qd N l) (by have:=Gr (N:Rat) l;omega) fun n hn=>by
   have:=h1 n
   rw[h n aa]at this
   have a7:(n:Rat) - N≠0:=by
    intro e
    have:(n:Rat)=N:=by grind
    have:=Rat.natCast_inj.1 this
    omega
   have h0:((n:Rat) - N)*cm (qd N l) n=0:=by rw[←this];grind
   rcases Rat.mul_eq_zero.1 h0 with g|g
   ·exact absurd g a7
   ·exact g
  have:=h1 t
  rw[h2 t]at this
  grind
theorem iI.zero {f:Rat→Rat} (hf:iI f) (N:Nat) (h:∀n:Nat,N≤n→f n=0) (t:Rat):f t=0:=by
 obtain⟨l,hl⟩:=hf
 rw[hl];exact D6 _ N l (Nat.le_refl _) (fun n hn=>by rw[←hl];exact h n hn) t
theorem iI.ud {f h:Rat→Rat} (hf:iI f) (hh:iI h) (h0:h 0≠0) (H:∀s,h s≠0→f s=0) (t:Rat):f t=0:=by
 have key:∀l:List Rat,(∀t,cm l t*h t=0)→∀t,cm l t=0:=by
  intro l
  induction l with
  |nil=>intro _ t;rfl
  |cons a l ih=>
   intro hz t
   have h1:=hz 0
   simp only[cm]at h1
   have ha:a=0:=by
    rcases Rat.mul_eq_zero.1 h1 with g|g
    ·grind
    ·exact absurd g h0
   have hp:iI fun t=>cm l t*h t:=iI.mul ⟨l,fun _=>rfl⟩ hh
   have h2:=ih fun t=>hp.zero 1 (fun n hn=>by
    have h3:=hz n
    simp only[cm]at h3
    rw[ha]at h3
    have h4:(n:Rat)*(cm l n*h n)=0:=by grind
    rcases Rat.mul_eq_zero.1 h4 with g|g
    ·have:=Rat.natCast_inj.1 (show(n:Rat)=(0:Nat) by rw[g];rfl)
     omega
    ·exact g) t
   simp only[cm];rw[ha,h2 t];grind
 obtain⟨l,hl⟩:=hf
 rw[hl]
 refine key l (fun t=> ?_) t
 by_cases g:h t=0
 ·rw[g];grind
 ·rw[←hl,H t g];grind
def B9 (A:Mx) (s:Rat):Mx:=fun i k=>s*A i k+(1 - s)*delta i k
theorem x8 (A:Mx) (i k:Nat):iI fun s=>B9 A s i k:=(iI.id.mul (iI.const _)).add (((iI.const 1).sub iI.id).mul (iI.const _))
theorem Mh (A:Mx):B9 A 1=A:=by funext i k;unfold B9;grind
theorem Jw (A:Mx):B9 A 0=delta:=by funext i k;unfold B9;grind
theorem generic (s:Nat) (A:Mx) (f:Mx→Rat) (hp:iI fun t=>f (B9 A t)) (h:∀B,bD s B≠0→f B=0):f A=0:=by
 have:=hp.ud (h:=fun t=>bD s (B9 A t)) (iI.bD s (x8 A)) (by show bD s (B9 A 0)≠0;rw[Jw,sf];decide) (fun t ht=>h _ ht) 1
 rwa [Mh]at this
theorem Alt.wi {n:Nat} {F:Mx→Rat} (hF:Alt n F) (A:Mx) {i:Nat} (c:Nat→Rat) (hi:i<n):∀m,m≤i→F (setRow A i fun k=>A i k+ao m fun p=>c p*A p k)=F A
 |0,_=>by
  simp only[ao]
  rw[show(fun k=>A i k+0)=A i from by funext k;grind,setRow_self]
 |m+1,h=>by
  have h1:=hF.Gq (i:=i) (j:=m) (setRow A i fun k=>A i k+ao m fun p=>c p*A p k) (c m) hi aa aa
  rw[aR,Gn,aS _ _ aa,Alt.wi hF A c hi m aa]at h1
  rw[←h1]
  congr 2
  funext k
  simp only[ao];grind
theorem D7 {n:Nat} {A:Mx} (h:∀k,k<n→A n k=0):bD (n+1) A=A n n*bD n A:=by
 rw[B7 n A (r:=n) aa,dA (j:=n) (n+1) aa fun k hk a7=>by rw[h k aa];grind,xY,D5]
 rw[bn (A:=FB A n n) (B:=A) fun i j hi hj=>by unfold FB;rw[mK hi,mK hj]]
 grind
theorem Jx {n:Nat} {A:Mx} (h:∀k,k<n→A (n+1) k=0):bD (n+2) A=A (n+1) (n+1)*bD (n+1) A - A (n+1) n*bD (n+1) (fun i j=>A i (if j<n then j else n+1)):=by
 rw[B7 (n+1) A (r:=n+1) aa,ao,ao,bl fun k hk=>by rw[h k hk];grind]
 rw[bn (A:=FB A (n+1) n) (B:=fun i j=>A i (if j<n then j else n+1)) fun i j hi hj=>by
  unfold FB;rw[mK hi]
  by_cases g:j<n
  ·rw[mK g,if_pos g]
  ·rw[r9 aa,if_neg g,show j=n by omega]]
 rw[bn (A:=FB A (n+1) (n+1)) (B:=A) fun i j hi hj=>by unfold FB;rw[mK hi,mK hj]]
 rw[show n+1+n=(n+n)+1 by omega,sg,xY,D5,xY,D5]
 grind
def fP (s i a:Nat):Nat:=if a<s then a else s+i
def bm (s:Nat) (A:Mx) (i k:Nat):Rat:=bD (s+1) fun a b=>A (fP s i a) (fP s k b)
theorem afk (s:Nat) (A:Mx) (i k:Nat):bm s (tr A) i k=bm s A k i:=by
 unfold bm;rw[←mL];rfl
theorem Qt (A:Mx) (i k:Nat):bm 0 A i k=A i k:=by
 unfold bm fP
 rw[bP,ao,ao,bD,sg]
 simp only[Nat.not_lt_zero,if_false,Nat.zero_add];grind
theorem D8 (s:Nat) (A:Mx):bm s A 0 0=bD (s+1) A:=bn fun a b ha hb=>by
 have e:∀x,x<s+1→fP s 0 x=x:=fun x hx=>by unfold fP;split<;>omega
 rw[e a ha,e b hb]
section
variable {s:Nat} {A:Mx} (hd:bD s A≠0)
include hd
def xs (s:Nat) (A:Mx) (r:Nat→Rat) (p:Nat):Rat:=ao s fun q=>r q*(C7 s A q p*(bD s A)⁻¹)
theorem Gs (r:Nat→Rat) {b:Nat} (hb:b<s):ao s (fun p=>xs s A r p*A p b)=r b:=by
 have e1:ao s (fun p=>xs s A r p*A p b)=ao s fun p=>ao s fun q=>r q*(C7 s A q p*(bD s A)⁻¹)*A p b:=
  ai s fun p _=>by rw[xs,jr]
 have e2:∀q,q<s→ao s (fun p=>r q*(C7 s A q p*(bD s A)⁻¹)*A p b)=r q*delta q b:=fun q hq=>by
  have h1:=HJ A hq hb
  unfold pr at h1
  rw[ai s (g:=fun p=>(r q*(bD s A)⁻¹)*(C7 s A q p*A p b)) fun p _=>by grind,←bO,h1,delta]
  split
  ·have:=Rat.mul_inv_cancel _ hd;grind
  ·grind
 rw[e1,dX,ai s e2,kV,if_pos hb]
def Ph (s:Nat) (A:Mx) (i k:Nat):Rat:=A (s+i) (s+k) - ao s fun p=>xs s A (A (s+i)) p*A p (s+k)
theorem qE (i k:Nat):bm s A i k=bD s A*Ph s A i k:=by
 have h:=(eK (s+1)).wi (fun a b=>A (fP s i a) (fP s k b)) (i:=s) (fun p=> - xs s A (A (s+i)) p) aa s (Nat.le_refl _)
 rw[bm,←h]
 have e:∀b,(A (fP s i s) (fP s k b)+ao s fun p=> - xs s A (A (s+i)) p*A (fP s i p) (fP s k b))=A (s+i) (fP s k b) - ao s fun p=>xs s A (A (s+i)) p*A p (fP s k b):=fun b=>by
  rw[fP,if_neg aa,ai s (g:=fun p=>(-1)*(xs s A (A (s+i)) p*A p (fP s k b))) fun p hp=>by rw[fP,if_pos hp];grind,←bO]
  grind
 rw[D7 fun b hb=>by rw[aR,e];rw[show fP s k b=b from if_pos hb,Gs hd _ hb];grind]
 rw[aR,e,show fP s k s=s+k from if_neg aa,bn (A:=setRow _ s _) (B:=A) fun a b ha hb=>by
  rw[aS _ _ aa,show fP s i a=a from if_pos ha,show fP s k b=b from if_pos hb]]
 unfold Ph;grind
theorem Qu (i k:Nat):bm (s+1) A i k=bD s A*(Ph s A 0 0*Ph s A (i+1) (k+1) - Ph s A (i+1) 0*Ph s A 0 (k+1)):=by
 have h:=(eK (s+2)).wi (fun a b=>A (fP (s+1) i a) (fP (s+1) k b)) (i:=s+1) (fun p=> - xs s A (A (s+(i+1))) p) aa s aa
 rw[bm,←h]
 have ea:∀p,p<s→fP (s+1) i p=p:=fun p hp=>if_pos aa
 have e:∀b,(A (fP (s+1) i (s+1)) (fP (s+1) k b)+ao s fun p=> - xs s A (A (s+(i+1))) p*A (fP (s+1) i p) (fP (s+1) k b))=A (s+(i+1)) (fP (s+1) k b) - ao s fun p=>xs s A (A (s+(i+1))) p*A p (fP (s+1) k b):=fun b=>by
  rw[show fP (s+1) i (s+1)=s+(i+1)from by unfold fP;rw[if_neg aa];omega,ai s (g:=fun p=>(-1)*(xs s A (A (s+(i+1))) p*A p (fP (s+1) k b))) fun p hp=>by rw[ea p hp];grind,←bO]
  grind
 rw[Jx fun b hb=>by rw[aR,e,show fP (s+1) k b=b from if_pos aa,Gs hd _ hb];grind]
 have e1:bD (s+1) (setRow (fun a b=>A (fP (s+1) i a) (fP (s+1) k b)) (s+1) fun b=>A (fP (s+1) i (s+1)) (fP (s+1) k b)+ao s fun p=> - xs s A (A (s+(i+1))) p*A (fP (s+1) i p) (fP (s+1) k b))=bm s A 0 0:=by
  rw[D8]
  exact bn fun a b ha hb=>by rw[aS _ _ aa,show fP (s+1) i a=a from if_pos aa,show fP (s+1) k b=b from if_pos aa]
 have e2:bD (s+1) (fun a b=>setRow (fun a b=>A (fP (s+1) i a) (fP (s+1) k b)) (s+1) (fun b=>A (fP (s+1) i (s+1)) (fP (s+1) k b)+ao s fun p=> - xs s A (A (s+(i+1))) p*A (fP (s+1) i p) (fP (s+1) k b)) a (if b<s then b else s+1))=bm s A 0 (k+1):=by
  refine bn fun a b ha hb=> ?_
  show setRow _ (s+1) _ a (if b<s then b else s+1)=_
  rw[aS _ _ aa]
  show A (fP (s+1) i a) (fP (s+1) k (if b<s then b else s+1))=A (fP s 0 a) (fP s (k+1) b)
  rw[show fP (s+1) i a=a from if_pos aa,show fP s 0 a=a from by unfold fP;split<;>omega]
  congr 1
  unfold fP
  by_cases g:b<s
  ·rw[if_pos g,if_pos aa,if_pos g]
  ·rw[if_neg g,if_neg aa,if_neg g];omega
 rw[e1,e2,aR,e,e,show fP (s+1) k (s+1)=s+(k+1)from by unfold fP;rw[if_neg aa];omega,show fP (s+1) k s=s+0 from if_pos aa,qE hd,qE hd]
 have f1:(A (s+(i+1)) (s+(k+1)) - ao s fun p=>xs s A (A (s+(i+1))) p*A p (s+(k+1)))=Ph s A (i+1) (k+1):=rfl
 have f2:(A (s+(i+1)) (s+0) - ao s fun p=>xs s A (A (s+(i+1))) p*A p (s+0))=Ph s A (i+1) 0:=rfl
 rw[f1,f2];grind
end
theorem Qw (s:Nat) (A:Mx) (i k:Nat):bm s A 0 0*bm s A (i+1) (k+1) - bm s A (i+1) 0*bm s A 0 (k+1)=bD s A*bm (s+1) A i k:=by
 have hb:∀s i k,iI fun t=>bm s (B9 A t) i k:=fun s i k=>iI.bD (s+1) fun a b=>x8 A _ _
 have:=generic s A (fun A=>bm s A 0 0*bm s A (i+1) (k+1) - bm s A (i+1) 0*bm s A 0 (k+1) - bD s A*bm (s+1) A i k)
  ((((hb _ _ _).mul (hb _ _ _)).sub ((hb _ _ _).mul (hb _ _ _))).sub ((iI.bD s (x8 A)).mul (hb _ _ _))) fun B hB=>by
   rw[qE hB,qE hB,qE hB,qE hB,Qu hB];grind
 grind
theorem Qx {s n:Nat} {A:Mx} (hd:bD s A≠0) (hs:s<n) (h:∀i,s+i<n→bm s A i 0=0):bD n A=0:=by
 have Fv:bD s (tr A)≠0:=by rwa [mL]
 rw[←mL,←(eK n).wi (tr A) (i:=s) (fun p=> - xs s (tr A) (tr A s) p) hs s (Nat.le_refl _)]
 have e:∀b,b<n→(fun k=>tr A s k+ao s fun p=> - xs s (tr A) (tr A s) p*tr A p k) b=(fun _=>0) b:=fun b hb=>by
  show tr A s b+(ao s fun p=> - xs s (tr A) (tr A s) p*tr A p b)=0
  rw[ai s (g:=fun p=>(-1)*(xs s (tr A) (tr A s) p*tr A p b)) fun p _=>by grind,←bO]
  by_cases g:b<s
  ·rw[Gs Fv _ g];grind
  ·have h1:=h (b - s) aa
   rw[←afk,qE Fv]at h1
   have h2:Ph s (tr A) 0 (b - s)=0:=by
    rcases Rat.mul_eq_zero.1 h1 with g|g
    ·exact absurd g Fv
    ·exact g
   unfold Ph at h2
   rw[Nat.add_zero,show s+(b - s)=b by omega]at h2
   grind
 rw[(eK n).congr (setRow (tr A) s fun k=>tr A s k+ao s fun p=> - xs s (tr A) (tr A s) p*tr A p k) (setRow (tr A) s fun _=>0) fun i k _ hk=>by
  by_cases g:i=s
  ·subst g;rw[aR,aR];exact e k hk
  ·rw[aS _ _ g,aS _ _ g],(eK n).zero _ hs]
theorem Mi (c:Rat) (A:Mx):∀n,bD n (fun i k=>c*A i k)=c^n*bD n A:=by
 intro n
 have h:∀j,j≤n→bD n (fun i k=>if i<j then c*A i k else A i k)=c^j*bD n A:=by
  intro j
  induction j with
  |zero=>intro _;rw[bn (B:=A) fun i k _ _=>if_neg aa];grind
  |succ j ih=>
   intro hj
   have e:(fun i k=>if i<j+1 then c*A i k else A i k)=setRow (fun i k=>if i<j then c*A i k else A i k) j fun k=>c*A j k:=by
    funext i k
    by_cases g:i=j
    ·subst g;rw[aR,if_pos aa]
    ·rw[aS _ _ g]
     by_cases g2:i<j
     ·rw[if_pos g2,if_pos aa]
     ·rw[if_neg g2,if_neg aa]
   have e2:setRow (fun i k=>if i<j then c*A i k else A i k) j (A j)=fun i k=>if i<j then c*A i k else A i k:=by
    funext i k
    by_cases g:i=j
    ·subst g;rw[aR,if_neg aa]
    ·rw[aS _ _ g]
   rw[e,(eK n).smul _ _ _ aa,e2,ih aa,Rat.pow_succ];grind
 rw[←h n (Nat.le_refl _)]
 exact bn fun i k hi _=>(if_pos hi).symm
theorem iI.C7 {A:Rat→Mx} (n:Nat) (h:∀i k,iI fun t=>A t i k) (i k:Nat):iI fun t=>C7 n (A t) i k:=(iI.bD (A:=fun t=>FB (A t) k i) (n - 1) fun _ _=>h _ _).smul (sg (i+k))
def turns (l:List Nat) (k:Nat):Nat:=l.countP fun u=>decide (k<u)
theorem ek (l:List Nat) (u k:Nat):turns (l++[u]) k=turns l k+if k<u then 1 else 0:=by
 simp[turns,List.countP_append,List.countP_cons]
def cA (n:Nat) (A:Mx):Nat→Nat→List Nat→Rat
 |0,_,_=>1
 |m+1,i,l=>ao n fun k=>if k∈l then 0 else sg (turns l k)*A i k*cA n A m (i+1) (l++[k])
theorem x9 (n:Nat) (A:Mx):∀(m i:Nat) (l l':List Nat),(∀k,k∈l↔k∈l')→(∀k,turns l k=turns l' k)→cA n A m i l=cA n A m i l'
 |0,_,_,_,_,_=>rfl
 |m+1,i,l,l',h1,h2=>ai n fun k _=>by
  by_cases h:k∈l
  ·rw[if_pos h,if_pos ((h1 k).1 h)]
  ·rw[if_neg h,if_neg fun g=>h ((h1 k).2 g),h2,x9 n A m (i+1) (l++[k]) (l'++[k]) (fun q=>by simp[h1 q]) (fun q=>by rw[ek,ek,h2])]
theorem oZ (n:Nat) {A B:Mx}:∀(m i:Nat) (l:List Nat),(∀a k,i≤a→a<i+m→k<n→A a k=B a k)→cA n A m i l=cA n B m i l
 |0,_,_,_=>rfl
 |m+1,i,l,h=>ai n fun k hk=>by
  rw[oZ n m (i+1) (l++[k]) fun a k ha hb hk=>h a k aa aa hk,h i k aa aa hk]
theorem Az (n:Nat) (A:Mx) (r:Nat) (x:Nat→Rat) (c:Rat) (y:Nat→Rat):∀(m i:Nat) (l:List Nat),i≤r→r<i+m→
  cA n (setRow A r fun k=>x k+c*y k) m i l=cA n (setRow A r x) m i l+c*cA n (setRow A r y) m i l
 |0,_,_,h1,h2=>aa
 |m+1,i,l,h1,h2=>by
  rw[cA,cA,cA,bO,←sum_add]
  refine ai n fun k _=> ?_
  by_cases hk:k∈l
  ·rw[if_pos hk,if_pos hk,if_pos hk];grind
  ·rw[if_neg hk,if_neg hk,if_neg hk]
   by_cases e:i=r
   ·subst e
    have e1:∀z,cA n (setRow A i z) m (i+1) (l++[k])=cA n A m (i+1) (l++[k]):=fun z=>oZ n m (i+1) _ fun a q ha _ _=>by rw[aS _ _ aa]
    rw[e1,e1,e1,aR,aR,aR];grind
   ·rw[aS _ _ e,aS _ _ e,aS _ _ e,Az n A r x c y m (i+1) _ aa aa];grind
theorem Mj (n:Nat) (T:Nat→Nat→Rat) (h:∀k l,k<n→l<n→T k l= - T l k):ao n (fun k=>ao n (T k))=0:=by
 have h1:ao n (fun k=>ao n (T k))=ao n fun k=>ao n fun l=>(-1)*T l k:=
  ai n fun k hk=>ai n fun l hl=>by rw[h k l hk hl];grind
 have h2:(ao n fun k=>ao n fun l=>(-1)*T l k)=ao n fun k=>(-1)*ao n fun l=>T l k:=
  ai n fun k _=>(bO _ _).symm
 have h3:(ao n fun k=>(-1)*ao n fun l=>T l k)=(-1)*ao n (fun k=>ao n (T k)):=by
  rw[←bO,←dX]
 rw[h2,h3]at h1
 grind
theorem AB (n:Nat) (A:Mx) (r:Nat) (h:∀k,k<n→A r k=A (r+1) k):∀(m i:Nat) (l:List Nat),i≤r→r+1<i+m→cA n A m i l=0
 |0,_,_,h1,h2=>aa
 |1,_,_,h1,h2=>aa
 |m+2,i,l,h1,h2=>by
  by_cases e:i=r
  ·subst e
   rw[cA]
   refine Eq.trans ?_ (Mj n (fun k q=>if k∈l then 0 else if q∈l++[k]then 0 else sg (turns l k)*A i k*(sg (turns (l++[k]) q)*A (i+1) q*cA n A m (i+1+1) (l++[k]++[q]))) ?_)
   ·refine ai n fun k _=> ?_
    by_cases hk:k∈l
    ·rw[if_pos hk,bl fun q _=>if_pos hk]
    ·rw[if_neg hk,cA,bO]
     refine ai n fun q _=> ?_
     rw[if_neg hk]
     by_cases hq:q∈l++[k]
     ·rw[if_pos hq,if_pos hq];grind
     ·rw[if_neg hq,if_neg hq]
   ·intro k q hk hq
    by_cases h1:k∈l
    ·rw[if_pos h1]
     by_cases h2:q∈l
     ·rw[if_pos h2];grind
     ·rw[if_neg h2,if_pos (by simp[h1])];grind
    ·rw[if_neg h1]
     by_cases h2:q∈l
     ·rw[if_pos (by simp[h2]),if_pos h2];grind
     ·rw[if_neg h2]
      by_cases h3:q=k
      ·subst h3;rw[if_pos (by simp)];grind
      ·rw[if_neg (by simp[h2,h3]),if_neg (by simp[h1];exact fun g=>h3 g.symm)]
       rw[x9 n A m (i+1+1) (l++[k]++[q]) (l++[q]++[k]) (fun p=>by simp;grind) (fun p=>by rw[ek,ek,ek,ek];omega)]
       rw[ek,ek,h k hk,←h q hq]
       rcases Nat.lt_or_gt_of_ne h3 with g|g
       ·rw[if_pos g,if_neg aa,sg];grind
       ·rw[if_neg aa,if_pos g];simp only[sg,Nat.add_zero];grind
  ·rw[cA]
   refine bl fun k _=> ?_
   by_cases hk:k∈l
   ·rw[if_pos hk]
   ·rw[if_neg hk,AB n A r h (m+1) (i+1) _ aa aa];grind
theorem AE (n:Nat):∀(m i:Nat),i+m=n→cA n delta m i (List.range i)=1
 |0,_,_=>rfl
 |m+1,i,h=>by
  rw[cA,dA (j:=i) n aa fun k _ a7=>by
   split
   ·rfl
   ·rw[delta,if_neg (fun g=>a7 g.symm)];grind]
  rw[if_neg (by simp),←List.range_succ,AE n m (i+1) aa,delta,if_pos rfl]
  have:turns (List.range i) i=0:=by
   rw[turns,List.countP_eq_zero];intro u hu;have:=List.mem_range.1 hu;simp;omega
  rw[this,sg];grind
theorem AF (n:Nat) (A:Mx):cA n A n 0 []=bD n A:=by
 have h:Alt n fun A=>cA n A n 0 []:={
  congr:=fun A B h=>oZ n n 0 [] fun a k _ ha hk=>h a k aa hk
  uf:=fun A i x c y hi=>Az n A i x c y n 0 [] aa aa
  alt:=fun A i hi h=>AB n A i h n 0 [] aa aa}
 rw[nL n _ h A]
 show cA n delta n 0 (List.range 0)*_=_
 rw[AE n n 0 aa];grind
theorem D9 {f g:Nat→Rat}:∀n,(∀i,i<n→f i≤g i)→ao n f≤ao n g
 |0,_=>Rat.le_refl
 |n+1,h=>by rw[ao,ao];have:=D9 n fun i hi=>h i aa;have:=h n aa;grind
def Bd (x b:Rat):Prop:= -b≤x∧x≤b
theorem Bd.yc {x b:Rat} (h:Bd x b):0≤b:=by obtain⟨h1,h2⟩:=h;grind
theorem Bd.add {x y a b:Rat} (h:Bd x a) (k:Bd y b):Bd (x+y) (a+b):=by
 obtain⟨h1,h2⟩:=h;obtain⟨k1,k2⟩:=k;constructor<;>grind
theorem Bd.neg {x a:Rat} (h:Bd x a):Bd (-x) a:=by obtain⟨h1,h2⟩:=h;constructor<;>grind
theorem Bd.mono {x a b:Rat} (h:Bd x a) (hb:a≤b):Bd x b:=by obtain⟨h1,h2⟩:=h;constructor<;>grind
theorem Bd.mul {x y a b:Rat} (h:Bd x a) (k:Bd y b):Bd (x*y) (a*b):=by
 have ha:=h.yc;have hb:=k.yc
 obtain⟨h1,h2⟩:=h;obtain⟨k1,k2⟩:=k
 have p1:=Rat.mul_nonneg (show 0≤a - x by grind) (show 0≤b+y by grind)
 have p2:=Rat.mul_nonneg (show 0≤a+x by grind) (show 0≤b - y by grind)
 have p3:=Rat.mul_nonneg (show 0≤a - x by grind) (show 0≤b - y by grind)
 have p4:=Rat.mul_nonneg (show 0≤a+x by grind) (show 0≤b+y by grind)
 constructor<;>grind
theorem Bd.sg {x a:Rat} (h:Bd x a):∀n,Bd (sg n*x) a
 |0=>by rw[Go.Proofs.YtfpagioknjjacaaGreatDoor.sg,show(1:Rat)*x=x by grind];exact h
 |n+1=>by rw[Go.Proofs.YtfpagioknjjacaaGreatDoor.sg,show - Go.Proofs.YtfpagioknjjacaaGreatDoor.sg n*x= - (Go.Proofs.YtfpagioknjjacaaGreatDoor.sg n*x) by grind];exact(Bd.sg h n).neg
theorem Bd.sum {f r:Nat→Rat}:∀n,(∀i,i<n→Bd (f i) (r i))→Bd (ao n f) (ao n r)
 |0,_=>(show Bd 0 0 from⟨aH,aH⟩)
 |n+1,h=>(Bd.sum n fun i hi=>h i aa).add (h n aa)
abbrev Mz:=Nat→Nat→Int
def toR (A:Mz):Mx:=fun i k=>(A i k:Rat)
def Mk:Nat→(Nat→Int)→Int
 |0,_=>0
 |n+1,f=>Mk n f+f n
theorem AG (f:Nat→Int):∀n,((Mk n f:Int):Rat)=ao n fun i=>(f i:Rat)
 |0=>by simp[Mk,ao]
 |n+1=>by rw[Mk,ao,Rat.intCast_add,AG f n]
def Kn:Nat→Int
 |0=>1
 |n+1=> - Kn n
theorem si:∀n,((Kn n:Int):Rat)=sg n
 |0=>by simp[Kn,sg]
 |n+1=>by rw[Kn,sg,Rat.intCast_neg,si n]
theorem wo:∀n,Kn n=if n % 2=1 then -1 else 1
 |0=>rfl
 |n+1=>by
  rw[Kn,wo n]
  by_cases h:n % 2=1
  ·rw[if_pos h,if_neg aa];rfl
  ·rw[if_neg h,if_pos aa]
def ij:Nat→Mz→Int
 |0,_=>1
 |n+1,A=>Mk (n+1) fun k=>Kn k*A 0 k*ij n fun i j=>A (i+1) (sk k j)
theorem ez:∀(n:Nat) (A:Mz),((ij n A:Int):Rat)=bD n (toR A)
 |0,_=>by simp[ij,bD]
 |n+1,A=>by
  rw[ij,bP,AG]
  refine ai _ fun k _=> ?_
  rw[Rat.intCast_mul,Rat.intCast_mul,si,ez n];rfl
theorem cast_inj {a b:Int} (h:(a:Rat)=(b:Rat)):a=b:=Rat.intCast_inj.1 h
theorem yd {n:Nat} {A B:Mz} (h:∀i k,i<n→k<n→A i k=B i k):ij n A=ij n B:=by
 apply cast_inj
 rw[ez,ez]
 exact bn fun i k hi hk=>by unfold toR;rw[h i k hi hk]
def ye (s:Nat) (A:Mz) (i k:Nat):Int:=ij (s+1) fun a b=>A (fP s i a) (fP s k b)
theorem sl (s:Nat) (A:Mz) (i k:Nat):((ye s A i k:Int):Rat)=bm s (toR A) i k:=ez _ _
theorem Ml (A:Mz) (i k:Nat):ye 0 A i k=A i k:=by
 apply cast_inj;rw[sl,Qt];rfl
theorem Jy (s:Nat) (A:Mz):ye s A 0 0=ij (s+1) A:=by
 apply cast_inj;rw[sl,D8,ez]
theorem Mm (s:Nat) (A:Mz) (i k:Nat):ye s A 0 0*ye s A (i+1) (k+1) - ye s A (i+1) 0*ye s A 0 (k+1)=ij s A*ye (s+1) A i k:=by
 apply cast_inj
 have:=Qw s (toR A) i k
 simp only[Rat.intCast_sub,Rat.intCast_mul,sl,ez];exact this
theorem Qy {s:Nat} {A:Mz} (h:ij s A≠0) (i k:Nat):(ye s A 0 0*ye s A (i+1) (k+1) - ye s A (i+1) 0*ye s A 0 (k+1))/ij s A=ye (s+1) A i k:=by
 rw[Mm,Int.mul_ediv_cancel_left _ h]
theorem Mn {s n:Nat} {A:Mz} (hd:ij s A≠0) (hs:s<n) (h:∀i,s+i<n→ye s A i 0=0):ij n A=0:=by
 apply cast_inj
 rw[ez]
 refine Qx (s:=s) ?_ hs fun i hi=> ?_
 ·rw[←ez];intro g;exact hd (cast_inj g)
 ·rw[←sl,h i hi];rfl
def js (A:Mz) (i j:Nat):Mz:=fun p=>if p=i then A j else if p=j then A i else A p
theorem Gt (A:Mz) (i j:Nat):toR (js A i j)=aO (toR A) i j:=by
 funext p q
 unfold toR js aO
 by_cases h:p=i
 ·rw[if_pos h,if_pos h]
 ·rw[if_neg h,if_neg h]
  by_cases h2:p=j
  ·rw[if_pos h2,if_pos h2]
  ·rw[if_neg h2,if_neg h2]
theorem Gu (A:Mz) (i:Nat):js A i i=A:=by
 funext p;unfold js
 by_cases h:p=i
 ·rw[if_pos h,h]
 ·rw[if_neg h,if_neg h]
theorem Jz {n:Nat} (A:Mz) {i j:Nat} (hi:i<n) (hj:j<n) (a7:i≠j):ij n (js A i j)= - ij n A:=by
 apply cast_inj
 rw[ez,Gt,(eK n).swap _ hi hj a7,Rat.intCast_neg,ez]
theorem Mo (s:Nat) (A:Mz) (j p q:Nat):ye s (js A s (s+j)) p q=js (ye s A) 0 j p q:=by
 have e:∀p r,(∀a,a<s+1→js A s (s+j) (fP s p a)=A (fP s r a))→ye s (js A s (s+j)) p q=ye s A r q:=fun p r h=>yd fun a b ha _=>by rw[h a ha]
 unfold js at e ⊢
 by_cases h:p=0
 ·subst h
  rw[if_pos rfl]
  refine e 0 j fun a ha=> ?_
  unfold fP
  by_cases g:a<s
  ·rw[if_pos g,if_pos g,if_neg aa,if_neg aa]
  ·rw[if_neg g,if_neg g,if_pos (Nat.add_zero s)]
 ·rw[if_neg h]
  by_cases h2:p=j
  ·subst h2
   rw[if_pos rfl]
   refine e p 0 fun a ha=> ?_
   unfold fP
   by_cases g:a<s
   ·rw[if_pos g,if_pos g,if_neg aa,if_neg aa]
   ·rw[if_neg g,if_neg g,if_neg aa,if_pos rfl,Nat.add_zero]
  ·rw[if_neg h2]
   refine e p p fun a ha=> ?_
   unfold fP
   by_cases g:a<s
   ·rw[if_pos g,if_neg aa,if_neg aa]
   ·rw[if_neg g,if_neg aa,if_neg aa]
theorem yf (s:Nat) (A:Mz) (j:Nat):ij s (js A s (s+j))=ij s A:=yd fun i k hi _=>by
 unfold js;rw[if_neg aa,if_neg aa]
def il (w:Mx) (k:Nat):Nat→Nat→Option Nat
 |0,_=>none
 |m+1,i=>if w i k=0 then il w k m (i+1)else some i
theorem AH {w:Mx} {k:Nat}:∀{m i:Nat},il w k m i=none→∀j,i≤j→j<i+m→w j k=0
 |0,i,_,j,h1,h2=>aa
 |m+1,i,h,j,h1,h2=>by
  rw[il]at h
  by_cases g:w i k=0
  ·rw[if_pos g]at h
   by_cases e:j=i
   ·rw[e,g]
   ·exact AH h j aa aa
  ·rw[if_neg g]at h;cases h
theorem pI {w:Mx} {k:Nat}:∀{m i j:Nat},il w k m i=some j→i≤j∧j<i+m∧w j k≠0
 |0,i,j,h=>by cases h
 |m+1,i,j,h=>by
  rw[il]at h
  by_cases g:w i k=0
  ·rw[if_pos g]at h
   have:=pI h
   exact⟨aa,aa,this.2.2⟩
  ·rw[if_neg g]at h
   obtain rfl:=Option.some.inj h
   exact⟨Nat.le_refl _,aa,g⟩
def fE (w:Mx) (top k:Nat):Mx:=fun a q=>if a=top then w top q/w top k else w a q - w a k*(w top q/w top k)
structure St where
 w:Mx
 bU:List Nat
 d:Rat
def pJ (r:Nat) (s:St) (k:Nat):St:=
 match il s.w k (r - s.bU.length) s.bU.length with
 |none=>s
 |some i=>⟨fE (aO s.w i s.bU.length) s.bU.length k,s.bU++[k],(if i=s.bU.length then s.d else - s.d)*aO s.w i s.bU.length s.bU.length k⟩
def p6 (r c:Nat) (s:St):St:=(List.range c).foldl (pJ r) s
theorem AI (r c:Nat) (s:St):p6 r (c+1) s=pJ r (p6 r c s) c:=by
 rw[p6,List.range_succ,List.foldl_append];rfl
theorem Alt.abr {n:Nat} {F:Mx→Rat} (hF:Alt n F) (A:Mx) {t:Nat} (ht:t<n) (c:Nat→Rat):F (fun a q=>if a=t then A t q else A a q+c a*A t q)=F A:=by
 have h:∀m,m≤n→F (fun a q=>if a=t then A t q else if a<m then A a q+c a*A t q else A a q)=F A:=by
  intro m
  induction m with
  |zero=>
   intro _
   refine hF.congr _ _ fun a q _ _=> ?_
   by_cases e:a=t
   ·rw[if_pos e,e]
   ·rw[if_neg e,if_neg aa]
  |succ m ih=>
   intro hm
   rw[←ih aa]
   by_cases e:m=t
   ·refine hF.congr _ _ fun a q _ _=> ?_
    by_cases g:a=t
    ·rw[if_pos g,if_pos g]
    ·rw[if_neg g,if_neg g]
     by_cases g2:a<m
     ·rw[if_pos g2,if_pos aa]
     ·rw[if_neg g2,if_neg aa]
   ·rw[←hF.Gq (i:=m) (j:=t) (fun a q=>if a=t then A t q else if a<m then A a q+c a*A t q else A a q) (c m) aa ht e]
    refine hF.congr _ _ fun a q _ _=> ?_
    by_cases g:a=m
    ·subst g
     rw[aR,if_neg e,if_pos aa,if_neg e,if_neg aa,if_pos rfl]
    ·rw[aS _ _ g]
     by_cases g1:a=t
     ·rw[if_pos g1,if_pos g1]
     ·rw[if_neg g1,if_neg g1]
      by_cases g2:a<m
      ·rw[if_pos g2,if_pos aa]
      ·rw[if_neg g2,if_neg aa]
 rw[←h n (Nat.le_refl _)]
 refine hF.congr _ _ fun a q ha _=> ?_
 by_cases e:a=t
 ·rw[if_pos e,if_pos e]
 ·rw[if_neg e,if_neg e,if_pos ha]
structure Inv (r:Nat) (W:Mx) (k:Nat) (s:St):Prop where
 len:s.bU.length≤r
 lt:∀j,j<s.bU.length→s.bU.getD j 0<k
 inc:∀i j,i<j→j<s.bU.length→s.bU.getD i 0<s.bU.getD j 0
 unit:∀j,j<s.bU.length→∀i,i<r→s.w i (s.bU.getD j 0)=if i=j then 1 else 0
 left:∀i,i<s.bU.length→∀q,q<s.bU.getD i 0→s.w i q=0
 low:∀i,s.bU.length≤i→i<r→∀q,q<k→s.w i q=0
 UL:∃P,bD r P*s.d=1∧∀i,i<r→∀q,s.w i q=pr r P W i q
theorem Inv.start (r:Nat) (W:Mx):Inv r W 0 ⟨W,[],1⟩ where
 len:=Nat.zero_le _
 lt:=fun j h=>by simp at h
 inc:=fun i j _ h=>by simp at h
 unit:=fun j h=>by simp at h
 left:=fun j h=>by simp at h
 low:=fun i _ _ q h=>aa
 UL:=⟨delta,by rw[sf];grind,fun i hi q=>by rw[pr,eZ,if_pos hi]⟩
theorem iJ {l:List Nat} {a j:Nat} (h:j<l.length):(l++[a]).getD j 0=l.getD j 0:=by
 rw[List.getD_eq_getElem?_getD,List.getD_eq_getElem?_getD,List.getElem?_append_left h]
theorem pK {l:List Nat} {a:Nat}:(l++[a]).getD l.length 0=a:=by simp[List.getD_eq_getElem?_getD]
theorem yg {w:Mx} {i t a:Nat} (h:a<t) (hi:t≤i):aO w i t a=w a:=by
 unfold aO;rw[if_neg aa,if_neg aa]
theorem Gv {w:Mx} {i t a r:Nat} (hi:t≤i) (Mp:i<r) (h:t≤a) (har:a<r):∃b,t≤b∧b<r∧aO w i t a=w b:=by
 unfold aO
 by_cases h1:a=i
 ·rw[if_pos h1];exact⟨t,Nat.le_refl _,aa,rfl⟩
 ·rw[if_neg h1]
  by_cases h2:a=t
  ·rw[if_pos h2];exact⟨i,hi,Mp,rfl⟩
  ·rw[if_neg h2];exact⟨a,h,har,rfl⟩
theorem AJ {w:Mx} {i t:Nat}:aO w i t t=w i:=by
 unfold aO
 by_cases h:t=i
 ·rw[if_pos h,h]
 ·rw[if_neg h,if_pos rfl]
theorem Qz (r:Nat) (P W:Mx) (i t a q:Nat):pr r (aO P i t) W a q=aO (pr r P W) i t a q:=by
 show(ao r fun p=>(if a=i then P t else if a=t then P i else P a) p*W p q)=(if a=i then pr r P W t else if a=t then pr r P W i else pr r P W a) q
 by_cases h:a=i
 ·rw[if_pos h,if_pos h];rfl
 ·rw[if_neg h,if_neg h]
  by_cases h2:a=t
  ·rw[if_pos h2,if_pos h2];rfl
  ·rw[if_neg h2,if_neg h2];rfl
theorem Inv.step {r:Nat} {W:Mx} {k:Nat} {s:St} (h:Inv r W k s):Inv r W (k+1) (pJ r s k):=by
 unfold pJ
 cases hp:il s.w k (r - s.bU.length) s.bU.length with
 |none=>
  have hz:=AH hp
  have:=h.len
  show Inv r W (k+1) s
  exact {h with
   lt:=fun j hj=>by have:=h.lt j hj;omega
   low:=fun i h1 h2 q hq=>by
    by_cases e:q=k
    ·rw[e];exact hz i h1 aa
    ·exact h.low i h1 h2 q aa}
 |some i=>
  obtain⟨g1,g2,g3⟩:=pI hp
  dsimp only
  have hl:=h.len
  have Mp:i<r:=aa
  have ht:s.bU.length<r:=aa
  have akc:s.bU.length=s.bU.length:=rfl
  revert g1 g2 ht hl
  generalize PN:s.bU.length=t
  intro g1 g2 hl ht
  have vV:aO s.w i t t k≠0:=by rw[AJ];exact g3
  have hz:∀a,t≤a→a<r→∀q,q<k→aO s.w i t a q=0:=fun a h1 h2 q hq=>by
   obtain⟨b,b1,b2,e⟩:=Gv (w:=s.w) g1 Mp h1 h2
   rw[e];exact h.low b aa b2 q hq
  have hu:∀j,j<t→∀a,a<r→aO s.w i t a (s.bU.getD j 0)=if a=j then 1 else 0:=fun j hj a ha=>by
   by_cases hat:a<t
   ·rw[yg hat g1];exact h.unit j aa a ha
   ·rw[hz a aa ha _ (h.lt j aa),if_neg aa]
  have hc:∀a,a<t→∀q,q<k→fE (aO s.w i t) t k a q=s.w a q:=fun a ha q hq=>by
   unfold fE
   rw[if_neg aa,hz t (Nat.le_refl _) ht q hq,yg ha g1];grind
  have hlen:(s.bU++[k]).length=t+1:=by rw[List.length_append,PN];rfl
  refine {len:=by simp only[hlen];omega,lt:= ?_,inc:= ?_,unit:= ?_,left:= ?_,low:= ?_,UL:= ?_}
  ·intro j hj
   simp only[hlen]at hj
   show(s.bU++[k]).getD j 0<k+1
   by_cases e:j<t
   ·rw[iJ aa];have:=h.lt j aa;omega
   ·obtain rfl:j=t:=aa
    rw[←PN,pK];omega
  ·intro a b Ap hb
   simp only[hlen]at hb
   show(s.bU++[k]).getD a 0<(s.bU++[k]).getD b 0
   by_cases e:b<t
   ·rw[iJ aa,iJ aa];exact h.inc a b Ap aa
   ·obtain rfl:b=t:=aa
    rw[iJ aa]
    rw[show(s.bU++[k]).getD b 0=k from by rw[←PN,pK]]
    exact h.lt a aa
  ·intro j hj a ha
   simp only[hlen]at hj
   show fE (aO s.w i t) t k a ((s.bU++[k]).getD j 0)=_
   by_cases e:j<t
   ·rw[iJ aa]
    unfold fE
    rw[hu j e t ht,hu j e a ha,if_neg (show ¬t=j by omega)]
    by_cases g:a=t
    ·rw[if_pos g,if_neg aa,Rat.div_def];grind
    ·rw[if_neg g,Rat.div_def];split<;>grind
   ·obtain rfl:j=t:=aa
    rw[show(s.bU++[k]).getD j 0=k from by rw[←PN,pK]]
    unfold fE
    by_cases g:a=j
    ·rw[if_pos g,if_pos g,Rat.div_def,Rat.mul_inv_cancel _ vV]
    ·rw[if_neg g,if_neg g,Rat.div_def,Rat.mul_inv_cancel _ vV];grind
  ·intro a ha q hq
   simp only[hlen]at ha
   change q<(s.bU++[k]).getD a 0 at hq
   show fE (aO s.w i t) t k a q=0
   by_cases e:a<t
   ·rw[iJ aa]at hq
    have:=h.lt a aa
    rw[hc a e q aa]
    exact h.left a aa q hq
   ·obtain rfl:a=t:=aa
    rw[show(s.bU++[k]).getD a 0=k from by rw[←PN,pK]]at hq
    unfold fE
    rw[if_pos rfl,hz a (Nat.le_refl _) ht q hq,Rat.div_def];grind
  ·intro a h1 h2 q hq
   simp only[hlen]at h1
   show fE (aO s.w i t) t k a q=0
   unfold fE
   rw[if_neg aa]
   by_cases e:q=k
   ·rw[e,Rat.div_def,Rat.mul_inv_cancel _ vV];grind
   ·rw[hz a aa h2 q aa,hz t (Nat.le_refl _) ht q aa,Rat.div_def];grind
  ·obtain⟨P,hP1,hP2⟩:=h.UL
   have hsw:∀a,a<r→∀q,aO s.w i t a q=pr r (aO P i t) W a q:=fun a ha q=>by
    rw[Qz];unfold aO
    by_cases e1:a=i
    ·rw[if_pos e1,if_pos e1];exact hP2 t ht q
    ·rw[if_neg e1,if_neg e1]
     by_cases e2:a=t
     ·rw[if_pos e2,if_pos e2];exact hP2 i Mp q
     ·rw[if_neg e2,if_neg e2];exact hP2 a ha q
   have hsd:bD r (aO P i t)*(if i=t then s.d else - s.d)=1:=by
    by_cases e:i=t
    ·subst e
     rw[if_pos rfl,show aO P i i=P from by
      funext a;unfold aO
      by_cases e1:a=i
      ·rw[if_pos e1,e1]
      ·rw[if_neg e1,if_neg e1],hP1]
    ·rw[if_neg e,(eK r).swap P Mp ht e];grind
   generalize aO s.w i t=w1 at*
   generalize aO P i t=Q at*
   have hinv:=Rat.mul_inv_cancel _ vV
   refine⟨fun a q=>if a=t then(w1 t k)⁻¹*Q t q else Q a q+(- w1 a k*(w1 t k)⁻¹)*Q t q, ?_, ?_⟩
   ·have e1:=(eK r).abr (setRow Q t fun q=>(w1 t k)⁻¹*Q t q) ht fun a=> - w1 a k
    rw[(eK r).smul Q _ _ ht,show setRow Q t (fun q=>Q t q)=Q from setRow_self Q t]at e1
    rw[bn (B:=fun a q=>if a=t then setRow Q t (fun q=>(w1 t k)⁻¹*Q t q) t q else setRow Q t (fun q=>(w1 t k)⁻¹*Q t q) a q+ - w1 a k*setRow Q t (fun q=>(w1 t k)⁻¹*Q t q) t q) fun a q _ _=>by
     rw[aR]
     by_cases e:a=t
     ·rw[if_pos e,if_pos e]
     ·rw[if_neg e,if_neg e,aS _ _ e];grind,e1]
    show(w1 t k)⁻¹*bD r Q*((if i=t then s.d else - s.d)*w1 t k)=1
    grind
   ·intro a ha q
    show fE w1 t k a q=_
    unfold fE pr
    by_cases e:a=t
    ·rw[if_pos e,hsw t ht q,Rat.div_def,pr,ai r (f:=fun p=>(if a=t then(w1 t k)⁻¹*Q t p else Q a p+(- w1 a k*(w1 t k)⁻¹)*Q t p)*W p q) (g:=fun p=>(w1 t k)⁻¹*(Q t p*W p q)) fun p _=>by rw[if_pos e];grind,←bO];grind
    ·rw[if_neg e,hsw t ht q,hsw a ha q,Rat.div_def,pr,ai r (f:=fun p=>(if a=t then(w1 t k)⁻¹*Q t p else Q a p+(- w1 a k*(w1 t k)⁻¹)*Q t p)*W p q) (g:=fun p=>Q a p*W p q+(- w1 a k*(w1 t k)⁻¹)*(Q t p*W p q)) fun p _=>by rw[if_neg e];grind,sum_add,←bO]
     unfold pr;grind
theorem Inv.red {r:Nat} {W:Mx}:∀c,Inv r W c (p6 r c ⟨W,[],1⟩)
 |0=>Inv.start r W
 |c+1=>by rw[AI];exact(Inv.red c).step
structure RE (r c:Nat) (w:Mx) (bU:List Nat):Prop where
 len:bU.length≤r
 lt:∀j,j<bU.length→bU.getD j 0<c
 inc:∀i j,i<j→j<bU.length→bU.getD i 0<bU.getD j 0
 unit:∀j,j<bU.length→∀i,i<r→w i (bU.getD j 0)=if i=j then 1 else 0
 left:∀i,i<bU.length→∀q,q<bU.getD i 0→w i q=0
 low:∀i,bU.length≤i→i<r→∀q,q<c→w i q=0
theorem Inv.re {r c:Nat} {W:Mx} {s:St} (h:Inv r W c s):RE r c s.w s.bU:=⟨h.len,h.lt,h.inc,h.unit,h.left,h.low⟩
def vp (r c:Nat) (w:Mx) (x:Nat→Rat):Prop:=∀i,i<r→ao c (fun q=>w i q*x q)=0
theorem QA {r c:Nat} {P W w:Mx} (hP:bD r P≠0) (hw:∀i,i<r→∀q,w i q=pr r P W i q) (x:Nat→Rat):vp r c w x↔vp r c W x:=by
 have e:∀i,i<r→ao c (fun q=>w i q*x q)=ao r fun p=>P i p*ao c fun q=>W p q*x q:=fun i hi=>by
  rw[ai c (g:=fun q=>ao r fun p=>P i p*(W p q*x q)) fun q _=>by rw[hw i hi,pr,jr];exact ai r fun p _=>by grind,dX]
  exact ai r fun p _=>(bO _ _).symm
 constructor
 ·intro h i hi
  have h1:ao r (fun j=>C7 r P i j*ao c fun q=>w j q*x q)=0:=bl fun j hj=>by rw[h j hj];grind
  rw[ai r (g:=fun j=>ao r fun p=>C7 r P i j*P j p*ao c fun q=>W p q*x q) fun j hj=>by rw[e j hj,bO];exact ai r fun p _=>by grind,dX]at h1
  rw[ai r (g:=fun p=>bD r P*(delta i p*ao c fun q=>W p q*x q)) fun p hp=>by
   rw[←jr]
   have:=HJ P hi hp
   unfold pr at this
   rw[this,delta];split<;>grind,←bO,eZ,if_pos hi]at h1
  rcases Rat.mul_eq_zero.1 h1 with g|g
  ·exact absurd g hP
  ·exact g
 ·intro h i hi
  rw[e i hi];exact bl fun p hp=>by rw[h p hp];grind
theorem Gw {a b:Rat} (h:a*b=1):a≠0:=by intro g;rw[g]at h;grind
theorem Inv.ker {r c k:Nat} {W:Mx} {s:St} (h:Inv r W k s) (x:Nat→Rat):vp r c s.w x↔vp r c W x:=by
 obtain⟨P,h1,h2⟩:=h.UL
 exact QA (Gw h1) h2 x
section
variable {r c:Nat} {w:Mx} {bU:List Nat}
theorem HK (h:RE r c w bU) {i j:Nat} (hi:i<bU.length) (hj:j<bU.length) (e:bU.getD i 0=bU.getD j 0):i=j:=by
 rcases Nat.lt_trichotomy i j with g|g|g
 ·have:=h.inc i j g hj;omega
 ·exact g
 ·have:=h.inc j i g hi;omega
theorem c6 {l:List Nat} {q:Nat}:q∈l↔∃j,j<l.length∧l.getD j 0=q:=by
 constructor
 ·intro h
  obtain⟨j,hj,e⟩:=List.getElem_of_mem h
  exact⟨j,hj,by rw[List.getD_eq_getElem?_getD,List.getElem?_eq_getElem hj];exact e⟩
 ·rintro⟨j,hj,rfl⟩
  rw[List.getD_eq_getElem?_getD,List.getElem?_eq_getElem hj];exact List.getElem_mem hj
def kv (w:Mx) (bU:List Nat) (k q:Nat):Rat:=delta q k - ao bU.length fun j=>delta q (bU.getD j 0)*w j k
theorem Mq (h:RE r c w bU) (u:Mx) {k:Nat} (hk:k<c) (i:Nat):ao c (fun q=>u i q*kv w bU k q)=u i k - ao bU.length fun j=>u i (bU.getD j 0)*w j k:=by
 rw[ai c (g:=fun q=>u i q*delta q k+(-1)*ao bU.length fun j=>u i q*delta q (bU.getD j 0)*w j k) fun q _=>by
  unfold kv;rw[ai bU.length (f:=fun j=>u i q*delta q (bU.getD j 0)*w j k) (g:=fun j=>u i q*(delta q (bU.getD j 0)*w j k)) fun j _=>by grind,←bO];grind]
 rw[sum_add,kV,if_pos hk,←bO,dX,ai bU.length (f:=fun j=>ao c fun q=>u i q*delta q (bU.getD j 0)*w j k) (g:=fun j=>u i (bU.getD j 0)*w j k) fun j hj=>by
  rw[←jr,kV,if_pos (h.lt j hj)]]
 grind
theorem Gx (h:RE r c w bU) {k:Nat} (hk:k<c):vp r c w (kv w bU k):=by
 intro i hi
 rw[Mq h w hk]
 rw[ai bU.length (g:=fun j=>delta i j*w j k) fun j hj=>by rw[h.unit j hj i hi,delta],eZ]
 by_cases g:i<bU.length
 ·rw[if_pos g];grind
 ·rw[if_neg g,h.low i aa hi k hk];grind
theorem Ca (h:RE r c w bU) {k:Nat} (hn:k∉bU):kv w bU k k=1:=by
 unfold kv
 rw[bl fun j hj=>by rw[delta,if_neg fun e=>hn (c6.2 ⟨j,hj,e.symm⟩)];grind,delta,if_pos rfl];grind
theorem yh {k q:Nat} (hq:q∉bU) (a7:q≠k):kv w bU k q=0:=by
 unfold kv
 rw[bl fun j hj=>by rw[delta,if_neg fun e=>hq (c6.2 ⟨j,hj,e.symm⟩)];grind,delta,if_neg a7];grind
theorem abu (h:RE r c w bU) {k j:Nat} (hn:k∉bU) (hj:j<bU.length):kv w bU k (bU.getD j 0)= - w j k:=by
 unfold kv
 rw[dA (j:=j) bU.length hj fun i hi a7=>by rw[delta,if_neg fun e=>a7 (HK h hi hj e.symm)];grind,delta,if_neg fun e=>hn (c6.2 ⟨j,hj,e⟩),delta,if_pos rfl];grind
theorem Mr (h:RE r c w bU) {k q:Nat} (hn:k∉bU) (hq:k<q):kv w bU k q=0:=by
 by_cases g:q∈bU
 ·obtain⟨j,hj,rfl⟩:=c6.1 g
  rw[abu h hn hj,h.left j hj k hq];grind
 ·exact yh g aa
theorem HL (h:RE r c w bU) {k:Nat} (hk:k<c):k∉bU↔∃x,vp r c w x∧x k≠0∧∀q,k<q→q<c→x q=0:=by
 constructor
 ·intro hn
  exact⟨kv w bU k,Gx h hk,by rw[Ca h hn];decide,fun q h1 _=>Mr h hn h1⟩
 ·rintro⟨x,h1,h2,h3⟩ hm
  obtain⟨j,hj,rfl⟩:=c6.1 hm
  have:=h1 j (by have:=h.len;omega)
  rw[dA (j:=bU.getD j 0) c hk fun q hq a7=>by
   rcases Nat.lt_or_gt_of_ne a7 with g|g
   ·rw[h.left j hj q g];grind
   ·rw[h3 q g hq];grind,h.unit j hj j (by have:=h.len;omega),if_pos rfl]at this
  exact h2 (by grind)
end
theorem HM:∀{l m:List Nat},(∀i j,i<j→j<l.length→l.getD i 0<l.getD j 0)→(∀i j,i<j→j<m.length→m.getD i 0<m.getD j 0)→(∀k,k∈l↔k∈m)→l=m
 |[],[],_,_,_=>rfl
 |[],b::m,_,_,h=>by have:=(h b).2 (List.mem_cons_self ..);cases this
 |a::l,[],_,_,h=>by have:=(h a).1 (List.mem_cons_self ..);cases this
 |a::l,b::m,h1,h2,h=>by
  have gl:∀x,x∈l→a<x:=fun x hx=>by
   obtain⟨j,hj,rfl⟩:=c6.1 hx
   exact h1 0 (j+1) aa (by simp;omega)
  have gm:∀x,x∈m→b<x:=fun x hx=>by
   obtain⟨j,hj,rfl⟩:=c6.1 hx
   exact h2 0 (j+1) aa (by simp;omega)
  have Ap:a=b:=by
   rcases List.mem_cons.1 ((h a).1 (List.mem_cons_self ..))with e|e
   ·exact e
   ·rcases List.mem_cons.1 ((h b).2 (List.mem_cons_self ..))with f|f
    ·exact f.symm
    ·have:=gl b f;have:=gm a e;omega
  subst Ap
  rw[HM (l:=l) (m:=m) (fun i j Ki hj=>h1 (i+1) (j+1) aa (by simp;omega)) (fun i j Ki hj=>h2 (i+1) (j+1) aa (by simp;omega)) fun k=>by
   constructor
   ·intro hk
    rcases List.mem_cons.1 ((h k).1 (List.mem_cons_of_mem _ hk))with e|e
    ·have:=gl k hk;omega
    ·exact e
   ·intro hk
    rcases List.mem_cons.1 ((h k).2 (List.mem_cons_of_mem _ hk))with e|e
    ·have:=gm k hk;omega
    ·exact e]
theorem RE.unique {r c:Nat} {w w':Mx} {bU piv':List Nat} (h:RE r c w bU) (h':RE r c w' piv') (hk:∀x,vp r c w x↔vp r c w' x):bU=piv'∧∀i q,i<r→q<c→w i q=w' i q:=by
 have e:bU=piv':=by
  refine HM h.inc h'.inc fun k=> ?_
  have aI:k<c→(k∈bU↔k∈piv'):=fun hc=>by
   have a:=HL h hc;have b:=HL h' hc
   constructor
   ·intro hm;refine Classical.byContradiction fun g=> ?_
    obtain⟨x,h1,h2⟩:=b.1 g
    exact a.2 ⟨x,(hk x).2 h1,h2⟩ hm
   ·intro hm;refine Classical.byContradiction fun g=> ?_
    obtain⟨x,h1,h2⟩:=a.1 g
    exact b.2 ⟨x,(hk x).1 h1,h2⟩ hm
  constructor
  ·intro hm
   obtain⟨j,hj,e⟩:=c6.1 hm
   exact(aI (by rw[←e];exact h.lt j hj)).1 hm
  ·intro hm
   obtain⟨j,hj,e⟩:=c6.1 hm
   exact(aI (by rw[←e];exact h'.lt j hj)).2 hm
 subst e
 refine⟨rfl,fun i q hi hq=> ?_⟩
 by_cases g:q∈bU
 ·obtain⟨j,hj,rfl⟩:=c6.1 g
  rw[h.unit j hj i hi,h'.unit j hj i hi]
 ·by_cases hp:i<bU.length
  ·have h1:=(hk _).1 (Gx h hq) i hi
   rw[Mq h w' hq,ai bU.length (g:=fun j=>delta i j*w j q) fun j hj=>by rw[h'.unit j hj i hi,delta],eZ,if_pos hp]at h1
   grind
  ·rw[h.low i aa hi q hq,h'.low i aa hi q hq]
theorem RE.full {r c:Nat} {w:Mx} {bU:List Nat} (h:RE r c w bU) (hc:bU.length=c):∀j,j<c→bU.getD j 0=j:=by
 have h1:∀j,j<c→j≤bU.getD j 0:=by
  intro j
  induction j with
  |zero=>intro _;exact Nat.zero_le _
  |succ j ih=>intro hj;have:=ih aa;have:=h.inc j (j+1) aa aa;omega
 have h2:∀d j,j+d+1=c→bU.getD j 0≤j:=by
  intro d
  induction d with
  |zero=>intro j hj;have:=h.lt j aa;omega
  |succ d ih=>intro j hj;have:=ih (j+1) aa;have:=h.inc j (j+1) aa aa;omega
 intro j hj
 have:=h1 j hj;have:=h2 (c - j - 1) j aa;omega
theorem RE.le {r c:Nat} {w:Mx} {bU:List Nat} (h:RE r c w bU):bU.length≤c:=by
 have h1:∀j,j<bU.length→j≤bU.getD j 0:=by
  intro j
  induction j with
  |zero=>intro _;exact Nat.zero_le _
  |succ j ih=>intro hj;have:=ih aa;have:=h.inc j (j+1) aa hj;omega
 rcases Nat.eq_zero_or_pos bU.length with e|e
 ·omega
 ·have:=h1 (bU.length - 1) aa;have:=h.lt (bU.length - 1) aa;omega
theorem yi {n:Nat} {A B:Mx} (h:∀i,i<n→∀k,A i k=B i k):bD n A=bD n B:=bn fun i k hi _=>h i hi k
theorem HN (n:Nat) (W:Mx):(if (p6 n n ⟨W,[],1⟩).bU.length<n then 0 else(p6 n n ⟨W,[],1⟩).d)=bD n W:=by
 have h:=Inv.red (r:=n) (W:=W) n
 generalize p6 n n ⟨W,[],1⟩=s at*
 obtain⟨P,h1,h2⟩:=h.UL
 have h3:bD n s.w=bD n P*bD n W:=by rw[yi h2,wh]
 by_cases g:s.bU.length<n
 ·rw[if_pos g]
  have h4:bD n s.w=0:=by
   rw[(eK n).congr s.w (setRow s.w s.bU.length fun _=>0) fun i q hi hq=>by
    by_cases e:i=s.bU.length
    ·rw[e,aR];exact h.low _ (Nat.le_refl _) g q hq
    ·rw[aS _ _ e],(eK n).zero _ g]
  rw[h4]at h3
  rcases Rat.mul_eq_zero.1 h3.symm with e|e
  ·exact absurd e (Gw h1)
  ·exact e.symm
 ·rw[if_neg g]
  have hl:=h.len
  have hf:=h.re.full aa
  have h4:bD n s.w=1:=by
   rw[bn (B:=delta) fun i q hi hq=>by
    have:=h.unit q aa i hi
    rw[hf q hq]at this;rw[this,delta],sf]
  rw[h4]at h3
  grind
def rnk (r c:Nat) (W:Mx):Nat:=(p6 r c ⟨W,[],1⟩).bU.length
theorem Ms (r c:Nat) (W:Mx):rnk r c W≤r:=(Inv.red (r:=r) (W:=W) c).len
def UM (M:Nat→List Rat) (sp:List Nat) (m k:Nat):Nat→List Rat
 |0=>(List.replicate m 0).set k 1
 |i+1=>(UM M sp m k i).set (sp.getD i 0) (- (M i).getD k 0)
theorem HO (M:Nat→List Rat) (sp:List Nat) (m k:Nat):∀i,(UM M sp m k i).length=m
 |0=>by simp[UM]
 |i+1=>by rw[UM,List.length_set,HO M sp m k i]
def kvL (M:Nat→List Rat) (sp:List Nat) (m:Nat) (k:Nat):List Rat:=UM M sp m k sp.length
def c8 (sp:List Nat) (k:Nat):List Nat:=(List.range k).filter fun q=>decide (q∉sp)
theorem qF (sp:List Nat) (k:Nat):c8 sp (k+1)=c8 sp k++if k∈sp then[]else[k]:=by
 unfold c8
 rw[List.range_succ,List.filter_append]
 by_cases h:k∈sp
 ·rw[if_pos h];simp[h]
 ·rw[if_neg h];simp[h]
theorem HP {r c m k:Nat} {w:Mx} {sp:List Nat} {M:Nat→List Rat} (h:RE r c w sp) (hk:k<m) (hn:k∉sp) (hm:c≤m) (hM:∀j,j<sp.length→(M j).getD k 0=w j k):
  ∀i,i≤sp.length→∀q,q<m→(UM M sp m k i).getD q 0=delta q k - ao i fun j=>delta q (sp.getD j 0)*w j k
 |0,_,q,hq=>by
  rw[UM,ao]
  by_cases e:q=k
  ·subst e;simp[List.getD_eq_getElem?_getD,delta,hq];grind
  ·simp[List.getD_eq_getElem?_getD,delta,e,List.getElem?_set_ne (Ne.symm e),hq];grind
 |i+1,hi,q,hq=>by
  rw[UM,ao]
  have ih:=HP h hk hn hm hM i aa q hq
  by_cases e:sp.getD i 0=q
  ·have hz:ao i (fun j=>delta q (sp.getD j 0)*w j k)=0:=bl fun j hj=>by
    rw[delta,if_neg fun g=>by have:=HK h (i:=j) (j:=i) aa aa (by rw[←g,e]);omega];grind
   have hqk:q≠k:=fun g=>hn (c6.2 ⟨i,aa,by rw[e,g]⟩)
   rw[hz,←e,List.getD_eq_getElem?_getD,List.getElem?_set_self (by rw[HO,e];exact hq),e,hM i aa,delta,if_neg hqk,delta,if_pos rfl]
   simp only[Option.getD_some];grind
  ·rw[List.getD_eq_getElem?_getD,List.getElem?_set_ne e,←List.getD_eq_getElem?_getD,ih,show delta q (sp.getD i 0)=0 from if_neg (Ne.symm e)];grind
theorem Cb {r c m k:Nat} {w:Mx} {sp:List Nat} {M:Nat→List Rat} (h:RE r c w sp) (hk:k<m) (hn:k∉sp) (hm:c≤m) (hM:∀j,j<sp.length→(M j).getD k 0=w j k) {q:Nat} (hq:q<m):
  (kvL M sp m k).getD q 0=kv w sp k q:=HP h hk hn hm hM _ (Nat.le_refl _) q hq
theorem Mt {sp:List Nat} {k q:Nat}:q∈c8 sp k↔q<k∧q∉sp:=by simp[c8]
theorem AK:∀{l:List Nat},(∀i j,i<j→j<l.length→l.getD i 0<l.getD j 0)→l.Nodup
 |[],_=>List.nodup_nil
 |a::l,h=>by
  refine List.nodup_cons.2 ⟨fun hm=> ?_,AK fun i j Ki hj=>by simpa using h (i+1) (j+1) aa (by simpa using hj)⟩
  obtain⟨j,hj,e⟩:=c6.1 hm
  have:=h 0 (j+1) aa (by simpa using hj)
  simp only[List.getD_cons_zero,List.getD_cons_succ]at this
  omega
theorem AL {k:Nat}:∀{l:List Nat},l.Nodup→k∈l→l.count k=1
 |a::l,hn,h=>by
  rw[List.count_cons]
  have hn:=List.nodup_cons.1 hn
  rcases List.mem_cons.1 h with e|e
  ·subst e;rw[List.count_eq_zero.2 hn.1];simp
  ·have g:a≠k:=fun g=>hn.1 (g▸e)
   rw[AL hn.2 e];simp[g]
theorem Ea {sp:List Nat} (hn:sp.Nodup):∀k,(c8 sp k).length+sp.countP (fun q=>decide (q<k))=k
 |0=>by simp[c8]
 |k+1=>by
  have ih:=Ea hn k
  rw[qF,List.length_append]
  have e:sp.countP (fun q=>decide (q<k+1))=sp.countP (fun q=>decide (q<k))+sp.count k:=by
   clear ih hn
   induction sp with
   |nil=>rfl
   |cons a l ih=>
    simp only[List.countP_cons,List.count_cons,ih,decide_eq_true_eq,beq_iff_eq]
    by_cases g:a=k
    ·subst g;simp;omega
    ·by_cases g2:a<k
     ·rw[if_pos aa,if_pos g2,if_neg g];omega
     ·rw[if_neg aa,if_neg g2,if_neg g];omega
  by_cases h:k∈sp
  ·rw[if_pos h,e,AL hn h];simp;omega
  ·rw[if_neg h,e,List.count_eq_zero.2 h];simp;omega
theorem RE.nodup {r c:Nat} {w:Mx} {sp:List Nat} (h:RE r c w sp):sp.Nodup:=AK h.inc
theorem RE.free {r c:Nat} {w:Mx} {sp:List Nat} (h:RE r c w sp):(c8 sp c).length+sp.length=c:=by
 have:=Ea h.nodup c
 rwa [List.countP_eq_length.2 fun q hq=>by
  obtain⟨j,hj,rfl⟩:=c6.1 hq
  exact decide_eq_true (h.lt j hj)]at this
theorem JA {r c:Nat} {W V:Mx} (h:∀i q,i<r→q<c→W i q=V i q) (x:Nat→Rat):vp r c W x↔vp r c V x:=by
 have e:∀i,i<r→ao c (fun q=>W i q*x q)=ao c (fun q=>V i q*x q):=fun i hi=>ai c fun q hq=>by rw[h i q hi hq]
 exact⟨fun g i hi=>by rw[←e i hi];exact g i hi,fun g i hi=>by rw[e i hi];exact g i hi⟩
theorem Mu {r c:Nat} {w:Mx} {sp:List Nat} (h:RE r c w sp) {z:Nat→Rat} (hz:vp r c w z) (hf:∀q,q<c→q∉sp→z q=0):∀q,q<c→z q=0:=by
 intro q hq
 by_cases g:q∈sp
 ·obtain⟨j,hj,rfl⟩:=c6.1 g
  have hjr:j<r:=Nat.lt_of_lt_of_le hj h.len
  have:=hz j hjr
  rw[dA (j:=sp.getD j 0) c hq fun q' qn a7=>by
   by_cases g':q'∈sp
   ·obtain⟨i,hi,rfl⟩:=c6.1 g'
    rw[h.unit i hi j hjr,if_neg fun e=>a7 (by rw[e])];grind
   ·rw[hf q' qn g'];grind,h.unit j hj j hjr,if_pos rfl]at this
  grind
 ·exact hf q hq g
theorem Mv (n:Nat) (W:Mx):(p6 n n ⟨W,[],1⟩).bU.length=n↔bD n W≠0:=by
 have h:=HN n W
 have hi:=Inv.red (r:=n) (W:=W) n
 obtain⟨P,h1,_⟩:=hi.UL
 have hd:(p6 n n ⟨W,[],1⟩).d≠0:=Gw (show(p6 n n ⟨W,[],1⟩).d*bD n P=1 by rw[Rat.mul_comm];exact h1)
 have hl:=hi.len
 by_cases g:(p6 n n ⟨W,[],1⟩).bU.length<n
 ·rw[if_pos g]at h
  exact⟨fun e=>aa,fun e=>absurd h.symm e⟩
 ·rw[if_neg g]at h
  exact⟨fun _=>by rw[←h];exact hd,fun _=>aa⟩
theorem Inv.rnk {r c:Nat} {W:Mx} {s:St} (h:Inv r W c s):s.bU.length=rnk r c W:=
 congrArg List.length (RE.unique h.re (Inv.red (r:=r) (W:=W) c).re fun x=>(h.ker x).trans ((Inv.red (r:=r) (W:=W) c).ker x).symm).1
theorem Inv.full {n:Nat} {W:Mx} {s:St} (h:Inv n W n s):s.bU.length=n↔bD n W≠0:=by rw[h.rnk];exact Mv n W
theorem QB {r c:Nat} {w:Mx}:vp r c w fun _=>0:=fun i _=>bl fun q _=>by grind
theorem HQ {r c:Nat} {w:Mx} {f g:Nat→Rat} (h:∀q,q<c→f q=g q):vp r c w f↔vp r c w g:=by
 unfold vp
 constructor
 ·intro k i hi;rw[←k i hi];exact ai c fun q hq=>by rw[h q hq]
 ·intro k i hi;rw[←k i hi];exact ai c fun q hq=>by rw[h q hq]
theorem Mw {r c:Nat} {a v b:List Rat} (hb:b.length=r) (h:∀i,i<r→ao c (fun q=>el a c i q*v.getD q 0)=b.getD i 0):gZ r c a v=b:=
 B4 (n:=r) nK hb fun i hi=>by rw[qC hi];exact h i hi
theorem o7 {sp:List Nat} {c i:Nat} (hi:i<(c8 sp c).length):(c8 sp c).getD i 0<c∧(c8 sp c).getD i 0∉sp:=by
 rw[List.getD_eq_getElem?_getD,List.getElem?_eq_getElem hi]
 exact Mt.1 (List.getElem_mem hi)
theorem Eb (sp:List Nat) (c:Nat) {i j:Nat} (Ki:i<j) (hj:j<(c8 sp c).length):(c8 sp c).getD i 0<(c8 sp c).getD j 0:=by
 have h:(c8 sp c).Pairwise (·<·):=List.Pairwise.filter _ List.pairwise_lt_range
 rw[List.getD_eq_getElem?_getD,List.getD_eq_getElem?_getD,List.getElem?_eq_getElem hj,List.getElem?_eq_getElem (Nat.lt_trans Ki hj)]
 exact List.pairwise_iff_getElem.1 h i j (Nat.lt_trans Ki hj) hj Ki
section
variable {r c:Nat} {w:Mx} {sp:List Nat} {M:Nat→List Rat}
theorem QC (h:RE r c w sp) (hM:∀j,j<sp.length→∀k,k<c→(M j).getD k 0=w j k) {k:Nat} (hk:k<c) (hn:k∉sp):vp r c w fun q=>(kvL M sp c k).getD q 0:=
 (HQ fun q hq=>Cb h hk hn (Nat.le_refl c) (fun j hj=>hM j hj k hk) hq).2 (Gx h hk)
theorem My (h:RE r c w sp) (hM:∀j,j<sp.length→∀k,k<c→(M j).getD k 0=w j k) {i k:Nat} (hi:i<(c8 sp c).length) (hk:k<(c8 sp c).length):(kvL M sp c ((c8 sp c).getD i 0)).getD ((c8 sp c).getD k 0) 0=if k=i then 1 else 0:=by
 obtain⟨h1,h2⟩:=o7 hi
 obtain⟨h3,h4⟩:=o7 hk
 rw[Cb h h1 h2 (Nat.le_refl c) (fun j hj=>hM j hj _ h1) h3]
 by_cases e:k=i
 ·subst e;rw[if_pos rfl];exact Ca h h2
 ·rw[if_neg e]
  refine yh h4 fun g=>e ?_
  rcases Nat.lt_trichotomy k i with l|l|l
  ·have:=Eb sp c l hi;omega
  ·exact l
  ·have:=Eb sp c l hk;omega
end
def iK (r c:Nat) (a:List Rat):List Nat:=(p6 r c ⟨el a c,[],1⟩).bU
def RW (r c:Nat) (a:List Rat):Mx:=(p6 r c ⟨el a c,[],1⟩).w
theorem AM (r c:Nat) (a:List Rat):RE r c (RW r c a) (iK r c a):=(Inv.red (r:=r) (W:=el a c) c).re
theorem Gy (r c:Nat) (a:List Rat) (x:Nat→Rat):vp r c (RW r c a) x↔vp r c (el a c) x:=(Inv.red (r:=r) (W:=el a c) c).ker x
theorem MA (r c:Nat) (a:List Rat):(iK r c a).length=rnk r c (el a c):=rfl
theorem Inv.iK {r c:Nat} {W:Mx} {s:St} {a:List Rat} (h:Inv r W c s) (hW:∀i q,i<r→q<c→W i q=el a c i q):s.bU=iK r c a∧∀i q,i<r→q<c→s.w i q=RW r c a i q:=
 RE.unique h.re (AM r c a) fun x=>(h.ker x).trans ((JA hW x).trans (Gy r c a x).symm)
def rwM (r c:Nat) (a:List Rat) (i:Nat):List Rat:=(List.range c).map (RW r c a i)
theorem Cd {r c:Nat} {a:List Rat} {i k:Nat} (hk:k<c):(rwM r c a i).getD k 0=RW r c a i k:=by simp[rwM,List.getD_eq_getElem?_getD,hk]
def KL (r c:Nat) (a:List Rat):List (List Rat):=(c8 (iK r c a) c).map (kvL (rwM r c a) (iK r c a) c)
theorem nO (r c:Nat) (a:List Rat):(KL r c a).length=(c8 (iK r c a) c).length:=List.length_map _
theorem MB (r c:Nat) (a:List Rat):(KL r c a).length+(iK r c a).length=c:=by rw[nO];exact(AM r c a).free
section
variable {r c:Nat} {a:List Rat} {i k:Nat}
theorem Gz (hi:i<(KL r c a).length):(KL r c a).getD i []=kvL (rwM r c a) (iK r c a) c ((c8 (iK r c a) c).getD i 0):=by
 rw[nO]at hi
 simp[KL,List.getD_eq_getElem?_getD,hi]
theorem GA (hi:i<(KL r c a).length):vp r c (el a c) fun q=>((KL r c a).getD i []).getD q 0:=by
 rw[Gz hi]
 rw[nO]at hi
 obtain⟨h1,h2⟩:=o7 hi
 exact(Gy r c a _).1 (QC (AM r c a) (fun j _ k hk=>Cd hk) h1 h2)
theorem Ce (hi:i<(KL r c a).length) (hk:k<(KL r c a).length):((KL r c a).getD i []).getD ((c8 (iK r c a) c).getD k 0) 0=if k=i then 1 else 0:=by
 rw[Gz hi]
 rw[nO]at hi hk
 exact My (AM r c a) (fun j _ k hk=>Cd hk) hi hk
end
def zC (r c:Nat) (a b:List Rat) (x:Nat→Rat):Prop:=∀i,i<r→ao c (fun q=>el a c i q*x q)=b.getD i 0
theorem zC.ext {r c:Nat} {a b:List Rat} {x y:Nat→Rat} (h:zC r c a b x) (he:∀q,q<c→x q=y q):zC r c a b y:=fun i hi=>by rw[←h i hi];exact ai c fun q hq=>by rw[he q hq]
theorem zC.app {r c:Nat} {a b v:List Rat} (hb:b.length=r) (h:zC r c a b fun q=>v.getD q 0):gZ r c a v=b:=Mw hb h
theorem zC.of {r c:Nat} {a v:List Rat}:zC r c a (gZ r c a v) fun q=>v.getD q 0:=fun i hi=>by rw[qC hi]
theorem zC.add {r c:Nat} {a b:List Rat} {x y:Nat→Rat} (t:Rat) (h:zC r c a b x) (hk:vp r c (el a c) y):zC r c a b fun q=>t*y q+x q:=by
 intro i hi
 have e:ao c (fun q=>el a c i q*(t*y q+x q))=t*ao c (fun q=>el a c i q*y q)+ao c (fun q=>el a c i q*x q):=by
  rw[←sum_smul,←sum_add];exact ai c fun q _=>by grind
 rw[e,h i hi,hk i hi];grind
theorem zC.sub {r c:Nat} {a b:List Rat} {x y:Nat→Rat} (h:zC r c a b x) (h':zC r c a b y):vp r c (el a c) fun q=>x q - y q:=by
 intro i hi
 have e:ao c (fun q=>el a c i q*(x q - y q))=ao c (fun q=>el a c i q*x q)+(-1)*ao c (fun q=>el a c i q*y q):=by
  rw[←sum_smul,←sum_add];exact ai c fun q _=>by grind
 rw[e,h i hi,h' i hi];grind
theorem zC.eq {r c:Nat} {a b:List Rat} {x y:Nat→Rat} (h:zC r c a b x) (h':zC r c a b y) (hf:∀q,q<c→q∉iK r c a→x q=y q):∀q,q<c→x q=y q:=by
 intro q hq
 have:=Mu (AM r c a) ((Gy r c a _).2 (h.sub h')) (fun q hq hn=>by rw[hf q hq hn];grind) q hq
 grind
section
variable {r c:Nat} {W:Mx} {s:St} {a b:List Rat} (hi:Inv r W c s) (hW:∀i q,i<r→q<c→W i q=el a c i q) (hb:∀i,i<r→W i c=b.getD i 0)
include hi hW hb
end
def qf (n:Nat) (A:Mx) (x:Nat→Rat):Rat:=ao n fun i=>ao n fun k=>x i*A i k*x k
theorem dY {n:Nat} {A:Mx} {x y:Nat→Rat} (h:∀i,i<n→x i=y i):qf n A x=qf n A y:=
 ai n fun i hi=>ai n fun k hk=>by rw[h i hi,h k hk]
theorem iL {n:Nat} {A B:Mx} {x:Nat→Rat} (h:∀i k,i<n→k<n→A i k=B i k):qf n A x=qf n B x:=
 ai n fun i hi=>ai n fun k hk=>by rw[h i k hi hk]
theorem dI (n:Nat) (s:Rat) (A:Mx) (x:Nat→Rat):qf n (fun i k=>s*A i k) x=s*qf n A x:=by
 unfold qf
 rw[←sum_smul]
 refine ai n fun i _=> ?_
 rw[←sum_smul]
 exact ai n fun k _=>by grind
theorem uy (n:Nat) (A B:Mx) (x:Nat→Rat):qf n (fun i k=>A i k+B i k) x=qf n A x+qf n B x:=by
 unfold qf
 rw[←sum_add]
 refine ai n fun i _=> ?_
 rw[←sum_add]
 exact ai n fun k _=>by grind
def comb (k:Nat) (c:Nat→Rat) (V:Mx):Nat→Rat:=fun i=>ao k fun j=>c j*V j i
structure MC (n:Nat) (T:(Nat→Rat)→Nat→Rat):Prop where
 uf:∀(c:Rat) (x y:Nat→Rat) i,i<n→T (fun q=>c*x q+y q) i=c*T x i+T y i
 Cf:∀x y,(∀i,i<n→x i=y i)→∀i,i<n→T x i=T y i
theorem MC.zero {n:Nat} {T:(Nat→Rat)→Nat→Rat} (h:MC n T) {i:Nat} (hi:i<n):T (fun _=>0) i=0:=by
 have e:=h.uf 1 (fun _=>0) (fun _=>0) i hi
 have e2:=h.Cf (fun q=>1*(0:Rat)+0) (fun _=>0) (fun _ _=>by grind) i hi
 rw[e2]at e;grind
theorem MC.HR {n:Nat} {T:(Nat→Rat)→Nat→Rat} (h:MC n T) (c:Nat→Rat) (V:Mx):∀k i,i<n→T (comb k c V) i=comb k c (fun j=>T (V j)) i
 |0,i,hi=>h.zero hi
 |k+1,i,hi=>by
  show T (comb (k+1) c V) i=comb k c (fun j=>T (V j)) i+c k*T (V k) i
  rw[←MC.HR h c V k i hi]
  have e:=h.uf (c k) (V k) (comb k c V) i hi
  rw[h.Cf (fun q=>c k*V k q+comb k c V q) (comb (k+1) c V) (fun q _=>by show c k*V k q+comb k c V q=comb k c V q+c k*V k q;grind) i hi]at e
  rw[e];grind
structure Ch (n:Nat) (T S:(Nat→Rat)→Nat→Rat):Prop where
 uf:MC n T
 GB:MC n S
 inv:∀x i,i<n→T (S x) i=x i
 MD:∀x i,i<n→S (T x) i=x i
theorem Ch.id (n:Nat):Ch n (fun x=>x) (fun x=>x):=⟨⟨fun _ _ _ _ _=>rfl,fun _ _ h=>h⟩,⟨fun _ _ _ _ _=>rfl,fun _ _ h=>h⟩,fun _ _ _=>rfl,fun _ _ _=>rfl⟩
theorem MC.trans {n:Nat} {T U:(Nat→Rat)→Nat→Rat} (h:MC n T) (g:MC n U):MC n fun x=>T (U x):=
 ⟨fun c x y i hi=>by rw[←h.uf c (U x) (U y) i hi];exact h.Cf _ _ (fun q hq=>g.uf c x y q hq) i hi,fun x y hxy i hi=>h.Cf _ _ (g.Cf x y hxy) i hi⟩
theorem Ch.trans {n:Nat} {T S U V:(Nat→Rat)→Nat→Rat} (h:Ch n T S) (g:Ch n U V):Ch n (fun x=>T (U x)) (fun x=>V (S x)) where
 uf:=h.uf.trans g.uf
 GB:=g.GB.trans h.GB
 inv x i hi:=by rw[h.uf.Cf _ _ (fun q hq=>g.inv (S x) q hq) i hi];exact h.inv x i hi
 MD x i hi:=by rw[g.GB.Cf _ _ (fun q hq=>h.MD (U x) q hq) i hi];exact g.MD x i hi
theorem Ch.symm {n:Nat} {T S:(Nat→Rat)→Nat→Rat} (h:Ch n T S):Ch n S T:=⟨h.GB,h.uf,h.MD,h.inv⟩
def et (n:Nat) (A:Mx) (k:Nat):Prop:=∃V:Mx,∀c:Nat→Rat,(∃j,j<k∧c j≠0)→0<qf n A (comb k c V)
theorem et.mono {n k:Nat} {A B:Mx} (h:∀x,qf n A x≤qf n B x) (hk:et n A k):et n B k:=by
 obtain⟨V,hV⟩:=hk
 exact⟨V,fun c hc=>by have h1:=hV c hc;have h2:=h (comb k c V);grind⟩
theorem et.congr {n k:Nat} {A B:Mx} (h:∀i j,i<n→j<n→A i j=B i j):et n A k↔et n B k:=by
 constructor
 ·exact et.mono fun x=>by rw[iL h];exact Rat.le_refl
 ·exact et.mono fun x=>by rw[iL h];exact Rat.le_refl
theorem et.iso {n k:Nat} {A B:Mx} {T S:(Nat→Rat)→Nat→Rat} (hT:Ch n T S) (h:∀x,qf n B x=qf n A (T x)) (hk:et n B k):et n A k:=by
 obtain⟨V,hV⟩:=hk
 refine⟨fun j=>T (V j),fun c hc=> ?_⟩
 have:=hV c hc
 rw[h]at this
 rwa [dY (y:=comb k c fun j=>T (V j)) fun i hi=>hT.uf.HR c V k i hi]at this
def Cg (n:Nat) (A B:Mx):Prop:=∃T S,Ch n T S∧∀x,qf n B x=qf n A (T x)
theorem Cg.refl (n:Nat) (A:Mx):Cg n A A:=⟨_,_,Ch.id n,fun _=>rfl⟩
theorem Cg.trans {n:Nat} {A B C:Mx} (h:Cg n A B) (g:Cg n B C):Cg n A C:=by
 obtain⟨T,S,h1,h2⟩:=h
 obtain⟨U,V,g1,g2⟩:=g
 exact⟨_,_,h1.trans g1,fun x=>by rw[g2,h2]⟩
theorem Cg.symm {n:Nat} {A B:Mx} (h:Cg n A B):Cg n B A:=by
 obtain⟨T,S,h1,h2⟩:=h
 exact⟨_,_,h1.symm,fun x=>by rw[h2];exact(dY fun i hi=>h1.inv x i hi).symm⟩
theorem Cg.congr {n:Nat} {A B C:Mx} (h:Cg n A B) (e:∀i k,i<n→k<n→B i k=C i k):Cg n A C:=by
 obtain⟨T,S,h1,h2⟩:=h
 exact⟨T,S,h1,fun x=>by rw[←h2];exact(iL e).symm⟩
theorem Cg.vK {n k:Nat} {A B:Mx} (h:Cg n A B):et n A k↔et n B k:=by
 obtain⟨T,S,h1,h2⟩:=h
 exact⟨et.iso h1.symm fun x=>by rw[h2];exact(dY fun i hi=>h1.inv x i hi).symm,et.iso h1 h2⟩
theorem Cg.neg {n:Nat} {A B:Mx} (h:Cg n A B):Cg n (fun i k=> -1*A i k) (fun i k=> -1*B i k):=by
 obtain⟨T,S,h1,h2⟩:=h
 exact⟨T,S,h1,fun x=>by rw[dI,dI,h2]⟩
theorem Ci {p k:Nat} (h:p<k) (V:Mx):∃c:Nat→Rat,(∃j,j<k∧c j≠0)∧∀a,a<p→ao k (fun j=>c j*V j a)=0:=by
 have e:=MB p k (mk p k fun a j=>V j a)
 have hr:=Ms p k (el (mk p k fun a j=>V j a) k)
 rw[←MA]at hr
 have h0:0<(KL p k (mk p k fun a j=>V j a)).length:=aa
 refine⟨fun j=>((KL p k (mk p k fun a j=>V j a)).getD 0 []).getD j 0,⟨(c8 (iK p k (mk p k fun a j=>V j a)) k).getD 0 0,(o7 (by rw[←nO];exact h0)).1, ?_⟩,fun a ha=> ?_⟩
 ·show((KL p k (mk p k fun a j=>V j a)).getD 0 []).getD _ 0≠0
  rw[Ce h0 h0,if_pos rfl];decide
 ·exact(ai k fun j hj=>by rw[r8 ha hj,Rat.mul_comm]).trans (GA h0 a ha)
def cF (n:Nat) (p:Nat→Bool):Nat:=((List.range n).filter p).length
theorem c7 (n:Nat) (p:Nat→Bool):cF (n+1) p=cF n p+if p n then 1 else 0:=by
 unfold cF
 rw[List.range_succ,List.filter_append,List.length_append]
 congr 1
 cases h:p n<;>simp[h]
theorem qG:∀{n:Nat} {f:Nat→Rat},(∀i,i<n→0≤f i)→0≤ao n f
 |0,_,_=>Rat.le_refl
 |n+1,f,h=>by
  rw[ao]
  have h1:=qG (n:=n) fun i hi=>h i aa
  have h2:=h n aa
  grind
theorem ME {n:Nat} {f:Nat→Rat} (h:∀i,i<n→f i≤0):ao n f≤0:=by
 have e:ao n (fun i=> -1*f i)= -1*ao n f:=sum_smul _ _ _
 have:=qG (n:=n) (f:=fun i=> -1*f i) fun i hi=>by have:=h i hi;grind
 grind
theorem pL:∀{n:Nat} {f:Nat→Rat},(∀i,i<n→0≤f i)→(∃i,i<n∧0<f i)→0<ao n f
 |0,_,_,⟨i,hi,_⟩=>aa
 |n+1,f,h,⟨i,hi,hp⟩=>by
  rw[ao]
  have h1:=qG (n:=n) fun i hi=>h i aa
  have h2:=h n aa
  by_cases e:i=n
  ·subst e;grind
  ·have:=pL (n:=n) (fun i hi=>h i aa) ⟨i,aa,hp⟩
   grind
theorem kX (x:Rat):0≤x*x:=by
 rcases Rat.le_total (a:=0) (b:=x)with h|h
 ·exact Rat.mul_nonneg h h
 ·have:=Rat.mul_nonneg (show(0:Rat)≤ -x by grind) (show(0:Rat)≤ -x by grind)
  grind
theorem sq_pos {x:Rat} (h:x≠0):0<x*x:=by
 have h1:=kX x
 have h2:x*x≠0:=fun g=>(Rat.mul_eq_zero.1 g).elim h h
 grind
def na (d:Nat→Rat):Mx:=fun i k=>if i=k then d i else 0
theorem vq (n:Nat) (d x:Nat→Rat):qf n (na d) x=ao n fun i=>d i*(x i*x i):=by
 refine ai n fun i hi=> ?_
 rw[dA (j:=i) _ hi fun k _ a7=>by unfold na;rw[if_neg (Ne.symm a7)];grind]
 unfold na;rw[if_pos rfl];grind
theorem o8 {n:Nat} {p:Nat→Bool} {a:Nat} (ha:a<cF n p):((List.range n).filter p).getD a 0<n∧p (((List.range n).filter p).getD a 0)=true:=by
 unfold cF at ha
 rw[List.getD_eq_getElem?_getD,List.getElem?_eq_getElem ha]
 have:=List.getElem_mem ha
 rw[List.mem_filter,List.mem_range]at this
 exact this
theorem Ec {n:Nat} {p:Nat→Bool} {i:Nat} (hi:i<n) (hp:p i=true):∃a,a<cF n p∧((List.range n).filter p).getD a 0=i:=by
 have:i∈(List.range n).filter p:=by rw[List.mem_filter,List.mem_range];exact⟨hi,hp⟩
 obtain⟨a,ha,e⟩:=List.getElem_of_mem this
 exact⟨a,ha,by rw[List.getD_eq_getElem?_getD,List.getElem?_eq_getElem ha];exact e⟩
theorem Ed {n:Nat} {p:Nat→Bool} {a b:Nat} (ha:a<cF n p) (hb:b<cF n p) (h:((List.range n).filter p).getD a 0=((List.range n).filter p).getD b 0):a=b:=by
 have hw:((List.range n).filter p).Pairwise (·<·):=List.Pairwise.filter _ List.pairwise_lt_range
 unfold cF at ha hb
 rw[List.getD_eq_getElem?_getD,List.getD_eq_getElem?_getD,List.getElem?_eq_getElem ha,List.getElem?_eq_getElem hb]at h
 rcases Nat.lt_trichotomy a b with g|g|g
 ·have:=List.pairwise_iff_getElem.1 hw a b ha hb g
  simp only[Option.getD_some]at h;omega
 ·exact g
 ·have:=List.pairwise_iff_getElem.1 hw b a hb ha g
  simp only[Option.getD_some]at h;omega
def Ee (n:Nat) (d:Nat→Rat) (a:Nat):Nat:=((List.range n).filter fun i=>decide (0<d i)).getD a 0
def yj (n:Nat) (d:Nat→Rat):Mx:=fun j i=>if Ee n d j=i then 1 else 0
theorem iW {n k:Nat} {d:Nat→Rat}:et n (na d) k↔k≤cF n fun i=>decide (0<d i):=by
 constructor
 ·rintro⟨V,hV⟩
  refine Nat.le_of_not_lt fun aI=> ?_
  obtain⟨c,hc,h0⟩:=Ci aI fun j a=>V j (((List.range n).filter fun i=>decide (0<d i)).getD a 0)
  have h1:=hV c hc
  rw[vq]at h1
  have h2:ao n (fun i=>d i*(comb k c V i*comb k c V i))≤0:=ME fun i hi=>by
   by_cases hd:0<d i
   ·obtain⟨a,ha,e⟩:=Ec (p:=fun i=>decide (0<d i)) hi (decide_eq_true hd)
    have:=h0 a ha
    rw[e]at this
    show d i*(comb k c V i*comb k c V i)≤0
    rw[show comb k c V i=0 from this];grind
   ·have h3:=kX (comb k c V i)
    have h4:=Rat.mul_nonneg (show(0:Rat)≤ - d i by grind) h3
    grind
  grind
 ·intro hk
  refine⟨yj n d,fun c ⟨j,hj,a7⟩=> ?_⟩
  rw[vq]
  have hg:=fun a (ha:a<k)=>o8 (n:=n) (p:=fun i=>decide (0<d i)) (a:=a) aa
  have bF:∀a,a<k→comb k c (yj n d) (Ee n d a)=c a:=fun a ha=>by
   show ao k (fun j=>c j*yj n d j (Ee n d a))=c a
   rw[dA (j:=a) k ha fun b hb a7=>by unfold yj;rw[if_neg (show ¬Ee n d b=Ee n d a from fun e=>a7 (Ed (p:=fun i=>decide (0<d i)) aa aa e))];grind]
   unfold yj;rw[if_pos rfl];grind
  have ahz:∀i,i<n→¬0<d i→comb k c (yj n d) i=0:=fun i hi hd=>
   bl fun b hb=>by unfold yj;rw[if_neg (show ¬Ee n d b=i from fun e=>hd (by have:=(hg b hb).2;unfold Ee at e;rw[e]at this;exact of_decide_eq_true this))];grind
  refine pL (fun i hi=> ?_) ⟨_,(hg j hj).1, ?_⟩
  ·by_cases hd:0<d i
   ·exact Rat.mul_nonneg (by grind) (kX _)
   ·rw[ahz i hi hd];grind
  ·have e:=bF j hj
   unfold Ee at e
   rw[e]
   exact Rat.mul_pos (of_decide_eq_true (hg j hj).2) (sq_pos a7)
def kY (X:Mx) (t f:Nat) (c:Rat):Mx:=fun j l=>X j l+(if j=t then c*X f l else 0)+(if l=t then c*X j f else 0)+(if j=t then(if l=t then c*c*X f f else 0)else 0)
theorem mN {n t:Nat} (ht:t<n) (g:Nat→Rat):ao n (fun k=>if k=t then g k else 0)=g t:=by
 rw[dA (j:=t) n ht fun i _ a7=>if_neg a7,if_pos rfl]
theorem QD {n t f:Nat} {X:Mx} {c:Rat} {x:Nat→Rat} (ht:t<n) (hf:f<n):qf n (kY X t f c) x=qf n X fun i=>if i=f then x i+c*x t else x i:=by
 have hL:∀i,i<n→ao n (fun k=>x i*kY X t f c i k*x k)=x i*ao n (fun k=>X i k*x k)+(if i=t then x i*c*ao n (fun k=>X f k*x k)else 0)+x i*(c*X i f*x t)+(if i=t then x i*(c*c*X f f*x t)else 0):=fun i hi=>by
  rw[ai n (g:=fun k=>((x i*(X i k*x k)+(if i=t then x i*c else 0)*(X f k*x k))+(if k=t then x i*(c*X i f*x k)else 0))+(if k=t then(if i=t then x i*(c*c*X f f*x k)else 0)else 0)) fun k _=>by
   unfold kY
   by_cases h1:i=t
   ·by_cases h2:k=t
    ·rw[if_pos h1,if_pos h2,if_pos h1,if_pos h2,if_pos h1,if_pos h2,if_pos h2,if_pos h1];grind
    ·rw[if_pos h1,if_neg h2,if_pos h1,if_neg h2,if_pos h1,if_neg h2,if_neg h2];grind
   ·by_cases h2:k=t
    ·rw[if_neg h1,if_pos h2,if_neg h1,if_neg h1,if_pos h2,if_pos h2,if_neg h1];grind
    ·rw[if_neg h1,if_neg h2,if_neg h1,if_neg h1,if_neg h2,if_neg h2];grind]
  rw[sum_add,sum_add,sum_add,sum_smul,sum_smul,mN ht,mN ht]
  by_cases h1:i=t
  ·rw[if_pos h1,if_pos h1,if_pos h1]
  ·rw[if_neg h1,if_neg h1,if_neg h1];grind
 have hR:∀i,i<n→ao n (fun k=>(if i=f then x i+c*x t else x i)*X i k*(if k=f then x k+c*x t else x k))=(x i*ao n (fun k=>X i k*x k)+x i*(c*X i f*x t))+(if i=f then c*x t*(ao n (fun k=>X f k*x k)+c*x t*X f f)else 0):=fun i hi=>by
  rw[ai n (g:=fun k=>(if i=f then x i+c*x t else x i)*(X i k*x k)+(if k=f then(if i=f then x i+c*x t else x i)*(X i k*(c*x t))else 0)) fun k _=>by
   by_cases h2:k=f
   ·rw[if_pos h2,if_pos h2];grind
   ·rw[if_neg h2,if_neg h2];grind]
  rw[sum_add,sum_smul,mN hf]
  by_cases h1:i=f
  ·rw[if_pos h1,if_pos h1,h1];grind
  ·rw[if_neg h1,if_neg h1];grind
 show ao n (fun i=>ao n fun k=>x i*kY X t f c i k*x k)=ao n (fun i=>ao n fun k=>(if i=f then x i+c*x t else x i)*X i k*(if k=f then x k+c*x t else x k))
 rw[ai n hL,ai n hR,sum_add,sum_add,sum_add,sum_add,sum_add,mN ht (fun i=>x i*c*ao n (fun k=>X f k*x k)),mN ht (fun i=>x i*(c*c*X f f*x t)),mN hf (fun _=>c*x t*(ao n (fun k=>X f k*x k)+c*x t*X f f))]
 grind
theorem HS {n t f:Nat} (X:Mx) (c:Rat) (ht:t<n) (hf:f<n) (a7:t≠f):Cg n X (kY X t f c):=by
 refine⟨fun x i=>if i=f then x i+c*x t else x i,fun x i=>if i=f then x i+(-c)*x t else x i,⟨⟨fun a x y i hi=> ?_,fun x y h i hi=> ?_⟩,⟨fun a x y i hi=> ?_,fun x y h i hi=> ?_⟩,fun x i hi=> ?_,fun x i hi=> ?_⟩,fun x=>QD ht hf⟩
 ·by_cases e:i=f
  ·simp only[if_pos e];grind
  ·simp only[if_neg e]
 ·simp only[h i hi,h t ht]
 ·by_cases e:i=f
  ·simp only[if_pos e];grind
  ·simp only[if_neg e]
 ·simp only[h i hi,h t ht]
 ·by_cases e:i=f
  ·simp only[if_pos e,if_neg a7];grind
  ·simp only[if_neg e]
 ·by_cases e:i=f
  ·simp only[if_pos e,if_neg a7];grind
  ·simp only[if_neg e]
def cZ (n:Nat) (X:Mx):Prop:=∀j l,j<n→l<n→X j l=X l j
theorem MF {n t f:Nat} {X:Mx} {c:Rat} (h:cZ n X) (ht:t<n) (hf:f<n):cZ n (kY X t f c):=by
 intro j l hj hl
 unfold kY
 rw[h j l hj hl,h f l hf hl,h j f hj hf]
 by_cases h1:j=t
 ·by_cases h2:l=t
  ·rw[if_pos h1,if_pos h2];simp only[if_pos h1,if_pos h2];grind
  ·simp only[if_pos h1,if_neg h2];grind
 ·by_cases h2:l=t
  ·simp only[if_neg h1,if_pos h2];grind
  ·simp only[if_neg h1,if_neg h2]
def hO (X:Mx) (i k:Nat):Mx:=fun j l=>if (j<k∧j≠i)∨(l<k∧l≠i)then X j l - X j i*X i l/X i i else X j l
theorem Ef (X:Mx) (i:Nat):hO X i 0=X:=by
 funext j l
 unfold hO
 rw[if_neg aa]
section
variable {n i k:Nat} {X:Mx} (hs:cZ n X) (hi:i<n) (hk:k<n) (hp:X i i≠0)
include hs hi hk
theorem MG (h0:X k i=0) (a7:k≠i):∀j l,j<n→l<n→hO X i (k+1) j l=hO X i k j l:=by
 intro j l hj hl
 have h1:X i k=0:=by rw[hs i k hi hk,h0]
 unfold hO
 by_cases e1:(j<k∧j≠i)∨(l<k∧l≠i)
 ·rw[if_pos e1,if_pos aa]
 ·rw[if_neg e1]
  by_cases e2:j=k
  ·subst e2;rw[if_pos aa,h0];grind
  ·by_cases e3:l=k
   ·subst e3;rw[if_pos aa,h1];grind
   ·rw[if_neg aa]
omit hs hi hk in
theorem Eg:hO X i (i+1)=hO X i i:=by
 funext j l
 unfold hO
 by_cases e1:(j<i∧j≠i)∨(l<i∧l≠i)
 ·rw[if_pos e1,if_pos aa]
 ·rw[if_neg e1,if_neg aa]
include hp
theorem Eh (a7:k≠i):∀j l,j<n→l<n→kY (hO X i k) k i (-(X k i/X i i)) j l=hO X i (k+1) j l:=by
 intro j l hj hl
 have hki:hO X i k k i=X k i:=by unfold hO;rw[if_neg aa]
 have hii:hO X i k i i=X i i:=by unfold hO;rw[if_neg aa]
 have QE:∀l,hO X i k i l=if l<k∧l≠i then 0 else X i l:=fun l=>by
  unfold hO
  by_cases g:l<k∧l≠i
  ·rw[if_pos aa,if_pos g,Rat.div_def]
   have:X i i*(X i i)⁻¹=1:=Rat.mul_inv_cancel _ hp
   grind
  ·rw[if_neg aa,if_neg g]
 have vH:∀j,hO X i k j i=if j<k∧j≠i then 0 else X j i:=fun j=>by
  unfold hO
  by_cases g:j<k∧j≠i
  ·rw[if_pos aa,if_pos g,Rat.div_def]
   have:X i i*(X i i)⁻¹=1:=Rat.mul_inv_cancel _ hp
   grind
  ·rw[if_neg aa,if_neg g]
 have Pj:=hs i k hi hk
 have oJ:X i i*(X i i)⁻¹=1:=Rat.mul_inv_cancel _ hp
 unfold kY
 rw[hii,QE,vH]
 by_cases e1:j=k
 ·subst e1
  by_cases e2:l=j
  ·subst e2
   simp only[if_true]
   rw[if_neg aa,if_neg aa]
   unfold hO
   rw[if_neg aa,if_pos aa,Rat.div_def,Rat.div_def]
   grind
  ·simp only[if_true,if_neg e2]
   by_cases g:l<j∧l≠i
   ·rw[if_pos g]
    unfold hO
    rw[if_pos aa,if_pos aa];grind
   ·rw[if_neg g]
    unfold hO
    rw[if_neg aa,if_pos aa,Rat.div_def,Rat.div_def];grind
 ·simp only[if_neg e1]
  by_cases e2:l=k
  ·subst e2
   simp only[if_true]
   by_cases g:j<l∧j≠i
   ·rw[if_pos g]
    unfold hO
    rw[if_pos aa,if_pos aa];grind
   ·rw[if_neg g]
    unfold hO
    rw[if_neg aa,if_pos aa,Rat.div_def,Rat.div_def];grind
  ·simp only[if_neg e2]
   unfold hO
   by_cases g:(j<k∧j≠i)∨(l<k∧l≠i)
   ·rw[if_pos g,if_pos aa];grind
   ·rw[if_neg g,if_neg aa];grind
end
theorem QF {n i k:Nat} {X:Mx} (hs:cZ n X) (hi:i<n):cZ n (hO X i k):=by
 intro j l hj hl
 unfold hO
 rw[hs j l hj hl,hs j i hj hi,hs i l hi hl]
 by_cases g:(j<k∧j≠i)∨(l<k∧l≠i)
 ·rw[if_pos g,if_pos aa]
  rw[Rat.mul_comm]
 ·rw[if_neg g,if_neg aa]
theorem MH {n i:Nat} {X:Mx} (hs:cZ n X) (hi:i<n) (hp:X i i≠0):∀k,k≤n→Cg n X (hO X i k)
 |0,_=>by rw[Ef];exact Cg.refl n X
 |k+1,h=>by
  have ih:=MH hs hi hp k aa
  by_cases e:k=i
  ·subst e;rw[Eg];exact ih
  ·exact(ih.trans (HS _ (-(X k i/X i i)) aa hi e)).congr (Eh hs hi aa hp e)
structure p7 (n:Nat) (A X:Mx) (done:Nat→Bool):Prop where
 sym:cZ n X
 cg:Cg n A X
 dn:∀j,j<n→done j=true→X j j≠0∧∀l,l<n→l≠j→X j l=0
theorem p7.start {n:Nat} {A:Mx} (h:cZ n A):p7 n A A fun _=>false:=⟨h,Cg.refl n A,fun _ _ h=>by cases h⟩
theorem p7.col {n:Nat} {A X:Mx} {done:Nat→Bool} (h:p7 n A X done) {j l:Nat} (hj:j<n) (hl:l<n) (hd:done j=true) (a7:l≠j):X l j=0:=by rw[h.sym l j hl hj];exact(h.dn j hj hd).2 l hl a7
theorem p7.mix {n i k:Nat} {A X:Mx} {done:Nat→Bool} (h:p7 n A X done) (hi:i<n) (hk:k<n) (di:done i=false) (dk:done k=false) (h0:∀j,j<n→done j=false→X j j=0) (hx:X i k≠0):p7 n A (kY X i k 1) done∧kY X i k 1 i i≠0:=by
 have a7:i≠k:=fun e=>hx (by rw[←e];exact h0 i hi di)
 refine⟨⟨MF h.sym hi hk,h.cg.trans (HS X 1 hi hk a7),fun j hj hd=> ?_⟩, ?_⟩
 ·have vH:j≠i:=fun e=>by rw[e,di]at hd;cases hd
  have C8:j≠k:=fun e=>by rw[e,dk]at hd;cases hd
  obtain⟨h1,h2⟩:=h.dn j hj hd
  have h3:=h2 k hk (Ne.symm C8)
  unfold kY
  simp only[if_neg vH,h3]
  refine⟨?_,fun l hl hlj=> ?_⟩
  ·intro g;apply h1;grind
  ·rw[h2 l hl hlj];grind
 ·unfold kY
  simp only[if_true]
  rw[h0 i hi di,h0 k hk dk,h.sym k i hk hi]
  intro g
  apply hx
  grind
theorem p7.bU {n i:Nat} {A X:Mx} {done:Nat→Bool} (h:p7 n A X done) (hi:i<n) (hp:X i i≠0):p7 n A (hO X i n) (fun j=>done j||decide (j=i))∧(∀j,j<n→done j=true→hO X i n j j=X j j)∧hO X i n i i=X i i:=by
 have oJ:X i i*(X i i)⁻¹=1:=Rat.mul_inv_cancel _ hp
 have hii:hO X i n i i=X i i:=by unfold hO;rw[if_neg aa]
 have hdj:∀j,j<n→done j=true→j≠i→∀l,l<n→hO X i n j l=X j l:=fun j hj hd a7 l hl=>by
  have:=(h.dn j hj hd).2 i hi (Ne.symm a7)
  unfold hO
  split
  ·rw[this,Rat.div_def];grind
  ·rfl
 refine⟨⟨QF h.sym hi,h.cg.trans (MH h.sym hi hp n (Nat.le_refl _)),fun j hj hd=> ?_⟩,fun j hj hd=> ?_,hii⟩
 ·by_cases e:j=i
  ·subst e
   rw[hii]
   refine⟨hp,fun l hl a7=> ?_⟩
   unfold hO
   rw[if_pos (.inr ⟨hl,a7⟩),Rat.div_def]
   grind
  ·have Fv:done j=true:=by simpa [e]using hd
   rw[hdj j hj Fv e j hj]
   exact⟨(h.dn j hj Fv).1,fun l hl a7=>by rw[hdj j hj Fv e l hl];exact(h.dn j hj Fv).2 l hl a7⟩
 ·by_cases e:j=i
  ·subst e;exact hii
  ·exact hdj j hj hd e j hj
structure cK (n:Nat) (A:Mx) (m z p:Nat):Prop where
 pos:∀k,et n A k↔k≤p
 neg:∀k,et n (fun i k=> -1*A i k) k↔k≤m
 sum:m+z+p=n
theorem cK.unique {n:Nat} {A:Mx} {m z p m' z' p':Nat} (h:cK n A m z p) (g:cK n A m' z' p'):m=m'∧z=z'∧p=p':=by
 have h1:=(g.pos p).1 ((h.pos p).2 (Nat.le_refl _))
 have h2:=(h.pos p').1 ((g.pos p').2 (Nat.le_refl _))
 have h3:=(g.neg m).1 ((h.neg m).2 (Nat.le_refl _))
 have h4:=(h.neg m').1 ((g.neg m').2 (Nat.le_refl _))
 have h5:=h.sum
 have h6:=g.sum
 omega
theorem fa {p q:Nat→Bool}:∀{n:Nat},(∀i,i<n→p i=q i)→cF n p=cF n q
 |0,_=>rfl
 |n+1,h=>by rw[c7,c7,fa (n:=n) fun i hi=>h i aa,h n aa]
theorem pM (p:Nat→Bool):∀n,cF n p≤n
 |0=>Nat.le_refl _
 |n+1=>by rw[c7];have:=pM p n;split<;>omega
theorem sn {p q:Nat→Bool} {i:Nat}:∀{n:Nat},i<n→p i=false→(∀j,j<n→j≠i→q j=p j)→cF n q=cF n p+if q i then 1 else 0
 |0,h,_,_=>aa
 |n+1,h,hp,hq=>by
  rw[c7,c7]
  by_cases e:i=n
  ·subst e
   rw[hp,fa (n:=i) fun j hj=>hq j aa aa]
   simp
  ·rw[sn (n:=n) aa hp fun j hj=>hq j aa,hq n aa aa]
   omega
theorem Ei {d p q:Nat→Bool}:∀{n:Nat},(∀j,j<n→d j=true→(p j != q j)=true)→cF n (fun j=>d j&&p j)+cF n (fun j=>d j&&q j)=cF n d
 |0,_=>rfl
 |n+1,h=>by
  rw[c7,c7,c7]
  have ih:=Ei (n:=n) (d:=d) (p:=p) (q:=q) fun j hj=>h j aa
  have h1:=h n aa
  cases hd:d n
  ·simp only[Bool.false_and];simp;omega
  ·have h2:=h1 hd
   cases hp:p n<;>cases hq:q n<;>simp_all<;>omega
theorem p7.UN {n:Nat} {A X:Mx} {done:Nat→Bool} (h:p7 n A X done) (h0:∀j l,j<n→l<n→done j=false→done l=false→X j l=0):
  cK n A (cF n fun j=>done j&&decide (X j j<0)) (n - cF n done) (cF n fun j=>done j&&decide (0<X j j)):=by
 have hX:∀j l,j<n→l<n→X j l=na (fun j=>X j j) j l:=fun j l hj hl=>by
  unfold na
  by_cases e:j=l
  ·subst e;rw[if_pos rfl]
  ·rw[if_neg e]
   cases hd:done j with
   |true=>exact(h.dn j hj hd).2 l hl (Ne.symm e)
   |false=>
    cases gI:done l with
    |true=>exact h.col hl hj gI e
    |false=>exact h0 j l hj hl hd gI
 have hcg:=h.cg.congr hX
 have afp:∀j,j<n→done j=false→X j j=0:=fun j hj hd=>h0 j j hj hj hd hd
 refine⟨fun k=> ?_,fun k=> ?_, ?_⟩
 ·rw[hcg.vK,iW]
  rw[fa (q:=fun j=>done j&&decide (0<X j j)) fun j hj=>by
   cases hd:done j
   ·rw[afp j hj hd];rfl
   ·rfl]
 ·rw[hcg.neg.vK,et.congr (B:=na fun j=> -1*X j j) fun i j _ _=>by unfold na;split<;>grind,iW]
  rw[fa (q:=fun j=>done j&&decide (X j j<0)) fun j hj=>by
   cases hd:done j
   ·show decide (0< -1*X j j)=(false&&decide (X j j<0))
    rw[afp j hj hd,Bool.false_and];exact decide_eq_false (by grind)
   ·show decide (0< -1*X j j)=(true&&decide (X j j<0))
    rw[Bool.true_and]
    exact decide_eq_decide.2 ⟨fun g=>by grind,fun g=>by grind⟩]
 ·have h1:=Ei (n:=n) (d:=done) (p:=fun j=>decide (X j j<0)) (q:=fun j=>decide (0<X j j)) fun j hj hd=>by
   have h2:=(h.dn j hj hd).1
   by_cases g:X j j<0
   ·have g2:¬0<X j j:=by grind
    simp[g,g2]
   ·have g2:0<X j j:=by grind
    simp[g,g2]
  have h3:=pM done n
  omega
theorem cK.congr {n m z p:Nat} {A B:Mx} (h:cK n A m z p) (e:∀i k,i<n→k<n→A i k=B i k):cK n B m z p where
 pos k:=by rw[←h.pos k];exact(et.congr e).symm
 neg k:=by rw[←h.neg k];exact(et.congr fun i k hi hk=>by rw[e i k hi hk]).symm
 sum:=h.sum
theorem cK.cg {n m z p:Nat} {A B:Mx} (h:cK n A m z p) (e:Cg n A B):cK n B m z p where
 pos k:=by rw[←h.pos k];exact e.vK.symm
 neg k:=by rw[←h.neg k];exact e.neg.vK.symm
 sum:=h.sum
theorem AN {n k:Nat} {A:Mx} {s:Rat} (hs:0<s):et n (fun i k=>s*A i k) k↔et n A k:=by
 have key:∀(s:Rat),0<s→∀B,et n B k→et n (fun i k=>s*B i k) k:=fun s hs B ⟨V,hV⟩=>⟨V,fun c hc=>by
  rw[dI];exact Rat.mul_pos hs (hV c hc)⟩
 constructor
 ·intro h
  have hi:0<s⁻¹:=Rat.inv_pos.2 hs
  have:=key s⁻¹ hi _ h
  refine(et.congr fun i j _ _=> ?_).1 this
  have e:s*s⁻¹=1:=Rat.mul_inv_cancel _ (by grind)
  grind
 ·exact key s hs A
theorem cK.smul {n m z p:Nat} {A:Mx} {s:Rat} (hs:0<s) (h:cK n A m z p):cK n (fun i k=>s*A i k) m z p where
 pos k:=by rw[AN hs];exact h.pos k
 neg k:=by
  rw[←h.neg k,←AN (A:=fun i k=> -1*A i k) hs]
  exact et.congr fun i j _ _=>by grind
 sum:=h.sum
theorem cK.minus {n m z p:Nat} {A:Mx} (h:cK n A m z p):cK n (fun i k=> -1*A i k) p z m where
 pos:=h.neg
 neg k:=by rw[←h.pos k];exact et.congr fun i j _ _=>by grind
 sum:=by have:=h.sum;omega
theorem cK.mono {n m z p m' z' p':Nat} {A B:Mx} (h:cK n A m z p) (g:cK n B m' z' p') (e:∀x,qf n A x≤qf n B x):p≤p'∧m'≤m:=by
 refine⟨(g.pos p).1 (((h.pos p).2 (Nat.le_refl _)).mono e),(h.neg m').1 (((g.neg m').2 (Nat.le_refl _)).mono fun x=> ?_)⟩
 rw[dI,dI]
 have:=e x
 grind
theorem QG {n:Nat} {A:Mx} {x:Nat→Rat} (h:x n=0):qf (n+1) A x=qf n A x:=by
 unfold qf
 rw[ao,h,bl (n:=n+1) (f:=fun k=>0*A n k*x k) fun i _=>by grind]
 rw[ai n (g:=fun i=>ao n fun k=>x i*A i k*x k) fun i _=>by rw[ao,h];grind]
 grind
theorem MI {n:Nat} {A:Mx} (h:et n A n) {y:Nat→Rat} (hy:∃i,i<n∧y i≠0):0<qf n A y:=by
 obtain⟨V,hV⟩:=h
 obtain⟨c,hc,h0⟩:=Ci (Nat.lt_succ_self n) fun j i=>if j<n then V j i else y i
 have e:∀i,i<n→comb n c V i+c n*y i=0:=fun i hi=>by
  have:=h0 i hi
  rw[ao,if_neg (Nat.lt_irrefl n),ai n (g:=fun j=>c j*V j i) fun j hj=>by rw[if_pos hj]]at this
  exact this
 by_cases hcn:c n=0
 ·exfalso
  obtain⟨j,hj,hcj⟩:=hc
  have h1:=hV c ⟨j,by
   by_cases g:j=n
   ·rw[g]at hcj;exact absurd hcn hcj
   ·omega,hcj⟩
  rw[dY (y:=fun _=>0) fun i hi=>by have:=e i hi;rw[hcn]at this;grind]at h1
  rw[show qf n A (fun _=>0)=0 from bl fun i _=>bl fun k _=>by grind]at h1
  exact absurd h1 aH
 ·have oJ:c n*(c n)⁻¹=1:=Rat.mul_inv_cancel _ hcn
  have e2:∀i,i<n→y i=comb n (fun j=> -(c n)⁻¹*c j) V i:=fun i hi=>by
   have h1:=e i hi
   have h2:comb n (fun j=> -(c n)⁻¹*c j) V i= -(c n)⁻¹*comb n c V i:=by
    show ao n _= -(c n)⁻¹*ao n _
    rw[←sum_smul]
    exact ai n fun j _=>by grind
   rw[h2]
   grind
  rw[dY e2]
  refine hV _ ?_
  refine Classical.byContradiction fun GC=> ?_
  obtain⟨i,hi,hyi⟩:=hy
  apply hyi
  rw[e2 i hi]
  exact bl fun j hj=>by
   have: -(c n)⁻¹*c j=0:=Classical.byContradiction fun g=>GC ⟨j,hj,g⟩
   show -(c n)⁻¹*c j*V j i=0
   rw[this];grind
theorem QH {n:Nat} {A:Mx} (h:∀y:Nat→Rat,(∃i,i<n∧y i≠0)→0<qf n A y):et n A n:=by
 refine⟨delta,fun c ⟨j,hj,hcj⟩=> ?_⟩
 have e:∀i,i<n→comb n c delta i=c i:=fun i hi=>by
  show ao n (fun j=>c j*delta j i)=c i
  rw[kV,if_pos hi]
 rw[dY e]
 exact h c ⟨j,hj,hcj⟩
def bf (n:Nat) (A:Mx) (x y:Nat→Rat):Rat:=ao n fun i=>x i*ao n fun k=>A i k*y k
theorem l7 (n:Nat) (A:Mx) (x:Nat→Rat):qf n A x=bf n A x x:=ai n fun i _=>by
 rw[←sum_smul];exact ai n fun k _=>by grind
theorem HT (n:Nat) (A:Mx) (x y z:Nat→Rat):bf n A (fun i=>x i+y i) z=bf n A x z+bf n A y z:=by
 unfold bf;rw[←sum_add];exact ai n fun i _=>by grind
theorem wq (n:Nat) (A:Mx) (x y z:Nat→Rat):bf n A z (fun i=>x i+y i)=bf n A z x+bf n A z y:=by
 unfold bf
 rw[←sum_add]
 refine ai n fun i _=> ?_
 rw[ai n (g:=fun k=>A i k*x k+A i k*y k) fun k _=>by grind,sum_add];grind
theorem abv {n:Nat} {A:Mx} {u:Nat→Rat} (hu:vp n n A u) (z:Nat→Rat):bf n A z u=0:=bl fun i hi=>by rw[hu i hi];grind
theorem wv {n:Nat} {A:Mx} (h:cZ n A) (x y:Nat→Rat):bf n A x y=bf n A y x:=by
 unfold bf
 rw[ai n (g:=fun i=>ao n fun k=>x i*(A i k*y k)) fun i _=>(sum_smul _ _ _).symm,dX]
 refine ai n fun k hk=> ?_
 rw[←sum_smul]
 exact ai n fun i hi=>by rw[h i k hi hk];grind
theorem qH {n i:Nat} {p:Nat→Bool} (h:(List.range n).find? p=some i):i<n∧p i=true∧∀j,j<i→p j=false:=by
 obtain⟨h1,h2,h3⟩:=List.find?_range_eq_some.1 h
 exact⟨List.mem_range.1 h2,h1,fun j hj=>by simpa using h3 j hj⟩
theorem qJ {n:Nat} {p:Nat→Bool} (h:(List.range n).find? p=none):∀j,j<n→p j=false:=fun j hj=>by
 have:=List.find?_eq_none.1 h j (List.mem_range.2 hj)
 simpa using this
def UO (n:Nat) (X:Mx) (d:Nat→Bool) (i:Nat):Option Nat:=(List.range n).find? fun k=> !d k&&decide (X i k≠0)
def yk (n:Nat) (X:Mx) (d:Nat→Bool):Option (Nat×Mx):=
 match (List.range n).find? fun i=> !d i&&decide (X i i≠0)with
 |some i=>some (i,X)
 |none=>match (List.range n).find? fun i=> !d i&&(UO n X d i).isSome with
  |some i=>some (i,kY X i ((UO n X d i).getD 0) 1)
  |none=>none
inductive MJ (n:Nat) (X:Mx) (d:Nat→Bool):Option (Nat×Mx)→Prop
 |diag {i}:i<n→d i=false→X i i≠0→(∀j,j<i→d j=true∨X j j=0)→MJ n X d (some (i,X))
 |mix {i k}:i<n→k<n→d i=false→d k=false→X i k≠0→(∀j,j<n→d j=true∨X j j=0)→(∀j l,j<n→l<n→(j<i∨(j=i∧l<k))→d j=true∨d l=true∨X j l=0)→MJ n X d (some (i,kY X i k 1))
 |none:(∀j,j<n→d j=true∨X j j=0)→(∀j l,j<n→l<n→d j=true∨d l=true∨X j l=0)→MJ n X d none
theorem sr {b:Bool} {x:Rat} (h:(!b&&decide (x≠0))=false):b=true∨x=0:=by
 cases b
 ·right;simpa using h
 ·left;rfl
theorem kg (n:Nat) (X:Mx) (d:Nat→Bool):MJ n X d (yk n X d):=by
 unfold yk
 cases h1:(List.range n).find? fun i=> !d i&&decide (X i i≠0)with
 |some i=>
  obtain⟨a1,a2,a3⟩:=qH h1
  have a4:d i=false∧X i i≠0:=by simpa using a2
  exact .diag a1 a4.1 a4.2 fun j hj=>sr (a3 j hj)
 |none=>
  have b:=qJ h1
  have b':∀j,j<n→d j=true∨X j j=0:=fun j hj=>sr (b j hj)
  have afq:∀j,(!d j&&(UO n X d j).isSome)=false→∀l,l<n→d j=true∨d l=true∨X j l=0:=fun j hj l hl=>by
   cases hdj:d j
   ·right
    rw[hdj]at hj
    have:UO n X d j=none:=by
     cases hk:UO n X d j
     ·rfl
     ·rw[hk]at hj;cases hj
    exact sr (qJ this l hl)
   ·left;rfl
  cases h2:(List.range n).find? fun i=> !d i&&(UO n X d i).isSome with
  |some i=>
   obtain⟨a1,a2,a3⟩:=qH h2
   cases hk:UO n X d i with
   |none=>simp[hk]at a2
   |some k=>
    obtain⟨c1,c2,c3⟩:=qH hk
    have a4:d i=false:=by simp only[hk]at a2;simpa using a2
    have a5:d k=false∧X i k≠0:=by simpa using c2
    show MJ n X d (some (i,kY X i ((UO n X d i).getD 0) 1))
    rw[hk]
    refine .mix (k:=k) a1 c1 a4 a5.1 a5.2 b' fun j l hj hl Vk=> ?_
    rcases Vk with g|⟨rfl,g⟩
    ·exact afq j (a3 j g) l hl
    ·right;exact sr (c3 l g)
  |none=>exact .none b' fun j l hj hl=>afq j (qJ h2 j hj) l hl
structure IS where
 X:Mx
 d:Nat→Bool
 left:Nat
 m:Nat
 p:Nat
def kZ (d:Nat→Bool) (i:Nat):Nat→Bool:=fun j=>cond (Nat.beq j i) true (d j)
def jt (n:Nat) (s:IS) (i:Nat) (Y:Mx):IS:=⟨hO Y i n,kZ s.d i,s.left - 1,s.m+(if Y i i<0 then 1 else 0),s.p+if 0<Y i i then 1 else 0⟩
def ju (n:Nat):Nat→IS→IS
 |0,s=>s
 |f+1,s=>match yk n s.X s.d with
  |none=>s
  |some (i,Y)=>ju n f (jt n s i Y)
def mh (n:Nat) (A:Mx):IS:=⟨A,fun _=>false,n,0,0⟩
theorem ld (d:Nat→Bool) (i j:Nat):kZ d i j=(d j||decide (j=i)):=by
 unfold kZ
 by_cases e:j=i
 ·subst e;rw[Nat.beq_refl];simp
 ·rw[show Nat.beq j i=false from by
   cases h:Nat.beq j i with
   |false=>rfl
   |true=>exact absurd (Nat.eq_of_beq_eq_true h) e]
  simp[e]
structure qg (n:Nat) (A:Mx) (s:IS):Prop where
 inv:p7 n A s.X s.d
 m:s.m=cF n fun j=>s.d j&&decide (s.X j j<0)
 p:s.p=cF n fun j=>s.d j&&decide (0<s.X j j)
 left:s.left+cF n s.d=n
theorem qK (n:Nat):cF n (fun _=>false)=0:=by
 induction n with
 |zero=>rfl
 |succ n ih=>rw[c7,ih];rfl
theorem qg.start {n:Nat} {A:Mx} (h:cZ n A):qg n A (mh n A):=by
 refine⟨.start h, ?_, ?_, ?_⟩
 ·exact((fa (q:=fun _=>false) fun j _=>rfl).trans (qK n)).symm
 ·exact((fa (q:=fun _=>false) fun j _=>rfl).trans (qK n)).symm
 ·show n+cF n (fun _=>false)=n;rw[qK];omega
theorem qg.bU {n i:Nat} {A Y:Mx} {s:IS} (h:qg n A s) (hp:yk n s.X s.d=some (i,Y)):i<n∧s.d i=false∧Y i i≠0∧p7 n A Y s.d∧(∀j,j<n→s.d j=true→Y j j=s.X j j):=by
 have:=kg n s.X s.d
 rw[hp]at this
 cases this with
 |diag h1 h2 h3 h4=>exact⟨h1,h2,h3,h.inv,fun _ _ _=>rfl⟩
 |@mix i k h1 h2 h3 h4 h5 h6 h7=>
  have hm:=h.inv.mix h1 h2 h3 h4 (fun j hj hd=>(h6 j hj).resolve_left (by rw[hd];decide)) h5
  refine⟨h1,h3,hm.2,hm.1,fun j hj hd=> ?_⟩
  have vH:j≠i:=fun e=>by rw[e,h3]at hd;cases hd
  have C8:k≠j:=fun e=>by rw[←e,h4]at hd;cases hd
  have h8:=(h.inv.dn j hj hd).2 k h2 C8
  unfold kY
  simp only[if_neg vH];grind
theorem qg.next {n i:Nat} {A Y:Mx} {s:IS} (h:qg n A s) (hp:yk n s.X s.d=some (i,Y)):qg n A (jt n s i Y)∧0<s.left:=by
 obtain⟨h1,h2,h3,h4,h5⟩:=h.bU hp
 obtain⟨g1,g2,g3⟩:=h4.bU h1 h3
 have hc:=sn (p:=s.d) (q:=kZ s.d i) h1 h2 fun j _ a7=>by rw[ld];simp[a7]
 have Pk:kZ s.d i i=true:=by rw[ld];simp
 rw[Pk]at hc
 simp only[if_true]at hc
 have hl:=h.left
 have hle:=pM (kZ s.d i) n
 refine⟨⟨⟨g1.sym,g1.cg,fun j hj hd=>g1.dn j hj (by rw[←ld];exact hd)⟩, ?_, ?_, ?_⟩,aa⟩
 ·show s.m+(if Y i i<0 then 1 else 0)=cF n fun j=>kZ s.d i j&&decide (hO Y i n j j<0)
  rw[h.m,sn (p:=fun j=>s.d j&&decide (s.X j j<0)) (q:=fun j=>kZ s.d i j&&decide (hO Y i n j j<0)) h1 (by simp[h2]) fun j hj a7=>by
   cases hd:s.d j
   ·rw[ld,hd];simp[a7]
   ·rw[ld,hd,g2 j hj hd,h5 j hj hd];simp]
  congr 1
  rw[Pk,g3];simp
 ·show s.p+(if 0<Y i i then 1 else 0)=cF n fun j=>kZ s.d i j&&decide (0<hO Y i n j j)
  rw[h.p,sn (p:=fun j=>s.d j&&decide (0<s.X j j)) (q:=fun j=>kZ s.d i j&&decide (0<hO Y i n j j)) h1 (by simp[h2]) fun j hj a7=>by
   cases hd:s.d j
   ·rw[ld,hd];simp[a7]
   ·rw[ld,hd,g2 j hj hd,h5 j hj hd];simp]
  congr 1
  rw[Pk,g3];simp
 ·show s.left - 1+cF n (kZ s.d i)=n
  omega
theorem uz {p:Nat→Bool}:∀{n:Nat},cF n p=n→∀j,j<n→p j=true
 |0,_,j,hj=>aa
 |n+1,h,j,hj=>by
  rw[c7]at h
  have h1:=pM p n
  cases hp:p n with
  |false=>rw[hp]at h;simp at h;omega
  |true=>
   by_cases e:j=n
   ·rw[e];exact hp
   ·rw[hp]at h;simp at h;exact uz h j aa
theorem yl {n:Nat} {A:Mx}:∀f (s:IS),s.left=f→qg n A s→cK n A (ju n f s).m (ju n f s).left (ju n f s).p
 |0,s,hf,h=>by
  have hl:=h.left
  have:=h.inv.UN fun j l hj gI hd _=>by
   have:=uz (p:=s.d) (n:=n) aa j hj
   rw[this]at hd;cases hd
  rw[ju,h.m,h.p,hf]
  rwa [show n - cF n s.d=0 by omega]at this
 |f+1,s,hf,h=>by
  rw[ju]
  cases hp:yk n s.X s.d with
  |none=>
   have hs:=kg n s.X s.d
   rw[hp]at hs
   cases hs with
   |none h1 h2=>
    have:=h.inv.UN fun j l hj gI hd Ge=>by
     rcases h2 j l hj gI with g|g|g
     ·rw[g]at hd;cases hd
     ·rw[g]at Ge;cases Ge
     ·exact g
    have hl:=h.left
    simp only
    rw[h.m,h.p]
    rwa [show n - cF n s.d=s.left by omega]at this
  |some iy=>
   obtain⟨i,Y⟩:=iy
   have hn:=(h.next hp).1
   exact yl f (jt n s i Y) (by show s.left - 1=f;omega) hn
theorem qL {n:Nat} {A:Mx} (h:cZ n A):cK n A (ju n n (mh n A)).m (ju n n (mh n A)).left (ju n n (mh n A)).p:=yl n (mh n A) rfl (.start h)
theorem wx {sp:List Nat} {k:Nat} (hn:k∉sp):∀c,k<c→(c8 sp k).length<(c8 sp c).length∧(c8 sp c).getD (c8 sp k).length 0=k
 |0,h=>aa
 |c+1,h=>by
  rw[qF]
  by_cases e:k=c
  ·subst e
   rw[if_neg hn]
   exact⟨by rw[List.length_append];simp,by simp[List.getD_eq_getElem?_getD]⟩
  ·obtain⟨h1,h2⟩:=wx hn c aa
   refine⟨by rw[List.length_append];omega, ?_⟩
   rw[List.getD_eq_getElem?_getD,List.getElem?_append_left h1,←List.getD_eq_getElem?_getD,h2]
theorem AO {sp:List Nat} {k:Nat}:∀c,k≤c→(c8 sp k).length≤(c8 sp c).length
 |0,h=>by obtain rfl:k=0:=aa
          exact Nat.le_refl _
 |c+1,h=>by
  by_cases e:k=c+1
  ·rw[e];exact Nat.le_refl _
  ·rw[qF,List.length_append]
   have:=AO (sp:=sp) (k:=k) c aa
   omega
theorem UP {r c k:Nat} {a:List Rat} (hk:k<c) (hn:k∉iK r c a):(c8 (iK r c a) k).length<(KL r c a).length∧∀q,q<c→q∉iK r c a→((KL r c a).getD (c8 (iK r c a) k).length []).getD q 0=if q=k then 1 else 0:=by
 obtain⟨h1,h2⟩:=wx hn c hk
 rw[←nO]at h1
 refine⟨h1,fun q hq hqn=> ?_⟩
 have h:=AM r c a
 rw[Gz h1,h2,Cb h hk hn (Nat.le_refl c) (fun j _=>Cd hk) hq]
 by_cases e:q=k
 ·subst e;rw[if_pos rfl];exact Ca h hn
 ·rw[if_neg e];exact yh hqn e
structure Ej (r c:Nat) (a b x:List Rat) (k:Nat) (u:List Rat):Prop where
 len:u.length=c
 sol:zC r c a b fun q=>u.getD q 0
 at_:∀q,q<c→q∉iK r c a→u.getD q 0=if q<k then x.getD q 0 else 0
theorem Ej.skip {r c k:Nat} {a b x u:List Rat} (h:Ej r c a b x k u) (hk:k∈iK r c a):Ej r c a b x (k+1) u where
 len:=h.len
 sol:=h.sol
 at_:=fun q hq hn=>by
  rw[h.at_ q hq hn]
  have:q≠k:=fun e=>hn (e▸hk)
  by_cases g:q<k
  ·rw[if_pos g,if_pos aa]
  ·rw[if_neg g,if_neg aa]
theorem Ej.step {r c k:Nat} {a b x u w:List Rat} (h:Ej r c a b x k u) (hk:k<c) (hn:k∉iK r c a) (hw:w.length=c)
  (hg:∀q,q<c→w.getD q 0=x.getD k 0*((KL r c a).getD (c8 (iK r c a) k).length []).getD q 0+u.getD q 0):Ej r c a b x (k+1) w where
 len:=hw
 sol:=(zC.add (x.getD k 0) h.sol (GA (UP hk hn).1)).ext fun q hq=>(hg q hq).symm
 at_:=fun q hq hqn=>by
  rw[hg q hq,(UP hk hn).2 q hq hqn,h.at_ q hq hqn]
  by_cases e:q=k
  ·subst e;rw[if_pos rfl,if_neg (Nat.lt_irrefl q),if_pos (Nat.lt_succ_self q)];grind
  ·rw[if_neg e]
   by_cases g:q<k
   ·rw[if_pos g,if_pos aa];grind
   ·rw[if_neg g,if_neg aa];grind
theorem Ej.done {r c k:Nat} {a b x u:List Rat} (h:Ej r c a b x k u) (hx:x.length=c) (hs:zC r c a b fun q=>x.getD q 0) (hk:k≤c) (he:(KL r c a).length≤(c8 (iK r c a) k).length):u=x:=by
 refine B4 (n:=c) h.len hx (zC.eq h.sol hs fun q hq hn=> ?_)
 rw[h.at_ q hq hn]
 by_cases g:q<k
 ·rw[if_pos g]
 ·exfalso
  have h1:=(wx hn c hq).1
  have h2:=AO (sp:=iK r c a) (k:=k) q aa
  rw[nO]at he
  omega
theorem p7.dgX {n:Nat} {A X:Mx} {done:Nat→Bool} (h:p7 n A X done) (h0:∀j l,j<n→l<n→done j=false→done l=false→X j l=0):Cg n A (na fun j=>X j j):=by
 refine h.cg.congr fun j l hj hl=> ?_
 unfold na
 by_cases e:j=l
 ·subst e;rw[if_pos rfl]
 ·rw[if_neg e]
  cases hd:done j with
  |true=>exact(h.dn j hj hd).2 l hl (Ne.symm e)
  |false=>
   cases gI:done l with
   |true=>exact h.col hl hj gI e
   |false=>exact h0 j l hj hl hd gI
theorem Ek {n:Nat} {A:Mx}:∀f (s:IS),s.left=f→qg n A s→∃d,Cg n A (na d)
 |0,s,hf,h=>by
  have hl:=h.left
  exact⟨_,h.inv.dgX fun j l hj gI hd _=>by
   have:=uz (p:=s.d) (n:=n) aa j hj
   rw[this]at hd;cases hd⟩
 |f+1,s,hf,h=>by
  cases hp:yk n s.X s.d with
  |none=>
   have hs:=kg n s.X s.d
   rw[hp]at hs
   cases hs with
   |none h1 h2=>
    exact⟨_,h.inv.dgX fun j l hj gI hd Ge=>by
     rcases h2 j l hj gI with g|g|g
     ·rw[g]at hd;cases hd
     ·rw[g]at Ge;cases Ge
     ·exact g⟩
  |some iy=>
   obtain⟨i,Y⟩:=iy
   exact Ek f (jt n s i Y) (by show s.left - 1=f;omega) (h.next hp).1
theorem Cj {n:Nat} {A:Mx} (h:cZ n A):∃d,Cg n A (na d):=Ek n (mh n A) rfl (.start h)
def vM (n:Nat) (P:Nat→Bool) (a:Nat):Nat:=((List.range n).filter P).getD a 0
def o9 (n:Nat) (P:Nat→Bool):Mx:=fun j i=>if vM n P j=i then 1 else 0
theorem uA {n k a:Nat} {P:Nat→Bool} {c:Nat→Rat} (hk:k≤cF n P) (ha:a<k):comb k c (o9 n P) (vM n P a)=c a:=by
 show ao k (fun j=>c j*o9 n P j (vM n P a))=c a
 rw[dA (j:=a) k ha fun b hb a7=>by unfold o9;rw[if_neg (show ¬vM n P b=vM n P a from fun e=>a7 (Ed aa aa e))];grind]
 unfold o9;rw[if_pos rfl];grind
theorem ym {n k i:Nat} {P:Nat→Bool} {c:Nat→Rat} (hk:k≤cF n P) (hp:P i=false):comb k c (o9 n P) i=0:=
 bl fun b hb=>by
  unfold o9
  rw[if_neg (show ¬vM n P b=i from fun e=>by
   have:=(o8 (n:=n) (p:=P) (a:=b) aa).2
   unfold vM at e
   rw[e,hp]at this;cases this)]
  grind
theorem yn (p:Nat→Bool):∀n,cF n p+cF n (fun i=> !p i)=n
 |0=>rfl
 |n+1=>by
  rw[c7,c7]
  have:=yn p n
  cases p n<;>simp<;>omega
def NnK (n:Nat) (A:Mx) (k:Nat):Prop:=∃V:Mx,∀c:Nat→Rat,(∃j,j<k∧c j≠0)→qf n A (comb k c V)≤0∧∃i,i<n∧comb k c V i≠0
theorem Ch.ne {n:Nat} {T S:(Nat→Rat)→Nat→Rat} (h:Ch n T S) {x:Nat→Rat} (hx:∃i,i<n∧x i≠0):∃i,i<n∧T x i≠0:=by
 refine Classical.byContradiction fun GC=> ?_
 obtain⟨i,hi,a7⟩:=hx
 have hz:∀i,i<n→T x i=0:=fun i hi=>Classical.byContradiction fun g=>GC ⟨i,hi,g⟩
 apply a7
 rw[←h.MD x i hi,h.GB.Cf _ (fun _=>0) hz i hi,h.GB.zero hi]
theorem Cg.nnK {n k:Nat} {A B:Mx} (h:Cg n A B) (g:NnK n B k):NnK n A k:=by
 obtain⟨T,S,h1,h2⟩:=h
 obtain⟨V,hV⟩:=g
 refine⟨fun j=>T (V j),fun c hc=> ?_⟩
 obtain⟨g1,g2⟩:=hV c hc
 rw[h2]at g1
 have hT:=fun i hi=>h1.uf.HR c V k i hi
 refine⟨by rwa [←dY hT], ?_⟩
 obtain⟨i,hi,a7⟩:=h1.ne g2
 exact⟨i,hi,by rwa [←hT i hi]⟩
theorem abw {n:Nat} {d:Nat→Rat}:NnK n (na d) (cF n fun i=> !decide (0<d i)):=by
 refine⟨o9 n fun i=> !decide (0<d i),fun c ⟨j,hj,a7⟩=>⟨?_, ?_⟩⟩
 ·rw[vq]
  refine ME fun i hi=> ?_
  by_cases hd:0<d i
  ·rw[ym (Nat.le_refl _) (by simp[hd])];grind
  ·have h3:=kX (comb (cF n fun i=> !decide (0<d i)) c (o9 n fun i=> !decide (0<d i)) i)
   have h4:=Rat.mul_nonneg (show(0:Rat)≤ - d i by grind) h3
   grind
 ·exact⟨vM n (fun i=> !decide (0<d i)) j,(o8 (p:=fun i=> !decide (0<d i)) hj).1,by rw[uA (Nat.le_refl _) hj];exact a7⟩
theorem cK.ahA {n m z p:Nat} {A:Mx} (hs:cZ n A) (h:cK n A m z p):NnK n A (m+z):=by
 obtain⟨d,hd⟩:=Cj hs
 have h1:p=cF n fun i=>decide (0<d i):=by
  have a1:=iW.1 (hd.vK.1 ((h.pos p).2 (Nat.le_refl _)))
  have a2:=(h.pos _).1 (hd.vK.2 (iW.2 (Nat.le_refl (cF n fun i=>decide (0<d i)))))
  omega
 have h2:=yn (fun i=>decide (0<d i)) n
 have h3:=h.sum
 have:=hd.nnK (abw (n:=n) (d:=d))
 rwa [show cF n (fun i=> !decide (0<d i))=m+z by omega]at this
theorem cK.strict {n m z p m' z' p':Nat} {A B:Mx} (hs:cZ n A) (h:cK n A m z p) (g:cK n B m' z' p') (e:∀x:Nat→Rat,(∃i,i<n∧x i≠0)→qf n B x<qf n A x):m+z≤m':=by
 obtain⟨V,hV⟩:=h.ahA hs
 refine(g.neg _).1 ⟨V,fun c hc=> ?_⟩
 obtain⟨h1,h2⟩:=hV c hc
 have:=e _ h2
 rw[dI]
 grind
def QI (n:Nat) (A:Mx) (k:Nat):Prop:=∃V:Mx,∀c:Nat→Rat,(∃j,j<k∧c j≠0)→vp n n A (comb k c V)∧∃i,i<n∧comb k c V i≠0
theorem Ck {n:Nat} {A:Mx} (h:cZ n A) (x y:Nat→Rat):qf n A (fun i=>x i+y i)=qf n A x+2*bf n A x y+qf n A y:=by
 rw[l7,l7,l7,HT,wq,wq,wv h y x];grind
theorem Ch.ker {n:Nat} {T S:(Nat→Rat)→Nat→Rat} {A B:Mx} (h:Ch n T S) (e:∀x,qf n B x=qf n A (T x)) (hA:cZ n A) (hB:cZ n B) {y:Nat→Rat} (hy:vp n n B y):vp n n A (T y):=by
 have hbf:∀x,bf n A (T x) (T y)=bf n B x y:=fun x=>by
  have h1:=Ck hA (T x) (T y)
  have h2:=Ck hB x y
  have h3:qf n A (fun i=>T x i+T y i)=qf n A (T fun i=>x i+y i):=dY fun i hi=>by
   have:=h.uf.uf 1 x y i hi
   rw[h.uf.Cf (fun q=>1*x q+y q) (fun i=>x i+y i) (fun q _=>by grind) i hi]at this
   grind
  rw[h3,←e,←e,←e]at h1
  grind
 intro i hi
 have h1:=hbf (S (delta i))
 rw[abv hy]at h1
 have h2:bf n A (T (S (delta i))) (T y)=ao n fun k=>A i k*T y k:=by
  show ao n (fun j=>T (S (delta i)) j*ao n fun k=>A j k*T y k)=_
  rw[ai n (g:=fun j=>delta i j*ao n fun k=>A j k*T y k) fun j hj=>by rw[h.inv _ j hj],eZ,if_pos hi]
 rw[←h2];exact h1
theorem Ch.afs {n k:Nat} {T S:(Nat→Rat)→Nat→Rat} {A B:Mx} (h:Ch n T S) (e:∀x,qf n B x=qf n A (T x)) (hA:cZ n A) (hB:cZ n B) (g:QI n B k):QI n A k:=by
 obtain⟨V,hV⟩:=g
 refine⟨fun j=>T (V j),fun c hc=> ?_⟩
 obtain⟨g1,g2⟩:=hV c hc
 have hT:=fun i hi=>h.uf.HR c V k i hi
 refine⟨(HQ hT).1 (h.ker e hA hB g1), ?_⟩
 obtain⟨i,hi,a7⟩:=h.ne g2
 exact⟨i,hi,by rwa [←hT i hi]⟩
theorem HU (n:Nat) (d:Nat→Rat):cZ n (na d):=fun j l _ _=>by
 unfold na
 by_cases e:j=l
 ·subst e;rfl
 ·rw[if_neg e,if_neg (Ne.symm e)]
theorem MK {n i:Nat} (d x:Nat→Rat) (hi:i<n):ao n (fun k=>na d i k*x k)=d i*x i:=by
 rw[dA (j:=i) n hi fun k _ a7=>by unfold na;rw[if_neg (Ne.symm a7)];grind]
 unfold na;rw[if_pos rfl]
theorem HV {n k:Nat} {d:Nat→Rat}:QI n (na d) k↔k≤cF n fun i=>decide (d i=0):=by
 constructor
 ·rintro⟨V,hV⟩
  refine Nat.le_of_not_lt fun aI=> ?_
  obtain⟨c,hc,h0⟩:=Ci aI fun j a=>V j (vM n (fun i=>decide (d i=0)) a)
  obtain⟨h1,i,hi,a7⟩:=hV c hc
  apply a7
  by_cases hd:d i=0
  ·obtain⟨a,ha,e⟩:=Ec (p:=fun i=>decide (d i=0)) hi (decide_eq_true hd)
   have:=h0 a ha
   rw[show vM n (fun i=>decide (d i=0)) a=i from e]at this
   exact this
  ·have:=h1 i hi
   rw[MK d _ hi]at this
   exact(Rat.mul_eq_zero.1 this).resolve_left hd
 ·intro hk
  refine⟨o9 n fun i=>decide (d i=0),fun c ⟨j,hj,a7⟩=>⟨fun i hi=> ?_,vM n (fun i=>decide (d i=0)) j,(o8 (p:=fun i=>decide (d i=0)) aa).1,by rw[uA hk hj];exact a7⟩⟩
  rw[MK d _ hi]
  by_cases hd:d i=0
  ·rw[hd];grind
  ·rw[ym hk (by simp[hd])];grind
theorem HW {n:Nat} {a:List Rat} {x:Nat→Rat}:vp n n (el a n) x↔zC n n a [] x:=Iff.rfl
theorem HX {n k:Nat} {a:List Rat}:QI n (el a n) k↔k≤(KL n n a).length:=by
 constructor
 ·rintro⟨V,hV⟩
  refine Nat.le_of_not_lt fun aI=> ?_
  obtain⟨c,hc,h0⟩:=Ci aI fun j b=>V j ((c8 (iK n n a) n).getD b 0)
  obtain⟨h1,i,hi,a7⟩:=hV c hc
  apply a7
  exact(HW.1 h1).eq (HW.1 (QB (r:=n) (c:=n) (w:=el a n))) (fun q hq hn=>by
   obtain⟨b1,b2⟩:=wx hn n hq
   rw[←nO]at b1
   have:=h0 _ b1
   rw[b2]at this
   exact this) i hi
 ·intro hk
  refine⟨fun j i=>((KL n n a).getD j []).getD i 0,fun c ⟨j,hj,a7⟩=>⟨fun i hi=> ?_,(c8 (iK n n a) n).getD j 0,(o7 (by rw[←nO];omega)).1, ?_⟩⟩
  ·show ao n (fun q=>el a n i q*ao k fun j=>c j*((KL n n a).getD j []).getD q 0)=0
   rw[ai n (g:=fun q=>ao k fun j=>c j*(el a n i q*((KL n n a).getD j []).getD q 0)) fun q _=>by
    rw[←sum_smul];exact ai k fun j _=>by grind]
   rw[dX]
   refine bl fun j hj=> ?_
   have:=GA (r:=n) (c:=n) (a:=a) (i:=j) aa i hi
   rw[sum_smul,this];grind
  ·show ao k (fun b=>c b*((KL n n a).getD b []).getD _ 0)≠0
   rw[dA (j:=j) k hj fun b hb hbne=>by rw[Ce aa aa,if_neg (Ne.symm hbne)];grind]
   rw[Ce aa aa,if_pos rfl]
   grind
theorem cK.ahB {n m z p:Nat} {a:List Rat} (hs:cZ n (el a n)) (h:cK n (el a n) m z p):z+(iK n n a).length=n:=by
 obtain⟨d,T,S,h1,h2⟩:=Cj hs
 have hd:Cg n (el a n) (na d):=⟨T,S,h1,h2⟩
 have e1:(KL n n a).length=cF n fun i=>decide (d i=0):=by
  have a1:=HV.1 (h1.symm.afs (fun x=>by rw[h2];exact(dY fun i hi=>h1.inv x i hi).symm) (HU n d) hs (HX.2 (Nat.le_refl (KL n n a).length)))
  have a2:=HX.1 (h1.afs h2 hs (HU n d) (HV.2 (Nat.le_refl (cF n fun i=>decide (d i=0)))))
  omega
 have e2:p=cF n fun i=>decide (0<d i):=by
  have a1:=iW.1 (hd.vK.1 ((h.pos p).2 (Nat.le_refl _)))
  have a2:=(h.pos _).1 (hd.vK.2 (iW.2 (Nat.le_refl (cF n fun i=>decide (0<d i)))))
  omega
 have hdn:∀i j,i<n→j<n→ -1*na d i j=na (fun i=> -1*d i) i j:=fun i j _ _=>by unfold na;split<;>grind
 have e3:m=cF n fun i=>decide (0< -1*d i):=by
  have a1:=iW.1 ((et.congr hdn).1 (hd.neg.vK.1 ((h.neg m).2 (Nat.le_refl _))))
  have a2:=(h.neg _).1 (hd.neg.vK.2 ((et.congr hdn).2 (iW.2 (Nat.le_refl (cF n fun i=>decide (0< -1*d i))))))
  omega
 have e4:∀k,cF k (fun i=>decide (d i=0))+cF k (fun i=>decide (0<d i))+cF k (fun i=>decide (0< -1*d i))=k:=by
  intro k
  induction k with
  |zero=>rfl
  |succ k ih=>
   rw[c7,c7,c7]
   by_cases g:d k=0
   ·have g1:¬0<d k:=by grind
    have g2:¬0< -1*d k:=by grind
    simp only[g,g1,g2,decide_true,decide_false];simp;omega
   ·by_cases g1:0<d k
    ·have g2:¬0< -1*d k:=by grind
     simp only[g,g1,g2,decide_true,decide_false];simp;omega
    ·have g2:0< -1*d k:=by grind
     simp only[g,g1,g2,decide_true,decide_false];simp;omega
 have h3:=h.sum
 have h4:=e4 n
 have h5:=MB n n a
 omega
def iX (A M:Mx) (t:Rat):Mx:=fun i k=>A i k - t*M i k
theorem pN {n:Nat} {A M:Mx} (hA:cZ n A) (hM:cZ n M) (t:Rat):cZ n (iX A M t):=fun i k hi hk=>by unfold iX;rw[hA i k hi hk,hM i k hi hk]
theorem uB (n:Nat) (A M:Mx) (t:Rat) (x:Nat→Rat):qf n (iX A M t) x=qf n A x - t*qf n M x:=by
 have:=uy n A (fun i k=>(-t)*M i k) x
 rw[dI]at this
 rw[iL (B:=fun i k=>A i k+(-t)*M i k) fun i k _ _=>by unfold iX;grind,this];grind
def hZ (n:Nat) (M:Mx):Prop:=∀x:Nat→Rat,(∃i,i<n∧x i≠0)→0<qf n M x
theorem wy {n:Nat} {A:Mx} {x:Nat→Rat} (h:∀i,i<n→x i=0):qf n A x=0:=bl fun i hi=>bl fun k hk=>by rw[h i hi];grind
theorem hZ.nn {n:Nat} {M:Mx} (h:hZ n M) (x:Nat→Rat):0≤qf n M x:=by
 by_cases g:∃i,i<n∧x i≠0
 ·have:=h x g;grind
 ·rw[wy fun i hi=>Classical.byContradiction fun e=>g ⟨i,hi,e⟩];exact Rat.le_refl
theorem cK.shift {n m z p m' z' p':Nat} {A B M:Mx} {t x:Rat} (h:cK n (iX A M t) m z p) (g:cK n (iX B M (t+x)) m' z' p') (e:∀i k,i<n→k<n→B i k=A i k+x*M i k):m'=m∧z'=z∧p'=p:=
 g.unique (h.congr fun i k hi hk=>by unfold iX;rw[e i k hi hk];grind)
theorem cK.times {n m z p m' z' p':Nat} {A B M:Mx} {t s:Rat} (hs:0<s) (h:cK n (iX A M t) m z p) (g:cK n (iX B M (t*s)) m' z' p') (e:∀i k,i<n→k<n→B i k=s*A i k):m'=m∧z'=z∧p'=p:=
 g.unique ((h.smul hs).congr fun i k hi hk=>by unfold iX;rw[e i k hi hk];grind)
theorem cK.ahC {n m z p m' z' p':Nat} {A B M:Mx} {t:Rat} (h:cK n (iX A M t) m z p) (g:cK n (iX B M (-t)) m' z' p') (e:∀i k,i<n→k<n→B i k= -1*A i k):m'=p∧z'=z∧p'=m:=
 g.unique (h.minus.congr fun i k hi hk=>by unfold iX;rw[e i k hi hk];grind)
theorem cK.up {n m z p m' z' p':Nat} {A M:Mx} {t t':Rat} (hM:hZ n M) (QJ:t≤t') (h:cK n (iX A M t) m z p) (g:cK n (iX A M t') m' z' p'):m≤m'∧p'≤p:=by
 have:=g.mono h fun x=>by
  rw[uB,uB]
  have:=Rat.mul_nonneg (show(0:Rat)≤t' - t by grind) (hM.nn x)
  grind
 exact⟨this.2,this.1⟩
theorem cK.abx {n m z p m' z' p':Nat} {A M:Mx} {t t':Rat} (hA:cZ n A) (hS:cZ n M) (hM:hZ n M) (QJ:t<t') (h:cK n (iX A M t) m z p) (g:cK n (iX A M t') m' z' p'):m+z≤m':=
 h.strict (pN hA hS t) g fun x hx=>by
  rw[uB,uB]
  have:=Rat.mul_pos (show(0:Rat)<t' - t by grind) (hM x hx)
  grind
theorem cK.nn {n m z p:Nat} {A:Mx} (h:cK n A m z p) (e:∀x,0≤qf n A x):m=0:=by
 refine Nat.eq_zero_of_not_pos fun hm=> ?_
 obtain⟨V,hV⟩:=(h.neg 1).2 hm
 have h1:=hV (fun _=>1) ⟨0,aa,aH⟩
 rw[dI]at h1
 have:=e (comb 1 (fun _=>1) V)
 grind
theorem cK.np {n m z p:Nat} {A:Mx} (h:cK n A m z p) (e:∀x,qf n A x≤0):p=0:=h.minus.nn fun x=>by rw[dI];have:=e x;grind
theorem hZ.GD {n m z p:Nat} {M:Mx} (hM:hZ n M) (h:cK n M m z p):p=n:=by
 have h1:=(h.pos n).1 (QH hM)
 have h2:=h.sum
 omega
theorem hZ.of {n m z:Nat} {M:Mx} (h:cK n M m z n):hZ n M:=fun _ hx=>MI ((h.pos n).2 (Nat.le_refl _)) hx
theorem hZ.cut {n:Nat} {M:Mx} (h:hZ (n+1) M):hZ n M:=fun x ⟨i,hi,hx⟩=>by
 have h1:=h (fun j=>if j<n then x j else 0) ⟨i,aa,by simp only[if_pos hi];exact hx⟩
 rw[QG (if_neg (Nat.lt_irrefl n)),dY (y:=x) fun j hj=>if_pos hj]at h1
 exact h1
theorem hZ.cg {n:Nat} {A B:Mx} (hA:hZ n A) (h:Cg n A B):hZ n B:=fun x hx=>by
 obtain⟨T,S,h1,h2⟩:=h
 rw[h2];exact hA _ (h1.ne hx)
theorem hZ.congr {n:Nat} {A B:Mx} (h:hZ n A) (e:∀i k,i<n→k<n→A i k=B i k):hZ n B:=fun x hx=>by rw[←iL e];exact h x hx
theorem sy (n:Nat) (A:Mx) (c:Rat) (x:Nat→Rat):qf n A (fun i=>c*x i)=c*c*qf n A x:=by
 unfold qf
 rw[←sum_smul]
 refine ai n fun i _=> ?_
 rw[←sum_smul]
 exact ai n fun k _=>by grind
theorem ML {K a x y:Rat} (h1: -K≤a) (h2:a≤K):0≤K*(x*x)+K*(y*y)+2*(x*a*y):=by
 have e1:=Rat.mul_nonneg (show(0:Rat)≤K+a by grind) (kX (x+y))
 have e2:=Rat.mul_nonneg (show(0:Rat)≤K - a by grind) (kX (x - y))
 grind
theorem pO (c:Rat):∀n:Nat,ao n (fun _=>c)=n*c
 |0=>by simp[ao]
 |n+1=>by rw[ao,pO c n,Rat.natCast_add];grind
theorem pa {n:Nat} {A:Mx} {K:Rat} (h:∀i k,i<n→k<n→ -K≤A i k∧A i k≤K) (x:Nat→Rat):0≤(n:Rat)*K*ao n (fun i=>x i*x i)+qf n A x:=by
 have h1:0≤ao n fun i=>ao n fun k=>K*(x i*x i)+K*(x k*x k)+2*(x i*A i k*x k):=
  qG fun i hi=>qG fun k hk=>ML (h i k hi hk).1 (h i k hi hk).2
 have h2:ao n (fun i=>ao n fun k=>K*(x i*x i)+K*(x k*x k)+2*(x i*A i k*x k))=(n:Rat)*K*ao n (fun i=>x i*x i)+(n:Rat)*K*ao n (fun i=>x i*x i)+2*qf n A x:=by
  rw[ai n (g:=fun i=>((n:Rat)*K)*(x i*x i)+K*ao n (fun k=>x k*x k)+2*ao n (fun k=>x i*A i k*x k)) fun i _=>by
   rw[sum_add,sum_add,pO,sum_smul,sum_smul];grind]
  rw[sum_add,sum_add,sum_smul,pO,sum_smul]
  show _=_+2*qf n A x
  unfold qf;grind
 rw[h2]at h1
 grind
theorem far {n m z p m' z' p':Nat} {A M:Mx} {K r:Rat} (h:∀i k,i<n→k<n→ -K≤A i k∧A i k≤K) (hM:∀x,ao n (fun i=>x i*x i)≤qf n M x) (hr:(n:Rat)*K≤r) (hr0:0≤r) (g1:cK n (iX A M (-r)) m z p) (g2:cK n (iX A M r) m' z' p'):m=0∧p'=0:=by
 have hs:∀x:Nat→Rat,0≤ao n fun i=>x i*x i:=fun x=>qG fun i _=>kX _
 constructor
 ·refine g1.nn fun x=> ?_
  rw[uB]
  have h1:=pa h x
  have h2:=Rat.mul_nonneg (show(0:Rat)≤r - n*K by grind) (hs x)
  have h3:=Rat.mul_nonneg hr0 (show(0:Rat)≤qf n M x - ao n (fun i=>x i*x i) by have:=hM x;grind)
  grind
 ·refine g2.np fun x=> ?_
  rw[uB]
  have h1:=pa (K:=K) (A:=fun i k=> -1*A i k) (fun i k hi hk=>by obtain⟨a1,a2⟩:=h i k hi hk;clear g1 g2 hM hs;constructor<;>grind) x
  rw[dI]at h1
  have h2:=Rat.mul_nonneg (show(0:Rat)≤r - n*K by grind) (hs x)
  have h3:=Rat.mul_nonneg hr0 (show(0:Rat)≤qf n M x - ao n (fun i=>x i*x i) by have:=hM x;grind)
  grind
theorem least {P:Nat→Prop}:∀{b:Nat},P b→∃e,e≤b∧P e∧∀k,k<e→¬P k
 |0,h=>⟨0,Nat.le_refl _,h,fun k hk=>aa⟩
 |b+1,h=>by
  by_cases g:∃k,k≤b∧P k
  ·obtain⟨k,hk,hp⟩:=g
   have:∀b k,k≤b→P k→∃e,e≤b∧P e∧∀k,k<e→¬P k:=by
    intro b
    induction b with
    |zero=>intro k hk hp;exact⟨0,Nat.le_refl _,by rwa [show k=0 by omega]at hp,fun k hk=>aa⟩
    |succ b ih=>
     intro k hk hp
     by_cases g:∃k,k≤b∧P k
     ·obtain⟨k,hk,hp⟩:=g
      obtain⟨e,h1,h2,h3⟩:=ih k hk hp
      exact⟨e,aa,h2,h3⟩
     ·have:k=b+1:=Classical.byContradiction fun e=>g ⟨k,aa,hp⟩
      subst this
      exact⟨b+1,Nat.le_refl _,hp,fun j hj hpj=>g ⟨j,aa,hpj⟩⟩
   obtain⟨e,h1,h2,h3⟩:=this b k hk hp
   exact⟨e,aa,h2,h3⟩
  ·exact⟨b+1,Nat.le_refl _,h,fun k hk hp=>g ⟨k,aa,hp⟩⟩
structure Steps (m z:Rat→Nat):Prop where
 abx:∀t t',t<t'→m t+z t≤m t'
theorem Steps.le {m z:Rat→Nat} (h:Steps m z) {t t':Rat} (g:t≤t'):m t+z t≤m t'+z t':=by
 by_cases e:t=t'
 ·rw[e];exact Nat.le_refl _
 ·have:=h.abx t t' (by grind);omega
structure Brk (m z:Rat→Nat) (i:Nat) (step low high:Rat):Prop where
 mult:∃k:Int,high=k*step
 top:i<m high+z high
 or:(low=high∧m high≤i)∨(low=high - step∧i<m high∧m low+z low≤i)
theorem Brk.below {m z:Rat→Nat} {i:Nat} {step low high:Rat} (h:Brk m z i step low high):m low≤i:=by
 rcases h.or with⟨h1,h2⟩|⟨h1,h2,h3⟩
 ·rw[h1];exact h2
 ·omega
theorem El (n:Nat) (A:Mx) (s:Rat) (z x:Nat→Rat):bf n A z (fun i=>s*x i)=s*bf n A z x:=by
 unfold bf
 rw[←sum_smul]
 refine ai n fun i _=> ?_
 rw[ai n (g:=fun k=>s*(A i k*x k)) fun k _=>by grind,sum_smul];grind
theorem Em (n:Nat) (A:Mx) (s:Rat) (x z:Nat→Rat):bf n A (fun i=>s*x i) z=s*bf n A x z:=by
 unfold bf
 rw[←sum_smul]
 exact ai n fun i _=>by grind
theorem MN (n:Nat) (A:Mx) (z:Nat→Rat):bf n A z (fun _=>0)=0:=bl fun i _=>by
 rw[bl fun k _=>by grind];grind
theorem MO (n:Nat) (A:Mx) (z:Nat→Rat):bf n A (fun _=>0) z=0:=bl fun i _=>by grind
theorem yo (n:Nat) (A:Mx) (z c:Nat→Rat) (V:Mx):∀k,bf n A z (comb k c V)=ao k fun j=>c j*bf n A z (V j)
 |0=>MN n A z
 |k+1=>by
  rw[ao,←yo n A z c V k,←El,←wq]
  rfl
theorem En (n:Nat) (A:Mx) (z c:Nat→Rat) (V:Mx):∀k,bf n A (comb k c V) z=ao k fun j=>c j*bf n A (V j) z
 |0=>MO n A z
 |k+1=>by
  rw[ao,←En n A z c V k,←Em,←HT]
  rfl
def pull (N:Nat) (A:Mx) (V:Mx):Mx:=fun j l=>bf N A (V j) (V l)
theorem sA (N k:Nat) (A V:Mx) (x y:Nat→Rat):bf k (pull N A V) x y=bf N A (comb k x V) (comb k y V):=by
 rw[En]
 refine ai k fun j _=> ?_
 rw[yo]
 congr 1
 exact ai k fun l _=>Rat.mul_comm ..
theorem sE (N k:Nat) (A V:Mx) (y:Nat→Rat):qf k (pull N A V) y=qf N A (comb k y V):=by rw[l7,sA,←l7]
theorem Eo {N k:Nat} {A V:Mx} (h:cZ N A):cZ k (pull N A V):=fun j l _ _=>wv h _ _
theorem QK {n:Nat} {A:Mx} (hs:cZ n A) (h:∀x,0≤qf n A x) (v w:Nat→Rat):bf n A v w*bf n A v w≤qf n A v*qf n A w:=by
 have key:∀s:Rat,0≤s*s*qf n A v+2*(s*bf n A v w)+qf n A w:=fun s=>by
  have h1:=h fun i=>s*v i+w i
  have h2:=Ck hs (fun i=>s*v i) w
  rw[Em,sy]at h2
  rw[h2]at h1
  grind
 have hv:=h v
 by_cases g:qf n A v=0
 ·by_cases gb:bf n A v w=0
  ·rw[gb,g];grind
  ·exfalso
   have h1:=key (-(qf n A w+1)*(2*bf n A v w)⁻¹)
   rw[g]at h1
   have h2:2*bf n A v w*(2*bf n A v w)⁻¹=1:=Rat.mul_inv_cancel _ (by grind)
   have h3:2*(-(qf n A w+1)*(2*bf n A v w)⁻¹*bf n A v w)= -(qf n A w+1):=by
    have:2*(-(qf n A w+1)*(2*bf n A v w)⁻¹*bf n A v w)= -(qf n A w+1)*(2*bf n A v w*(2*bf n A v w)⁻¹):=by
     generalize (2*bf n A v w)⁻¹=y;clear h1 h2;grind
    rw[this,h2,Rat.mul_one]
   rw[h3,Rat.mul_zero]at h1
   grind
 ·have h1:=key (-(bf n A v w)*(qf n A v)⁻¹)
  have h2:qf n A v*(qf n A v)⁻¹=1:=Rat.mul_inv_cancel _ g
  have h3:0<qf n A v:=by grind
  have h4:=Rat.mul_nonneg hv h1
  have h5:qf n A v*(-(bf n A v w)*(qf n A v)⁻¹*(-(bf n A v w)*(qf n A v)⁻¹)*qf n A v+2*(-(bf n A v w)*(qf n A v)⁻¹*bf n A v w)+qf n A w)=qf n A v*qf n A w - bf n A v w*bf n A v w:=by grind
  rw[h5]at h4
  grind
theorem uC (q:Rat):∃K:Nat,q<K:=by
 refine⟨(q.floor+1).toNat, ?_⟩
 have h1:=Rat.lt_floor_add_one q
 have h2:((q.floor+1:Int):Rat)≤(((q.floor+1).toNat:Int):Rat):=Rat.intCast_le_intCast.2 aa
 rw[Rat.intCast_natCast]at h2
 grind
theorem vt (k:Nat):((k:Nat):Rat)≤4^k:=by
 induction k with
 |zero=>decide
 |succ k ih=>
  rw[Rat.pow_succ,Rat.natCast_add]
  have:(1:Rat)≤4^k:=by
   clear ih
   induction k with
   |zero=>decide
   |succ k ih=>rw[Rat.pow_succ];grind
  have:((1:Nat):Rat)=1:=rfl
  grind
theorem MP {a:Rat} (ha:0<a):∃s:Rat,s≠0∧1≤s*s*a∧s*s*a≤4:=by
 have p4:∀k:Nat,(0:Rat)<4^k:=fun k=>Rat.pow_pos aH
 have sq:∀k:Nat,(2:Rat)^k*2^k=4^k:=fun k=>by
  induction k with
  |zero=>rw[Rat.pow_zero,Rat.pow_zero,Rat.mul_one]
  |succ k ih=>rw[Rat.pow_succ,Rat.pow_succ];grind
 have p2:∀k:Nat,(0:Rat)<2^k:=fun k=>Rat.pow_pos aH
 by_cases h1:1≤a
 ·-- the least k with a <= 4^(k+1)
  obtain⟨K,hK⟩:=uC a
  obtain⟨k,_,hk,hl⟩:=least (P:=fun k=>a≤4^(k+1)) (b:=K) (by
   have:=vt (K+1)
   rw[Rat.natCast_add]at this
   have:((1:Nat):Rat)=1:=rfl
   grind)
  have oo:4^k≤a:=by
   cases k with
   |zero=>rw[Rat.pow_zero];exact h1
   |succ j=>have:=hl j aa;grind
  refine⟨(2^k)⁻¹,fun e=> ?_, ?_, ?_⟩
  ·have:=Rat.inv_pos.2 (p2 k);grind
  all_goals
   have e1:(2:Rat)^k*(2^k)⁻¹=1:=Rat.mul_inv_cancel _ (by have:=p2 k;grind)
   have e2:=sq k
   have e3:=Rat.inv_pos.2 (p2 k)
   rw[Rat.pow_succ]at hk
   have e4:=Rat.mul_pos e3 e3
   have e5:(2^k)⁻¹*(2^k)⁻¹*(4:Rat)^k=1:=by rw[←e2];grind
  ·have:=Rat.mul_nonneg (show(0:Rat)≤(2^k)⁻¹*(2^k)⁻¹ by grind) (show(0:Rat)≤a - 4^k by grind)
   grind
  ·have:=Rat.mul_nonneg (show(0:Rat)≤(2^k)⁻¹*(2^k)⁻¹ by grind) (show(0:Rat)≤4^k*4 - a by grind)
   grind
 ·obtain⟨K,hK⟩:=uC a⁻¹
  have ha1:a*a⁻¹=1:=Rat.mul_inv_cancel _ (by grind)
  obtain⟨k,_,hk,hl⟩:=least (P:=fun k=>1≤4^k*a) (b:=K) (by
   have h2:=vt K
   have h3:=Rat.mul_nonneg (show(0:Rat)≤4^K - a⁻¹ by grind) (show(0:Rat)≤a by grind)
   grind)
  refine⟨2^k,by have:=p2 k;grind,by rw[sq];exact hk, ?_⟩
  rw[sq]
  cases k with
  |zero=>rw[Rat.pow_zero];grind
  |succ j=>
   have:=hl j aa
   rw[Rat.pow_succ];grind
structure AD (n:Nat) (S M:Mx) (e:Rat) (T:Mx):Prop where
 aby:∀i j,i<n→j<n→i≠j→bf n M (T i) (T j)=0
 QL:∀i,i<n→1≤bf n M (T i) (T i)∧bf n M (T i) (T i)≤4
 QM:∀i j,i<n→j<n→i≠j→ -e≤bf n S (T i) (T j)∧bf n S (T i) (T j)≤e
theorem abz {x e:Rat} (he:0≤e) (h:x*x≤e*e): -e≤x∧x≤e:=by
 constructor
 ·refine Rat.not_lt.1 fun g=> ?_
  have:=Rat.mul_pos (show(0:Rat)< -x - e by grind) (show(0:Rat)< -x+e by grind)
  grind
 ·refine Rat.not_lt.1 fun g=> ?_
  have:=Rat.mul_pos (show(0:Rat)<x - e by grind) (show(0:Rat)<x+e by grind)
  grind
theorem abA {n:Nat} {S M:Mx} {R e:Rat} (hM:hZ (n+1) M) (hR:∀x,qf (n+1) S x≤R*qf (n+1) M x∧ -(R*qf (n+1) M x)≤qf (n+1) S x) (he:0<e):
  ∃(u:Rat) (v:Nat→Rat),(-R - e≤u∧u≤R)∧(∀x,qf (n+1) S x≤u*qf (n+1) M x)∧(1≤qf (n+1) M v∧qf (n+1) M v≤4)∧(u - e)*qf (n+1) M v≤qf (n+1) S v:=by
 have hd:∃i,i<n+1∧delta 0 i≠0:=⟨0,aa,by unfold delta;rw[if_pos rfl];decide⟩
 have hM0:=hM _ hd
 obtain⟨K,hK⟩:=uC (2*R*e⁻¹)
 have hee:e*e⁻¹=1:=Rat.mul_inv_cancel _ (by grind)
 have hKe:2*R<K*e:=by
  have h1:=Rat.mul_pos (show(0:Rat)<K - 2*R*e⁻¹ by grind) he
  have h2:((K:Rat) - 2*R*e⁻¹)*e=K*e - 2*R*(e*e⁻¹):=by generalize e⁻¹=y;grind
  rw[h2,hee]at h1
  grind
 obtain⟨k,hkK,hk,hl⟩:=least (P:=fun k:Nat=>∃x,(R - k*e)*qf (n+1) M x<qf (n+1) S x) (b:=K) ⟨delta 0,by
  have h1:=(hR (delta 0)).2
  have h2:=Rat.mul_pos (show(0:Rat)<K*e - 2*R by grind) hM0
  grind⟩
 obtain⟨x,hx⟩:=hk
 have QN:k≠0:=fun e0=>by
  subst e0
  have h1:=(hR x).1
  have h2:((0:Nat):Rat)=0:=rfl
  rw[h2]at hx
  grind
 obtain⟨j,rfl⟩:∃j,k=j+1:=⟨k - 1,aa⟩
 have hj:∀x,qf (n+1) S x≤(R - j*e)*qf (n+1) M x:=fun x=>by
  have:=hl j aa
  exact Rat.not_lt.1 fun g=>this ⟨x,g⟩
 have hx0:∃i,i<n+1∧x i≠0:=Classical.byContradiction fun GC=>by
  have hz:∀i,i<n+1→x i=0:=fun i hi=>Classical.byContradiction fun g=>GC ⟨i,hi,g⟩
  rw[wy hz,wy hz]at hx
  grind
 have hMx:=hM x hx0
 obtain⟨s,hs0,UQ,hs4⟩:=MP hMx
 have ej:(((j+1:Nat):Nat):Rat)=(j:Rat)+1:=by rw[Rat.natCast_add];rfl
 rw[ej]at hx
 refine⟨R - j*e,fun i=>s*x i,⟨?_, ?_⟩,hj, ?_, ?_⟩
 ·-- the step before is at least -R
  refine Rat.not_lt.1 fun g=> ?_
  have h1:=hj (delta 0)
  have h2:=(hR (delta 0)).2
  have h3:=Rat.mul_pos (show(0:Rat)< -R - e - (R - j*e) by grind) hM0
  have h4:=Rat.mul_pos he hM0
  grind
 ·have:((0:Nat):Rat)≤(j:Rat):=Rat.natCast_le_natCast.2 (Nat.zero_le _)
  have h0:((0:Nat):Rat)=0:=rfl
  have:=Rat.mul_nonneg (show(0:Rat)≤(j:Rat) by grind) (show(0:Rat)≤e by grind)
  grind
 ·rw[sy];exact⟨UQ,hs4⟩
 ·rw[sy,sy]
  have h1:=Rat.mul_pos (sq_pos hs0) (show(0:Rat)<qf (n+1) S x - (R - (j+1)*e)*qf (n+1) M x by grind)
  grind
theorem ahE {e1 R ee:Rat} (h:e1*(16*(2*R+1)+ee)=ee) (h2:0<e1*ee):16*e1*(2*R+1)≤ee:=by grind
theorem HY:∀(n:Nat) {S M:Mx} {R e:Rat},cZ n S→cZ n M→hZ n M→0≤R→(∀x,qf n S x≤R*qf n M x∧ -(R*qf n M x)≤qf n S x)→0<e→∃T,AD n S M e T
 |0,S,M,R,e,_,_,_,_,_,_=>⟨fun _ _=>0,fun i j hi=>absurd hi (Nat.not_lt_zero _),fun i hi=>absurd hi (Nat.not_lt_zero _),fun i j hi=>absurd hi (Nat.not_lt_zero _)⟩
 |n+1,S,M,R,e,hS,hMs,hM,Pm,hR,he=>by
  obtain⟨d,hd⟩:∃d,d=16*(2*R+1)+e*e:=⟨_,rfl⟩
  have hee:=Rat.mul_pos he he
  have hdp:0<d:=by grind
  have Pk:d*d⁻¹=1:=Rat.mul_inv_cancel _ (by grind)
  have hdn:=Rat.inv_pos.2 hdp
  obtain⟨e1,he1⟩:∃e1,e1=e*e*d⁻¹:=⟨_,rfl⟩
  have aft:0<e1:=by rw[he1];exact Rat.mul_pos hee hdn
  have ahF:e1*d=e*e:=by rw[he1];grind
  have akg:e1≤1:=by
   have:=Rat.mul_nonneg (show(0:Rat)≤d - e*e by grind) (show(0:Rat)≤d⁻¹ by grind)
   grind
  have akh:16*e1*(2*R+1)≤e*e:=ahE (by rw[←hd];exact ahF) (Rat.mul_pos aft hee)
  obtain⟨u,v,⟨hu1,zp⟩,qy,⟨hv1,hv4⟩,hvt⟩:=abA hM hR aft
  have hvM:0<qf (n+1) M v:=by grind
  obtain⟨q,hq,hvq⟩:∃q,q<n+1∧v q≠0:=Classical.byContradiction fun GC=>by
   rw[wy fun i hi=>Classical.byContradiction fun g=>GC ⟨i,hi,g⟩]at hvM
   grind
  obtain⟨b,hb⟩:∃b:Nat→Rat,b=fun j=>bf (n+1) M v (delta (sk q j))*(qf (n+1) M v)⁻¹:=⟨_,rfl⟩
  obtain⟨V,hV⟩:∃V:Mx,V=fun j i=>delta (sk q j) i+(-b j)*v i:=⟨_,rfl⟩
  have hMi:qf (n+1) M v*(qf (n+1) M v)⁻¹=1:=Rat.mul_inv_cancel _ (by grind)
  have afu:∀j,bf (n+1) M v (V j)=0:=fun j=>by
   rw[hV]
   show bf (n+1) M v (fun i=>delta (sk q j) i+(-b j)*v i)=0
   rw[wq,El,←l7,hb];grind
  have UR:∀y i,comb n y V i=ao n (fun j=>y j*delta (sk q j) i)+(-v i)*ao n fun j=>y j*b j:=fun y i=>by
   rw[←sum_smul,←sum_add,hV]
   exact ai n fun j _=>by grind
  have ahG:∀y:Nat→Rat,(∀i,i<n+1→comb n y V i=0)→∀l,l<n→y l=0:=fun y hy l hl=>by
   have h1:=hy q hq
   rw[UR,bl fun j _=>by
    show y j*delta (sk q j) q=0
    unfold delta;rw[if_neg (Mc q j)];grind]at h1
   have h2:ao n (fun j=>y j*b j)=0:=by
    have:v q*ao n (fun j=>y j*b j)=0:=by grind
    exact(Rat.mul_eq_zero.1 this).resolve_left hvq
   have h3:=hy (sk q l) (Ay hl)
   rw[UR,h2,dA (j:=l) n hl fun j _ a7=>by
    show y j*delta (sk q j) (sk q l)=0
    unfold delta;rw[if_neg (fun g=>a7 (by have:=congrArg (un q) g;rwa [Mf,Mf]at this))];grind]at h3
   have:y l*delta (sk q l) (sk q l)=y l:=by unfold delta;rw[if_pos rfl];grind
   grind
  have hM':hZ n (pull (n+1) M V):=fun y ⟨l,hl,hy⟩=>by
   rw[sE]
   refine hM _ (Classical.byContradiction fun GC=>hy (ahG y (fun i hi=>Classical.byContradiction fun g=>GC ⟨i,hi,g⟩) l hl))
  obtain⟨T,hT⟩:=HY n (Eo hS) (Eo hMs) hM' Pm (fun y=>by rw[sE,sE];exact hR _) he
  have hN:∀x,0≤qf (n+1) (fun i k=>u*M i k+(-1)*S i k) x:=fun x=>by
   rw[uy,dI,dI];have:=qy x;grind
  have hNs:cZ (n+1) fun i k=>u*M i k+(-1)*S i k:=fun i k hi hk=>by show u*M i k+(-1)*S i k=u*M k i+(-1)*S k i;rw[hS i k hi hk,hMs i k hi hk]
  have ahH:∀x y,bf (n+1) (fun i k=>u*M i k+(-1)*S i k) x y=u*bf (n+1) M x y - bf (n+1) S x y:=fun x y=>by
   unfold bf
   have h1:∀i,ao (n+1) (fun k=>(u*M i k+(-1)*S i k)*y k)=u*ao (n+1) (fun k=>M i k*y k)+(-1)*ao (n+1) fun k=>S i k*y k:=fun i=>by
    rw[←sum_smul,←sum_smul,←sum_add];exact ai _ fun k _=>by grind
   rw[ai (n+1) (g:=fun i=>u*(x i*ao (n+1) fun k=>M i k*y k)+(-1)*(x i*ao (n+1) fun k=>S i k*y k)) fun i _=>by rw[h1];grind,sum_add,sum_smul,sum_smul]
   grind
  have GF:∀y,bf (n+1) M v (comb n y V)=0:=fun y=>by
   rw[yo];exact bl fun j _=>by rw[afu];grind
  have MQ:∀i,i<n→ -e≤bf (n+1) S v (comb n (T i) V)∧bf (n+1) S v (comb n (T i) V)≤e:=fun i hi=>by
   have h1:=QK hNs hN v (comb n (T i) V)
   rw[ahH,GF,Rat.mul_zero]at h1
   have h2:qf (n+1) (fun i k=>u*M i k+(-1)*S i k) v≤4*e1:=by
    rw[uy,dI,dI]
    have:=Rat.mul_nonneg (show(0:Rat)≤e1 by grind) (show(0:Rat)≤4 - qf (n+1) M v by grind)
    grind
   have hw:qf (n+1) M (comb n (T i) V)≤4∧1≤qf (n+1) M (comb n (T i) V):=by
    have:=hT.QL i hi
    rw[sA,←l7]at this
    exact⟨this.2,this.1⟩
   have h3:qf (n+1) (fun i k=>u*M i k+(-1)*S i k) (comb n (T i) V)≤4*(2*R+1):=by
    rw[uy,dI,dI]
    have g1:=(hR (comb n (T i) V)).2
    have g2:=Rat.mul_nonneg (show(0:Rat)≤R - u by grind) (show(0:Rat)≤qf (n+1) M (comb n (T i) V) by grind)
    have g3:=Rat.mul_nonneg (show(0:Rat)≤2*R+1 by grind) (show(0:Rat)≤4 - qf (n+1) M (comb n (T i) V) by grind)
    grind
   have h4:=hN v
   have h5:=hN (comb n (T i) V)
   have h6:=Rat.mul_nonneg h4 (show(0:Rat)≤4*(2*R+1) - qf (n+1) (fun i k=>u*M i k+(-1)*S i k) (comb n (T i) V) by grind)
   have h7:=Rat.mul_nonneg (show(0:Rat)≤4*e1 - qf (n+1) (fun i k=>u*M i k+(-1)*S i k) v by grind) (show(0:Rat)≤4*(2*R+1) by grind)
   refine abz (by grind) ?_
   grind
  refine⟨fun i=>if i=0 then v else comb n (T (i - 1)) V,fun i j hi hj a7=> ?_,fun i hi=> ?_,fun i j hi hj a7=> ?_⟩
  ·cases i with
   |zero=>
    cases j with
    |zero=>exact absurd rfl a7
    |succ j=>exact GF _
   |succ i=>
    cases j with
    |zero=>exact(wv hMs _ _).trans (GF _)
    |succ j=>
     have:=hT.aby i j aa aa aa
     rw[sA]at this
     exact this
  ·cases i with
   |zero=>exact⟨by show 1≤bf (n+1) M v v;rw[←l7];exact hv1,by show bf (n+1) M v v≤4;rw[←l7];exact hv4⟩
   |succ i=>
    have:=hT.QL i aa
    rw[sA]at this
    exact this
  ·cases i with
   |zero=>
    cases j with
    |zero=>exact absurd rfl a7
    |succ j=>exact MQ j aa
   |succ i=>
    cases j with
    |zero=>
     have:=MQ i aa
     rw[wv hS]at this
     exact this
    |succ j=>
     have:=hT.QM i j aa aa aa
     rw[sA]at this
     exact this
theorem pb:∀(x y:List Rat) (j:Nat),(lE x y).getD j 0=x.getD j 0+y.getD j 0
 |[],y,j=>by rw[lE];simp;grind
 |a::x,[],j=>by rw[lE];simp;grind;simp
 |a::x,b::y,0=>by rw[lE];rfl
 |a::x,b::y,j+1=>by
  rw[lE]
  show(lE x y).getD j 0=x.getD j 0+y.getD j 0
  exact pb x y j
theorem jv (s:Rat):∀(x:List Rat) (j:Nat),(x.map (s*·)).getD j 0=s*x.getD j 0
 |[],j=>by simp
 |a::x,0=>rfl
 |a::x,j+1=>jv s x j
theorem Cl (s a:Rat) (l:List Rat) (j:Nat):(qd s (a::l)).getD j 0=l.getD j 0+s*(qd s l).getD j 0:=by rw[qd,pb,jv]
theorem Ep (s:Rat):∀(l:List Rat) (a:Rat) (j:Nat),(qd s (a::l)).getD (j+1) 0=(qd s l).getD j 0
 |[],a,j=>by rw[Cl];simp[qd];grind
 |b::l,a,j=>by
  rw[Cl,Cl s b l j,Ep s l b j];rfl
theorem QO (s a:Rat) (l:List Rat) (j:Nat):(a::l).getD (j+1) 0=(qd s (a::l)).getD j 0 - s*(qd s (a::l)).getD (j+1) 0:=by
 rw[Ep,Cl]
 show l.getD j 0=_
 grind
theorem HZ (l:List Rat):cm l 0=l.getD 0 0:=by
 cases l with
 |nil=>rfl
 |cons a l=>simp only[cm];rw[Rat.zero_mul,Rat.add_zero];rfl
theorem Cm:∀d:Nat,∃C:Rat,0≤C∧∀(l:List Rat) (e:Rat),l.length≤d→0≤e→(∀k:Nat,k<d→Bd (cm l k) e)→∀j,Bd (l.getD j 0) (C*e)
 |0=>⟨0,aH,fun l e hl _ _ j=>by
  obtain rfl:l=[]:=List.eq_nil_of_length_eq_zero aa
  rw[Rat.zero_mul];exact⟨by simp,by simp⟩⟩
 |d+1=>by
  obtain⟨C,hC,ih⟩:=Cm d
  have wX:(0:Rat)≤(d:Rat):=by
   have:((0:Nat):Rat)≤(d:Rat):=Rat.natCast_le_natCast.2 (Nat.zero_le _)
   exact this
  refine⟨1+(1+d)*(2*C), ?_,fun l e hl he h j=> ?_⟩
  ·have:=Rat.mul_nonneg wX hC
   grind
  have hCe:=Rat.mul_nonneg hC he
  have hdC:=Rat.mul_nonneg wX hCe
  cases l with
  |nil=>exact⟨by show -_≤(0:Rat);grind,by show(0:Rat)≤_;grind⟩
  |cons a l=>
   have hq:=ih (qd d (a::l)) (2*e) (by have:=Gr (d:Rat) (a::l);simp at hl this;omega) (by grind) fun k hk=>by
    have h1:=B8 (d:Rat) (a::l) (k:Rat)
    have h2:=h k aa
    have h3:=h d aa
    have h4:((k:Nat):Rat)+1≤(d:Rat):=by
     have:((k+1:Nat):Rat)≤(d:Rat):=Rat.natCast_le_natCast.2 hk
     rw[Rat.natCast_add]at this
     exact this
    obtain⟨g1,g2⟩:=h2
    obtain⟨g3,g4⟩:=h3
    generalize cm (qd (d:Rat) (a::l)) k=y at*
    have h5:((d:Rat) - k)*y≤2*e∧ -(2*e)≤((d:Rat) - k)*y:=by grind
    constructor
    ·refine Rat.not_lt.1 fun g=> ?_
     have:=Rat.mul_nonneg (show(0:Rat)≤(d:Rat) - k - 1 by grind) (show(0:Rat)≤ -y by grind)
     grind
    ·refine Rat.not_lt.1 fun g=> ?_
     have:=Rat.mul_nonneg (show(0:Rat)≤(d:Rat) - k - 1 by grind) (show(0:Rat)≤y by grind)
     grind
   cases j with
   |zero=>
    have h0:=h 0 aa
    rw[show((0:Nat):Rat)=0 from rfl,HZ]at h0
    exact h0.mono (by grind)
   |succ j=>
    rw[QO (d:Rat)]
    have h1:=hq j
    have h2:=hq (j+1)
    have h3:=Bd.mul (x:=(d:Rat)) (a:=(d:Rat)) ⟨by grind,Rat.le_refl⟩ h2
    have h4:=h1.add h3.neg
    rw[←Rat.sub_eq_add_neg]at h4
    exact h4.mono (by grind)
theorem wz {d:Nat} {l m:List Rat} (hl:l.length=d) (hm:m.length=d) (h:∀k:Nat,k<d→cm l k=cm m k):l=m:=by
 obtain⟨C,hC,hn⟩:=Cm d
 have h1:=hn (lE l (m.map (-1*·))) 0 (sh _ _ _ aa (by rw[List.length_map];omega)) Rat.le_refl fun k hk=>by
  rw[mM,jQ,h k hk]
  constructor<;>grind
 refine List.ext_getElem aa fun j g1 g2=> ?_
 have h2:=h1 j
 rw[pb,jv,Rat.mul_zero]at h2
 obtain⟨g3,g4⟩:=h2
 have e1:l.getD j 0=l[j]:=by rw[List.getD_eq_getElem?_getD,List.getElem?_eq_getElem g1];rfl
 have e2:m.getD j 0=m[j]:=by rw[List.getD_eq_getElem?_getD,List.getElem?_eq_getElem g2];rfl
 rw[←e1,←e2]
 grind
theorem Er (d:Nat):∃C:Rat,0≤C∧∀(l m:List Rat) (e:Rat),l.length≤d→m.length≤d→0≤e→(∀k:Nat,k<d→Bd (cm l k - cm m k) e)→∀j,Bd (l.getD j 0 - m.getD j 0) (C*e):=by
 obtain⟨C,hC,hn⟩:=Cm d
 refine⟨C,hC,fun l m e hl hm he h j=> ?_⟩
 have h1:=hn (lE l (m.map (-1*·))) e (sh _ _ _ hl (by rw[List.length_map];exact hm)) he fun k hk=>by
  rw[mM,jQ,show cm l k+ -1*cm m k=cm l k - cm m k by grind];exact h k hk
 have h2:=h1 j
 rw[pb,jv,show l.getD j 0+ -1*m.getD j 0=l.getD j 0 - m.getD j 0 by grind]at h2
 exact h2
theorem H0 (c:Rat) (n:Nat):ao n (fun _=>c)=n*c:=pO c n
theorem MR:∀(n:Nat) (B:Rat),∃D:Rat,0≤D∧∀X:Mx,(∀i k,i<n→k<n→Bd (X i k) B)→Bd (bD n X) D
 |0,B=>⟨1,aH,fun X _=>(show Bd 1 1 from⟨aH,aH⟩)⟩
 |n+1,B=>by
  obtain⟨D,hD,h⟩:=MR n B
  by_cases hB:0≤B
  ·refine⟨((n+1:Nat):Rat)*(B*D), ?_,fun X hX=> ?_⟩
   ·have:((0:Nat):Rat)≤((n+1:Nat):Rat):=Rat.natCast_le_natCast.2 (Nat.zero_le _)
    exact Rat.mul_nonneg this (Rat.mul_nonneg hB hD)
   ·rw[bP,←H0]
    refine Bd.sum (n+1) fun k hk=> ?_
    have h1:=h (mn X k) fun i j hi hj=>hX _ _ aa (Ay hj)
    have:=((hX 0 k aa hk).mul h1).sg k
    rwa [show sg k*X 0 k*bD n (mn X k)=sg k*(X 0 k*bD n (mn X k)) by grind]
  ·exact⟨0,Rat.le_refl,fun X hX=>absurd (hX 0 0 aa aa).yc hB⟩
theorem H2:∀(n:Nat) (B:Rat),∃L:Rat,0≤L∧∀(X Y:Mx) (e:Rat),0≤e→(∀i k,i<n→k<n→Bd (X i k) B∧Bd (Y i k) B∧Bd (X i k - Y i k) e)→Bd (bD n X - bD n Y) (L*e)
 |0,B=>⟨0,Rat.le_refl,fun X Y e he _=>by
  rw[show bD 0 X - bD 0 Y=0 from by show(1:Rat) - 1=0;grind,Rat.zero_mul]
  exact⟨aH,aH⟩⟩
 |n+1,B=>by
  obtain⟨L,hL,h⟩:=H2 n B
  obtain⟨D,hD,hd⟩:=MR n B
  by_cases hB:0≤B
  ·refine⟨((n+1:Nat):Rat)*(D+B*L), ?_,fun X Y e he hX=> ?_⟩
   ·have:((0:Nat):Rat)≤((n+1:Nat):Rat):=Rat.natCast_le_natCast.2 (Nat.zero_le _)
    exact Rat.mul_nonneg this (by have:=Rat.mul_nonneg hB hL;grind)
   ·have e1:bD (n+1) X - bD (n+1) Y=ao (n+1) fun k=>sg k*X 0 k*bD n (mn X k)+(-1)*(sg k*Y 0 k*bD n (mn Y k)):=by
     rw[sum_add,sum_smul,bP,bP];grind
    rw[e1,Rat.mul_assoc,←H0]
    refine Bd.sum (n+1) fun k hk=> ?_
    have h1:=h (mn X k) (mn Y k) e he fun i j hi hj=>hX _ _ aa (Ay hj)
    have h2:=hd (mn X k) fun i j hi hj=>(hX _ _ aa (Ay hj)).1
    obtain⟨b1,b2,b3⟩:=hX 0 k aa hk
    have h3:=((b3.mul h2).add (b2.mul h1)).sg k
    have e2:sg k*X 0 k*bD n (mn X k)+ -1*(sg k*Y 0 k*bD n (mn Y k))=sg k*((X 0 k - Y 0 k)*bD n (mn X k)+Y 0 k*(bD n (mn X k) - bD n (mn Y k))):=by grind
    rw[e2]
    exact h3.mono (by grind)
  ·exact⟨0,Rat.le_refl,fun X Y e he hX=>absurd (hX 0 0 aa aa).1.yc hB⟩
def vr:Int→List Rat→Nat
 |_,[]=>0
 |s,a::r=>if a=0 then vr s r else(if s≠0∧a.num.sign≠s then 1 else 0)+vr a.num.sign r
theorem QP {a:Rat} (h:0<a):a.num.sign=1:=by
 have h1:0≤a.num:=Rat.num_nonneg.2 (by grind)
 have h2:a.num≠0:=fun g=>by have:=Rat.num_eq_zero.1 g;grind
 exact Int.sign_eq_one_of_pos aa
theorem QQ {a:Rat} (h:a<0):a.num.sign= -1:=by
 have:¬0≤a.num:=fun g=>by have:=Rat.num_nonneg.1 g;grind
 exact Int.sign_eq_neg_one_of_neg aa
theorem cY (s:Int) (r:List Rat):vr s (0::r)=vr s r:=by rw[vr,if_pos rfl]
theorem cO {s:Int} {a:Rat} {r:List Rat} (h:0<a):vr s (a::r)=(if s= -1∨(s≠0∧s≠1∧s≠ -1)then 1 else 0)+vr 1 r:=by
 rw[vr,if_neg (by grind),QP h]
 congr 1
 by_cases g:s= -1∨(s≠0∧s≠1∧s≠ -1)
 ·rw[if_pos g,if_pos aa]
 ·rw[if_neg g,if_neg aa]
theorem cP {s:Int} {a:Rat} {r:List Rat} (h:a<0):vr s (a::r)=(if s=1∨(s≠0∧s≠1∧s≠ -1)then 1 else 0)+vr (-1) r:=by
 rw[vr,if_neg (by grind),QQ h]
 congr 1
 by_cases g:s=1∨(s≠0∧s≠1∧s≠ -1)
 ·rw[if_pos g,if_pos aa]
 ·rw[if_neg g,if_neg aa]
def ia (d u:Rat):Rat→List Rat→List Rat
 |p,[]=>[-(u*p)]
 |p,a::l=>(d*a - u*p)::ia d u a l
theorem yp (d u:Rat):∀(l:List Rat) (p:Rat),(ia d u p l).length=l.length+1
 |[],_=>rfl
 |_::l,_=>by rw[ia,List.length_cons,yp d u l,List.length_cons]
theorem yq (d u x:Rat):∀(l:List Rat) (p:Rat),cm (ia d u p l) x=(d - u*x)*cm l x - u*p
 |[],p=>by rw[ia];simp only[cm];grind
 |a::l,p=>by rw[ia];simp only[cm];rw[yq d u x l a];grind
theorem MS {d u:Rat} (hd:0<d) (hu:0<u):∀(l:List Rat) (p:Rat),
  (0<p→vr 1 l+1≤vr 1 (ia d u p l))∧(0≤p→vr 1 l≤vr (-1) (ia d u p l))∧(p<0→vr (-1) l+1≤vr (-1) (ia d u p l))∧(p≤0→vr (-1) l≤vr 1 (ia d u p l))
 |[],p=>by
  have xa:∀{x:Rat},0<x→0<u*x:=fun h=>Rat.mul_pos hu h
  refine⟨fun h=> ?_,fun h=>Nat.zero_le _,fun h=> ?_,fun h=>Nat.zero_le _⟩
  ·have:=xa h
   rw[ia,cP (by grind)];simp[vr]
  ·have:=xa (show 0< -p by grind)
   rw[ia,cO (by grind)];simp[vr]
 |a::l,p=>by
  obtain⟨i1,i2,i3,i4⟩:=MS hd hu l a
  have hda:∀{x:Rat},0<x→0<d*x:=fun h=>Rat.mul_pos hd h
  have xa:∀{x:Rat},0<x→0<u*x:=fun h=>Rat.mul_pos hu h
  rw[ia]
  obtain⟨c,hc⟩:∃c,c=d*a - u*p:=⟨_,rfl⟩
  rw[←hc]
  have Cn:∀x:Rat,x=0∨0<x∨x<0:=fun x=>by grind
  rcases Cn a with ha|ha|ha
  ·-- a = 0
   subst ha
   have nk:c= -(u*p):=by rw[hc];grind
   refine⟨fun h=> ?_,fun h=> ?_,fun h=> ?_,fun h=> ?_⟩
   ·have:=xa h
    rw[cY,cP (by grind)]
    have:=i2 Rat.le_refl
    simp;omega
   ·rw[cY]
    rcases Cn p with hp|hp|hp
    ·rw[show c=0 by rw[nk,hp];grind,cY];exact i2 Rat.le_refl
    ·have:=xa hp
     rw[cP (by grind)]
     have:=i2 Rat.le_refl
     simp;omega
    ·grind
   ·have:=xa (show 0< -p by grind)
    rw[cY,cO (by grind)]
    have:=i4 Rat.le_refl
    simp;omega
   ·rw[cY]
    rcases Cn p with hp|hp|hp
    ·rw[show c=0 by rw[nk,hp];grind,cY];exact i4 Rat.le_refl
    ·grind
    ·have:=xa (show 0< -p by grind)
     rw[cO (by grind)]
     have:=i4 Rat.le_refl
     simp;omega
  ·-- a > 0
   have h1:=i1 ha
   have h2:=i2 (by grind)
   have ahI:=hda ha
   refine⟨fun h=> ?_,fun h=> ?_,fun h=> ?_,fun h=> ?_⟩
   ·rw[cO ha]
    rcases Cn c with g|g|g
    ·rw[g,cY];simp;omega
    ·rw[cO g];simp;omega
    ·rw[cP g];simp;omega
   ·rw[cO ha]
    rcases Cn c with g|g|g
    ·rw[g,cY];simp;omega
    ·rw[cO g];simp;omega
    ·rw[cP g];simp;omega
   ·have:=xa (show 0< -p by grind)
    rw[cO ha,cO (show 0<c by grind)]
    simp;omega
   ·have:0≤u*(-p):=Rat.mul_nonneg (by grind) (by grind)
    rw[cO ha,cO (show 0<c by grind)]
    simp;omega
  ·-- a < 0
   have h3:=i3 ha
   have h4:=i4 (by grind)
   have ahI:=hda (show 0< -a by grind)
   refine⟨fun h=> ?_,fun h=> ?_,fun h=> ?_,fun h=> ?_⟩
   ·have:=xa h
    rw[cP ha,cP (show c<0 by grind)]
    simp;omega
   ·have:0≤u*p:=Rat.mul_nonneg (by grind) h
    rw[cP ha,cP (show c<0 by grind)]
    simp;omega
   ·rw[cP ha]
    rcases Cn c with g|g|g
    ·rw[g,cY];simp;omega
    ·rw[cO g];simp;omega
    ·rw[cP g];simp;omega
   ·rw[cP ha]
    rcases Cn c with g|g|g
    ·rw[g,cY];simp;omega
    ·rw[cO g];simp;omega
    ·rw[cP g];simp;omega
theorem uD {d u:Rat} (hd:0<d) (hu:0<u):∀(l:List Rat),(∃x∈l,x≠0)→vr 0 l+1≤vr 0 (ia d u 0 l)
 |[],h=>by obtain⟨x,hx,_⟩:=h;cases hx
 |a::l,h=>by
  obtain⟨i1,_,i3,_⟩:=MS hd hu l a
  rw[ia,show d*a - u*0=d*a by grind]
  have Cn:a=0∨0<a∨a<0:=by grind
  rcases Cn with ha|ha|ha
  ·subst ha
   rw[Rat.mul_zero,cY,cY]
   refine uD hd hu l ?_
   obtain⟨x,hx,a7⟩:=h
   rcases List.mem_cons.1 hx with e|e
   ·exact absurd e a7
   ·exact⟨x,e,a7⟩
  ·rw[cO ha,cO (Rat.mul_pos hd ha)]
   have:=i1 ha
   simp;omega
  ·have:=Rat.mul_pos hd (show 0< -a by grind)
   rw[cP ha,cP (by grind)]
   have:=i3 ha
   simp;omega
def cU:Bool→List Rat→List Rat
 |_,[]=>[]
 |b,a::l=>(if b then -a else a)::cU (!b) l
theorem lf:∀(l:List Rat) (b:Bool),(cU b l).length=l.length
 |[],_=>rfl
 |_::l,_=>by rw[cU,List.length_cons,lf l,List.length_cons]
theorem sF:∀(l:List Rat) (s:Int),vr (-s) (l.map (-1*·))=vr s l
 |[],_=>rfl
 |a::l,s=>by
  rw[List.map_cons]
  have Cn:a=0∨0<a∨a<0:=by grind
  rcases Cn with ha|ha|ha
  ·subst ha
   rw[show(-1:Rat)*0=0 by grind,cY,cY,sF l s]
  ·have:=sF l 1
   rw[cO ha,cP (show -1*a<0 by grind),this]
   congr 1
   by_cases g:s= -1∨(s≠0∧s≠1∧s≠ -1)
   ·rw[if_pos g,if_pos aa]
   ·rw[if_neg g,if_neg aa]
  ·have this:vr 1 (l.map (-1*·))=vr (-1) l:=by have h:=sF l (-1);rwa [show(- -1:Int)=1 from by decide]at h
   rw[cP ha,cO (show 0< -1*a by grind),this]
   congr 1
   by_cases g:s=1∨(s≠0∧s≠1∧s≠ -1)
   ·rw[if_pos g,if_pos aa]
   ·rw[if_neg g,if_neg aa]
theorem nP:∀(l:List Rat) (b:Bool) (s t:Int),(s=1∨s= -1)→(t=1∨t= -1)→
  vr s l+vr t (cU b l)≤l.length+1∧(t=(if b then s else -s)→vr s l+vr t (cU b l)≤l.length)
 |[],b,s,t,_,_=>⟨by simp[cU,vr],fun _=>by simp[cU,vr]⟩
 |a::l,b,s,t,hs,ht=>by
  rw[cU,List.length_cons]
  have Cn:a=0∨0<a∨a<0:=by grind
  rcases Cn with ha|ha|ha
  ·subst ha
   have e:(if b then -(0:Rat)else 0)=0:=by cases b<;>simp
   rw[e,cY,cY]
   have:=(nP l (!b) s t hs ht).1
   exact⟨aa,fun _=>aa⟩
  ·rw[cO ha]
   cases b
   ·simp only[Bool.false_eq_true,if_false,Bool.not_false]
    rw[cO ha]
    have:=(nP l true 1 1 (.inl rfl) (.inl rfl)).2 rfl
    refine⟨by split<;>split<;>omega,fun h=> ?_⟩
    rcases hs with rfl|rfl<;>subst h<;>simp<;>omega
   ·simp only[if_true,Bool.not_true]
    rw[cP (show -a<0 by grind)]
    have:=(nP l false 1 (-1) (.inl rfl) (.inr rfl)).2 rfl
    refine⟨by split<;>split<;>omega,fun h=> ?_⟩
    rcases hs with rfl|rfl<;>subst h<;>simp<;>omega
  ·rw[cP ha]
   cases b
   ·simp only[Bool.false_eq_true,if_false,Bool.not_false]
    rw[cP ha]
    have:=(nP l true (-1) (-1) (.inr rfl) (.inr rfl)).2 rfl
    refine⟨by split<;>split<;>omega,fun h=> ?_⟩
    rcases hs with rfl|rfl<;>subst h<;>simp<;>omega
   ·simp only[if_true,Bool.not_true]
    rw[cO (show 0< -a by grind)]
    have:=(nP l false (-1) 1 (.inr rfl) (.inl rfl)).2 rfl
    refine⟨by split<;>split<;>omega,fun h=> ?_⟩
    rcases hs with rfl|rfl<;>subst h<;>simp<;>omega
theorem Co:∀(l:List Rat) (b:Bool),vr 0 l+vr 0 (cU b l)≤l.length - 1
 |[],b=>by simp[cU,vr]
 |a::l,b=>by
  rw[cU,List.length_cons]
  have Cn:a=0∨0<a∨a<0:=by grind
  rcases Cn with ha|ha|ha
  ·subst ha
   have e:(if b then -(0:Rat)else 0)=0:=by cases b<;>simp
   rw[e,cY,cY]
   have:=Co l (!b)
   omega
  ·rw[cO ha]
   cases b
   ·simp only[Bool.false_eq_true,if_false,Bool.not_false]
    rw[cO ha]
    have:=(nP l true 1 1 (.inl rfl) (.inl rfl)).2 rfl
    simp;omega
   ·simp only[if_true,Bool.not_true]
    rw[cP (show -a<0 by grind)]
    have:=(nP l false 1 (-1) (.inl rfl) (.inr rfl)).2 rfl
    simp;omega
  ·rw[cP ha]
   cases b
   ·simp only[Bool.false_eq_true,if_false,Bool.not_false]
    rw[cP ha]
    have:=(nP l true (-1) (-1) (.inr rfl) (.inr rfl)).2 rfl
    simp;omega
   ·simp only[if_true,Bool.not_true]
    rw[cO (show 0< -a by grind)]
    have:=(nP l false (-1) 1 (.inr rfl) (.inl rfl)).2 rfl
    simp;omega
theorem Es (d u:Rat):∀(l:List Rat) (b:Bool) (p:Rat),cU b (ia d u p l)=(ia (-d) u (if b then p else -p) (cU b l)).map (-1*·)
 |[],b,p=>by cases b<;>simp[ia,cU]<;>grind
 |a::l,b,p=>by
  have ih:=Es d u l (!b) a
  rw[ia,cU,cU,ia,List.map_cons,ih]
  cases b
  ·simp only[Bool.false_eq_true,if_false,Bool.not_false,if_true]
   congr 1
   grind
  ·simp only[if_true,Bool.not_true,Bool.false_eq_true,if_false]
   congr 1
   grind
def dC:List (Rat×Rat)→List Rat
 |[]=>[1]
 |q::r=>ia q.1 q.2 0 (dC r)
theorem iM:∀L:List (Rat×Rat),(dC L).length=L.length+1
 |[]=>rfl
 |q::r=>by rw[dC,yp,iM r,List.length_cons]
def fA (x:Rat):List (Rat×Rat)→Rat
 |[]=>1
 |q::r=>(q.1 - q.2*x)*fA x r
theorem iN (x:Rat):∀L,cm (dC L) x=fA x L
 |[]=>by simp only[dC,cm,fA];grind
 |q::r=>by rw[dC,yq,iN x r,fA];grind
theorem mO (x:Rat):∀A B,fA x (A++B)=fA x A*fA x B
 |[],B=>by rw[List.nil_append,fA];grind
 |q::A,B=>by rw[List.cons_append,fA,fA,mO x A B];grind
theorem nQ (x:Rat) (p:Rat×Rat→Bool):∀L,fA x L=fA x (L.filter p)*fA x (L.filter fun q=> !p q)
 |[]=>by simp[fA]
 |q::L=>by
  have ih:=nQ x p L
  cases hq:p q<;>simp[hq,fA,ih]<;>grind
theorem yr:∀{L:List (Rat×Rat)},(∀q∈L,0<q.2)→∃x∈dC L,x≠0
 |[],_=>⟨1,List.mem_singleton.2 rfl,aH⟩
 |q::r,h=>by
  obtain⟨x,hx,a7⟩:=yr fun q' qn=>h q' (List.mem_cons_of_mem _ qn)
  refine Classical.byContradiction fun GC=> ?_
  have hz:∀y∈ia q.1 q.2 0 (dC r),y=0:=fun y hy=>Classical.byContradiction fun g=>GC ⟨y,hy,g⟩
  have hu:=h q (List.mem_cons_self ..)
  have key:∀(l:List Rat) (p:Rat),(∀y∈ia q.1 q.2 p l,y=0)→p=0∧∀y∈l,y=0:=by
   intro l
   induction l with
   |nil=>
    intro p hz
    have:=hz _ (List.mem_singleton.2 rfl)
    refine⟨?_,fun _ h=>by cases h⟩
    have:q.2*p=0:=by grind
    exact(Rat.mul_eq_zero.1 this).resolve_left (by grind)
   |cons a l ih=>
    intro p hz
    rw[ia]at hz
    obtain⟨g1,g2⟩:=ih a fun y hy=>hz y (List.mem_cons_of_mem _ hy)
    have:=hz _ (List.mem_cons_self ..)
    subst g1
    refine⟨?_,fun y hy=> ?_⟩
    ·have:q.2*p=0:=by grind
     exact(Rat.mul_eq_zero.1 this).resolve_left (by grind)
    ·rcases List.mem_cons.1 hy with e|e
     ·exact e
     ·exact g2 y e
  exact a7 ((key _ _ hz).2 x hx)
theorem H3 {N:List (Rat×Rat)} (hN:∀q∈N,0<q.2):∀{P:List (Rat×Rat)},(∀q∈P,0<q.1∧0<q.2)→P.length≤vr 0 (dC (P++N))
 |[],_=>Nat.zero_le _
 |q::P,h=>by
  have ih:=H3 hN fun q' qn=>h q' (List.mem_cons_of_mem _ qn)
  have hq:=h q (List.mem_cons_self ..)
  have:=uD hq.1 hq.2 (dC (P++N)) (yr fun q' qn=>by
   rcases List.mem_append.1 qn with e|e
   ·exact(h q' (List.mem_cons_of_mem _ e)).2
   ·exact hN q' e)
  rw[List.cons_append,dC,List.length_cons]
  omega
theorem abC {l:List Rat} (h:∃x∈l,x≠0) (b:Bool):∃x∈cU b l,x≠0:=by
 induction l generalizing b with
 |nil=>obtain⟨x,hx,_⟩:=h;cases hx
 |cons a l ih=>
  obtain⟨x,hx,a7⟩:=h
  rw[cU]
  rcases List.mem_cons.1 hx with e|e
  ·exact⟨_,List.mem_cons_self ..,by subst e;cases b<;>simp<;>grind⟩
  ·obtain⟨y,hy,UD⟩:=ih ⟨x,e,a7⟩ (!b)
   exact⟨y,List.mem_cons_of_mem _ hy,UD⟩
theorem Et {N:List (Rat×Rat)} (hN:∀q∈N,0<q.2):∀{P:List (Rat×Rat)},(∀q∈P,q.1<0∧0<q.2)→P.length≤vr 0 (cU false (dC (P++N)))
 |[],_=>Nat.zero_le _
 |q::P,h=>by
  have ih:=Et hN fun q' qn=>h q' (List.mem_cons_of_mem _ qn)
  have hq:=h q (List.mem_cons_self ..)
  have h1:=uD (show 0< -q.1 by have:=hq.1;grind) hq.2 (cU false (dC (P++N))) (abC (yr fun q' qn=>by
   rcases List.mem_append.1 qn with e|e
   ·exact(h q' (List.mem_cons_of_mem _ e)).2
   ·exact hN q' e) false)
  have h2:=sF (ia (-q.1) q.2 0 (cU false (dC (P++N)))) 0
  rw[List.cons_append,dC,List.length_cons,Es]
  rw[show(if false=true then(0:Rat)else -0)=0 by simp,show(0:Int)= -0 from rfl,h2]
  omega
theorem sH {α:Type} (p:α→Bool):∀L:List α,(L.filter p).length+(L.filter fun q=> !p q).length=L.length
 |[]=>rfl
 |a::L=>by
  have:=sH p L
  cases h:p a<;>simp[h]<;>omega
theorem MT {L:List (Rat×Rat)} (h:∀q∈L,q.1≠0∧0<q.2):vr 0 (dC L)=(L.filter fun q=>decide (0<q.1)).length∧vr 0 (cU false (dC L))=(L.filter fun q=> !decide (0<q.1)).length:=by
 have e1:dC L=dC ((L.filter fun q=>decide (0<q.1))++L.filter fun q=> !decide (0<q.1)):=by
  refine wz (d:=L.length+1) (iM L) (by rw[iM,List.length_append,sH]) fun k _=> ?_
  rw[iN,iN,mO,←nQ]
 have e2:dC L=dC ((L.filter fun q=> !decide (0<q.1))++L.filter fun q=>decide (0<q.1)):=by
  refine wz (d:=L.length+1) (iM L) (by rw[iM,List.length_append,Nat.add_comm (List.length _),sH]) fun k _=> ?_
  rw[iN,iN,mO,Rat.mul_comm,←nQ]
 have hP:∀q∈L.filter fun q=>decide (0<q.1),0<q.1∧0<q.2:=fun q hq=>by
  rw[List.mem_filter]at hq
  exact⟨of_decide_eq_true hq.2,(h q hq.1).2⟩
 have hN:∀q∈L.filter fun q=> !decide (0<q.1),q.1<0∧0<q.2:=fun q hq=>by
  rw[List.mem_filter]at hq
  have h1:=h q hq.1
  have h2:¬0<q.1:=by simpa using hq.2
  exact⟨by grind,h1.2⟩
 have v1:=H3 (fun q hq=>(hN q hq).2) hP
 have v2:=Et (fun q hq=>(hP q hq).2) hN
 rw[←e1]at v1
 rw[←e2]at v2
 have v3:=Co (dC L) false
 rw[iM]at v3
 have v4:=sH (fun q:Rat×Rat=>decide (0<q.1)) L
 omega
end Go.Proofs.YtfpagioknjjacaaGreatDoor
