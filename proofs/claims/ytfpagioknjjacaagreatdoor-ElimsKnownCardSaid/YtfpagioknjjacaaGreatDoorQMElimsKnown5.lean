/- The texts Ek, Em, Ga, Gb, Gc, Gd, Ge, Shelf, Ha, Hb, Pa, Hd, Ja, Ta, Tb, Tc, Ka, Kb, Kc, Kd, Ke, Kg, Kf, Kh, Ra, Rb, Rc, Rd. -/
import Derived.Shelf.Strings.Builder1
import Derived.Shelf.Strings.Builder2
import Derived.Shelf.Strings.OnBuilder
import Derived.Shelf.Small.Bits
import Derived.Shelf.Strings.BuilderF
import Derived.Shelf.Strings.Builder2Cap
import Derived.Shelf.Strconv.Itoa0
import Derived.Shelf.Strconv.Itoa1
import Derived.Shelf.LaysM
import Derived.Shelf.Strconv.Itoa2
import Derived.Shelf.Strconv.Itoa3
import Derived.Shelf.Strings.Prefix
import Derived.Shelf.Bits.Mul64
import Derived.Shelf.Strings.Repeat
import Derived.Ground.Names2Prog
import Derived.Shelf.Slices.ReverseS
import Derived.Shelf.Slices.Cells
import Derived.Test.YtfpagioknjjacaaGreatDoorProg
import Derived.Lib.Walk
import Derived.Lib.ItoaMem
import Derived.Lib.AppendIntMem
import Derived.WalkKit
import Derived.BigCall
import Derived.BigGuard
import Derived.Test.YtfpagioknjjacaaGreatDoorQMElimsKnown4
import Derived.Test.YtfpagioknjjacaaGreatDoorQMElimsKnown3
import Derived.Test.YtfpagioknjjacaaGreatDoorQMElimsKnown2
namespace Go.Proofs.YtfpagioknjjacaaGreatDoor
open Go.Sx
set_option linter.unusedSimpArgs false
set_option linter.unusedVariables false
set_option maxRecDepth 100000
set_option maxHeartbeats 8000000
theorem Kb (a b:Nat) (ha:(af a).length<274877906944) (hb:(af b).length<274877906944) (h0:b≠0):
  ab Tryz.prog 280 [.nat a,.nat b] [] (.ck [.nat (a/b),.nat (a % b),.val (.bool true)]) [] []:=by
 by_cases hs:a<18446744073709551616∧b<18446744073709551616
 ·exact abL a b hs.1 hs.2 h0
 have kz:=vS b
 rw[decide_eq_false h0]at kz
 have kc:=C3 a b aa aa
 have kb:=iq b 1002 aa
 have ka:=iq a 1001 aa
 by_cases aE:a<b
 ·have t1:Hid (decide (((a:Int) - b).sign<0)=true):=show decide (((a:Int) - b).sign<0)=true from decide_eq_true (Int.sign_neg_iff.2 aa)
  rw[Nat.div_eq_of_lt aE,Nat.mod_eq_of_lt aE]
  refine bT [] Tryz.func280 ?_
  intro W0 w0 ρ0 hE
  conv=>whnf
  (repeat((first|refine ag rfl rfl ?_|refine ae rfl rfl ?_|refine aq av ?_|refine aS (by assumption) ?_|rw[t1.out]);conv=>whnf));exact au.refl _
 have t1:Hid (decide (((a:Int) - b).sign<0)=false):=show decide (((a:Int) - b).sign<0)=false from decide_eq_false Q38
 have uv:¬a<18446744073709551616:=aa
 have hlen:(af b).length≤(af a).length:=gL (Nat.lt_of_le_of_lt (Nat.le_of_not_lt aE) (cg a))
 have hA:cA a=af a:=if_neg uv
 rw[hA]at ka
 have xy:=ES b
 have hb0:(af b).length≠0:=(mN h0).1
 have bZ:=eM a
 have hvb:=xB b
 have Yg:=cF b
 have ad0:(cA b).length<549755813888:=by
  have:=ux b (M:=274877906944) aa aa
  omega
 by_cases wI:(af b).length=1
 ·rw[wI]at kb hvb xy
  obtain⟨y,hy⟩:=Int.eq_ofNat_of_zero_le (mT b 0).1
  have Zu:=(mT b 0).2
  have hyb:y=b:=by
   rw[aB,aB,Int.pow_zero,hy]at hvb
   omega
  subst hyb
  have ks:=Gk (af a) (af a).length (Nat.le_refl _) aa (bh a) y h0 aa 1001 2001 aI true a bZ
  have hq:(aB (bJ (a/y) (af a).length) (af a).length).toNat=a/y:=by
   rw[gM,Nat.mod_eq_of_lt (Nat.lt_of_le_of_lt (Nat.div_le_self _ _) (cg a))];exact Int.toNat_natCast _
  have ko:=uw (bJ (a/y) (af a).length) (af a).length (by rw[c6];exact Nat.le_refl _) (by rw[c6];omega) (gj _ _) 2001 true
  rw[hq]at ko
  have hr:a % y<y:=Nat.mod_lt _ aa
  have i1:Hid (IntKind.u64.wrap ((a % y:Nat):Int)=((a % y:Nat):Int)):=show IntKind.u64.wrap ((a % y:Nat):Int)=((a % y:Nat):Int)from ep aa
  have i2:Hid ((cA y).getD (0+Int.toNat 0) 0=(y:Int)):=show(cA y).getD (0+Int.toNat 0) 0=(y:Int)from hy
  refine bT [] Tryz.func280 ?_
  intro W0 w0 ρ0 hE
  conv=>whnf
  (repeat(first|(refine ae rfl rfl ?_;conv=>whnf)|(refine aS (by assumption) ?_;conv=>whnf)|(rw[t1.out];conv=>whnf)))
  rw[dq,decide_eq_false uv]
  (repeat((first|refine ag rfl rfl ?_|refine ae rfl rfl ?_|refine aq av ?_|refine bg Q3 ?_|refine aC Q3 ?_|refine lG (by assumption) rfl ?_|refine mj (by assumption) rfl ?_|refine F5 (by assumption) rfl rfl ?_|rw[i2.out]|rw[i1.out]);conv=>whnf))
  refine vf (fun _ _ h=>h) rfl (r9 ?_ rfl aa) rfl (fun _ _ h=>h) rfl
  rfl
 ·have Kc:2≤(af b).length:=aa
  have QB:(cA b).getD ((af b).length - 1) 0≠0:=xy.resolve_left hb0
  have hbg:4294967296^((af b).length - 1)≤b:=by
   have:=rP (mT b) QB
   rw[show(af b).length - 1+1=(af b).length from aa,hvb,←cX]at this
   omega
  have I5:a/b<4294967296^((af a).length+1 - (af b).length):=by
   refine Nat.div_lt_of_lt_mul (Nat.lt_of_lt_of_le (cg a) ?_)
   have e:4294967296^(af a).length=4294967296^((af b).length - 1)*4294967296^((af a).length+1 - (af b).length):=by rw[←Nat.pow_add];congr 1;omega
   rw[e]
   exact Nat.mul_le_mul_right _ hbg
  have hrb:a % b<4294967296^((af a).length+1):=Nat.lt_of_le_of_lt (Nat.mod_le _ _) (Nat.lt_of_lt_of_le (cg a) (Nat.pow_le_pow_right aI aa))
  have kl:=ab.rN (Yo (af a) (cA b) (af a).length (af b).length a b (Nat.le_refl _) Yg aa ad0 (bh a) (mT b) bZ hvb Kc QB hlen 1001 1002 2001 2002 aI aI aI) (fk:=[(1001,⟨23,true,.ints .u32 (af a)⟩),(1002,⟨23,true,.ints .u32 (cA b)⟩)])
  have ko1:=uw (bJ (a/b) ((af a).length+1 - (af b).length)) ((af a).length+1 - (af b).length) (by rw[c6];exact Nat.le_refl _) (by rw[c6];omega) (gj _ _) 2001 true
  have ko2:=uw (bJ (a % b) ((af a).length+1)) ((af a).length+1) (by rw[c6];exact Nat.le_refl _) (by rw[c6];omega) (gj _ _) 2002 true
  rw[gM,Nat.mod_eq_of_lt I5,Int.toNat_natCast]at ko1
  rw[gM,Nat.mod_eq_of_lt hrb,Int.toNat_natCast]at ko2
  have t2:Hid ((((af b).length:Int)==1)=false):=show(((af b).length:Int)==1)=false from by simp;omega
  have t3:Hid (decide (((af b).length:Int)=1)=false):=show decide (((af b).length:Int)=1)=false from by simp;omega
  refine bT [] Tryz.func280 ?_
  intro W0 w0 ρ0 hE
  conv=>whnf
  (repeat(first|(refine ae rfl rfl ?_;conv=>whnf)|(refine aS (by assumption) ?_;conv=>whnf)|(rw[t1.out];conv=>whnf)))
  rw[dq,decide_eq_false uv]
  (repeat((first|refine ae rfl rfl ?_|refine lG (by assumption) rfl ?_|refine mj (by assumption) rfl ?_|refine⟨[_,_],_,[_,_],[],(by assumption),fY rfl rfl,NQ rfl rfl,ar, ?_⟩|rw[t2.out]);conv=>whnf))
  exact au.refl _
theorem QC (a b:Nat) (ha:(af a).length<274877906944) (hb:(af b).length<274877906944):
  ab Tryz.prog 178 [.nat a,.nat b] [] (.nat (Nat.gcd a b)) [] []:=by
 refine bT [] Tryz.func178 ?_
 intro W0 w0 ρ0 hE
 conv=>whnf
 refine aj hE (fun k=>k) [2,3,4] [2,3,4] (fun m fr hp=>∃x,(af x).length<274877906944∧(af m).length<274877906944∧Nat.gcd x m=Nat.gcd a b∧fr=[(2,.ptr 2 0 0 0),(3,.ptr 3 0 0 0),(4,.ptr 4 0 0 0)]∧hp=[(2,⟨46,true,.one [.nat x]⟩),(3,⟨46,true,.one [.nat m]⟩),(4,⟨46,true,.one [.nat 0]⟩)]) b ?_ ?_ ?_
 ·kernel_rfl
 ·exact⟨a,ha,hb,rfl,rfl,rfl⟩
 rintro m _ _ ⟨x,hx,hm,hg,rfl,rfl⟩
 have kz:=vS m
 by_cases h0:m=0
 ·rw[decide_eq_true h0]at kz
  subst h0
  rw[←hg,Nat.gcd_zero_right]
  conv=>whnf
  (repeat(first|(refine ae rfl rfl ?_;conv=>whnf)|(refine aS (by assumption) ?_;conv=>whnf)));exact au.refl _
 ·rw[decide_eq_false h0]at kz
  have kd:=Kb x m hx hm h0
  have aE:=Nat.mod_lt x (Nat.pos_of_ne_zero h0)
  conv=>whnf
  (repeat(first|(refine ag rfl rfl ?_;conv=>whnf)|(refine aq av ?_;conv=>whnf)|(refine aS (by assumption) ?_;conv=>whnf)))
  refine⟨x % m,fun k=>k,[2,3,4],[2,3,4],aE,av,m,hm, ?_, ?_,rfl,rfl⟩
  ·exact Nat.lt_of_le_of_lt (gL (Nat.lt_trans aE (cg m))) hm
  ·rw[←hg,Nat.gcd_comm m,←Nat.gcd_rec,Nat.gcd_comm]
theorem iP {n:Nat} (h:sz n≤1073741824):(af n).length<274877906944:=by
 have:=Gi (n:=n) (M:=33554432) aa
 omega
theorem Bl:mR 1073741824 where
 qg:=aI
 cmp a b ha hb:=C3 a b (by have:=iP ha;omega) (by have:=iP hb;omega)
 add a b h:=Qt a b (by have:=iP (n:=a) (Nat.le_trans (fK aa) h);omega) (by have:=iP (n:=b) (Nat.le_trans (fK aa) h);omega)
 sub a b ha h:=Qw a b (by have:=iP ha;omega) h
 X9 a b hb h:=JY a b (by have:=iP hb;have:=gL (Nat.lt_trans h (cg b));omega) (by have:=iP hb;omega) h
 mul a b h:=Qy a b (iP aa) (iP aa)
 div a b ha hb h0:=Kb a b (iP ha) (iP hb) h0
 abH a:=JS a
 gcd a b ha hb:=QC a b (iP ha) (iP hb)
def fs (q:Rat):Nat:=q8 q+1
theorem xG (a b:Rat):fs (a+b)≤fs a+fs b:=by have:=@Gd a b;unfold fs;omega
theorem Kd (a b:Rat):fs (a - b)≤fs a+fs b:=by have:=@NG a b;unfold fs;omega
theorem eE (a b:Rat):fs (a*b)≤fs a+fs b:=by have:=@NF a b;unfold fs;omega
theorem qF (a:Rat):fs (-a)=fs a:=by unfold fs;rw[Ge]
theorem Ke (a:Rat):fs a⁻¹≤fs a:=by have:=Gf a;unfold fs;omega
theorem qG (a b:Rat):fs (a/b)≤fs a+fs b:=by rw[Rat.div_def];have h1:=eE a b⁻¹;have h2:=Ke b;omega
theorem fO:fs 0=2:=by decide+kernel
theorem uy:fs 1=2:=by decide+kernel
theorem Yv (q:Rat):2≤fs q:=by have:=dQ q;have:=uu q.den q.den_nz;unfold fs;omega
theorem uz {n:Int} (h0: -9223372036854775808≤n) (h1:n<9223372036854775808):fs (n:Rat)≤65:=by
 have:=NH (n:=n) (k:=64) (Yb h0 h1) aI;unfold fs;omega
theorem Gn (a b:Rat) (h:fs a+fs b≤1073741824):ab Tryz.prog 80 [.frac a,.frac b] [] (.frac (a+b)) [] []:=J6 Bl a b (by unfold fs at h;omega)
theorem vj (a b:Rat) (h:fs a+fs b≤1073741824):ab Tryz.prog 81 [.frac a,.frac b] [] (.frac (a*b)) [] []:=EM Bl a b (by unfold fs at h;omega)
def Gp (n:Int):Int:=if n<0 then 1 else if n>2048 then 3 else 0
theorem Kf (n:Int):ab Tryz.prog 230 [.val (.int .i64 n)] [] (.val (.int .i64 (Gp n))) [] []:=by
 refine bT [] Tryz.func230 ?_
 intro W0 w0 ρ0 hE
 conv=>whnf
 unfold Gp
 by_cases h1:n<0
 ·have t1:decide (n<0)=true:=decide_eq_true h1
  rw[if_pos h1]
  (repeat(first|(refine ag rfl rfl ?_;conv=>whnf)|(rw[t1];conv=>whnf)));exact Q4
 ·have t1:decide (n<0)=false:=decide_eq_false h1
  rw[if_neg h1]
  by_cases h2:n>2048
  ·have t2:decide (n>2048)=true:=decide_eq_true h2
   rw[if_pos h2]
   (repeat((first|refine ag rfl rfl ?_|refine ae rfl rfl ?_|rw[t1]|rw[t2]);conv=>whnf));exact Q4
  ·have t2:decide (n>2048)=false:=decide_eq_false h2
   rw[if_neg h2]
   (repeat(first|(refine ae rfl rfl ?_;conv=>whnf)|(rw[t1];conv=>whnf)|(rw[t2];conv=>whnf)));exact Q4
def nK (ls:List (List Rat)):Int:=if ls.any (fun v=>decide (2048<v.length))then 3 else if ls.all (fun v=>v.length==(ls.headD []).length)then 0 else 1
theorem Gq (ls:List (List Rat)) (hn:ls.length<1099511627776) (hl:∀v∈ls,v.length<1099511627776):ab Tryz.prog 302 [bF 1 aN ls] [] (.val (.int .i64 (nK ls))) [] []:=by
 refine bT [] Tryz.func302 ?_
 intro W0 w0 ρ0 hE
 conv=>whnf
 (repeat(first|(refine ah Q8 ?_;conv=>whnf)))
 refine aj hE (fun k=>k) [0,2,7,8,9] [] (fun m fr hp=>∃i,m=ls.length - i∧i≤ls.length∧(∀j,j<i→decide (2048<(ls.getD j []).length)=false)∧fr=[(0,bF 1 aN ls),(2,.val (.int .i64 0)),(7,bF 1 aN ls),(8,.val (.int .i64 (ls.length:Nat))),(9,.val (.int .i64 (i:Nat)))]∧hp=[]) ls.length ?_ ?_ ?_
 ·kernel_rfl
 ·exact⟨0,rfl,Nat.zero_le _,(fun j hj=>aa),rfl,rfl⟩
 rintro m _ _ ⟨i,rfl,hi,hs,rfl,rfl⟩
 conv=>whnf
 by_cases aE:i<ls.length
 ·have t1:=dx aE
  have t2:=br (i:=i) aa
  by_cases hL:2048<(ls.getD i []).length
  ·have t3:decide (((ls.getD i []).length:Int)>2048)=true:=decide_eq_true aa
   have e:nK ls=3:=by rw[nK,if_pos (ED (d:=[]) aE (decide_eq_true hL))]
   rw[e]
   (repeat((first|refine ag rfl rfl ?_|refine ah Q8 ?_|refine ah Q5 ?_|refine ah mP ?_|rw[t1]|rw[t3]);conv=>whnf));exact Q4
  ·have t3:decide (((ls.getD i []).length:Int)>2048)=false:=decide_eq_false aa
   (repeat((first|refine ag rfl rfl ?_|refine ae rfl rfl ?_|refine ah Q8 ?_|refine ah Q5 ?_|refine ah mP ?_|rw[t1]|rw[t3]|rw[t2]);conv=>whnf))
   refine⟨ls.length - (i+1),fun k=>k,[0,2,7,8,9],[],aa,av,i+1,rfl,aE, ?_,rfl,rfl⟩
   intro j hj
   by_cases hji:j=i
   ·rw[hji];exact decide_eq_false hL
   ·exact hs j aa
 ·have t1:=dA aE
  have hI:i=ls.length:=aa
  subst hI
  have Kg:ls.any (fun v=>decide (2048<v.length))=false:=xo [] hs
  (repeat(first|(refine ae rfl rfl ?_;conv=>whnf)|(refine ah Q8 ?_;conv=>whnf)|(rw[t1];conv=>whnf)))
  refine aj hE (fun k=>k) [0,2,17,18,19] [] (fun m fr hp=>∃i,m=ls.length - i∧i≤ls.length∧(∀j,j<i→((ls.getD j []).length==(ls.headD []).length)=true)∧fr=[(0,bF 1 aN ls),(2,.val (.int .i64 0)),(17,bF 1 aN ls),(18,.val (.int .i64 (ls.length:Nat))),(19,.val (.int .i64 (i:Nat)))]∧hp=[]) ls.length ?_ ?_ ?_
  ·kernel_rfl
  ·exact⟨0,rfl,Nat.zero_le _,(fun j hj=>aa),rfl,rfl⟩
  rintro m _ _ ⟨i,rfl,hi,hs,rfl,rfl⟩
  conv=>whnf
  by_cases aE:i<ls.length
  ·have t1:=dx aE
   have t2:=br (i:=i) aa
   have h0:0<ls.length:=aa
   have hh:ls.getD 0 []=ls.headD []:=by cases ls<;>rfl
   by_cases hL:(ls.getD i []).length=(ls.getD 0 []).length
   ·have t3:(((ls.getD i []).length:Int) != ((ls.getD 0 []).length:Int))=false:=by rw[hL];exact bne_self_eq_false _
    (repeat((first|refine ag rfl rfl ?_|refine ae rfl rfl ?_|refine ah Q8 ?_|refine ah Q5 ?_|refine ah mP ?_|rw[t1]|rw[t3]|rw[t2]);conv=>whnf))
    refine⟨ls.length - (i+1),fun k=>k,[0,2,17,18,19],[],aa,av,i+1,rfl,aE, ?_,rfl,rfl⟩
    intro j hj
    by_cases hji:j=i
    ·rw[hji,hL,hh];exact beq_self_eq_true _
    ·exact hs j aa
   ·have t3:(((ls.getD i []).length:Int) != ((ls.getD 0 []).length:Int))=true:=bne_iff_ne.2 aa
    have e:nK ls=1:=by
     rw[nK,if_neg (by rw[Kg];exact Bool.false_ne_true),if_neg]
     rw[JK (d:=[]) aE (by rw[←hh];exact beq_false_of_ne hL)]
     exact Bool.false_ne_true
    rw[e]
    (repeat((first|refine ag rfl rfl ?_|refine ah Q8 ?_|refine ah Q5 ?_|refine ah mP ?_|rw[t1]|rw[t3]);conv=>whnf));exact Q4
  ·have t1:=dA aE
   have hI:i=ls.length:=aa
   subst hI
   have e:nK ls=0:=by
    rw[nK,if_neg (by rw[Kg];exact Bool.false_ne_true),if_pos (JJ [] hs)]
   rw[e]
   (repeat(first|(refine ae rfl rfl ?_;conv=>whnf)|(rw[t1];conv=>whnf)));exact Q4
theorem zU (a b:List Rat):nK [a,b]=if 2048<a.length∨2048<b.length then 3 else if a.length=b.length then 0 else 1:=by
 simp only[nK,List.any_cons,List.any_nil,Bool.or_false,Bool.or_eq_true,decide_eq_true_eq,List.all_cons,List.all_nil,Bool.and_true,List.headD_cons,beq_self_eq_true,Bool.true_and,beq_iff_eq]
 split
 ·rfl
 ·split
  ·rename_i h;rw[if_pos h.symm]
  ·rename_i h;rw[if_neg (fun h'=>h h'.symm)]
theorem NR (F:Rat→Rat→Rat) (g:FuncId) (a b:List Rat) (rY:a.length=b.length) (hl:a.length≤2048)
  (hf:∀i,i<a.length→ab Tryz.prog g ([]++([.frac (a.getD i 0),.frac (b.getD i 0)]++[])) [] (.frac (F (a.getD i 0) (b.getD i 0))) [] []):
  ab Tryz.prog 213 [aN a,aN b,.clo g [] []] [] (.ck [aN (List.zipWith F a b),.val (.int .i64 0)]) [] []:=by
 have k1:=Gq [a,b] (by simp) (by simp;omega)
 rw[zU,if_neg aa,if_pos rY]at k1
 refine fZ [13] Tryz.func213 ?_
 intro w0 ρ0 hE
 conv=>whnf
 (repeat((first|refine ae rfl rfl ?_|refine And.intro Q6 ?_|refine aS (by assumption) ?_|rw[bne_self_eq_false]|refine ah Q8 ?_|rw[Int.toNat_natCast]);conv=>whnf))
 have hz:=nH (f:=F) rfl rY.symm
 refine aj hE (fun k=>k) [0,1,2,6,7,9,22,23] [20] (fun m fr hp=>∃i,m=a.length - i∧i≤a.length∧fr=[(0,aN a),(1,aN b),(2,.clo g [] []),(6,.val (.slice none 0 0)),(7,.val (.int .i64 0)),(9,.aO 20 5 0 a.length),(22,.val (.int .i64 (a.length:Nat))),(23,.val (.int .i64 (i:Nat)))]∧
  hp=[(20,⟨52,true,.cb ((List.zipWith F a b).take i++List.replicate (a.length - i) 0)⟩)]) a.length ?_ ?_ ?_
 ·kernel_rfl
 ·exact⟨0,rfl,Nat.zero_le _,rfl,rfl⟩
 rintro m _ _ ⟨i,rfl,hi,rfl,rfl⟩
 conv=>whnf
 have hlen:=dG (d:=(0:Rat)) hi hz
 by_cases aE:i<a.length
 ·have t1:=dx aE
  have t2:=br (i:=i) aa
  have k2:=hf i aE
  rw[←rV (f:=F) (d3:=0) aE aa]at k2
  (repeat((first|refine ag rfl rfl ?_|refine aq av ?_|refine And.intro Q6 ?_|refine aS (by assumption) ?_|refine ah og ?_|refine ah Q5 ?_|rw[t1]|rw[t2]|rw[Int.toNat_natCast]|rw[Nat.zero_add]);conv=>whnf))
  refine⟨a.length - (i+1),fun k=>k,[0,1,2,6,7,9,22,23],[20],aa,av,i+1,rfl,aE,rfl, ?_⟩
  rw[←fp (e:=0) aE hz]
  rfl
 ·have t1:=dA aE
  have hI:i=a.length:=aa
  subst hI
  rw[fu hz]
  (repeat(first|(refine ae rfl rfl ?_;conv=>whnf)|(rw[t1];conv=>whnf)))
  exact Q22
theorem NS (F:Rat→Rat→Rat) (g:FuncId) (p:Pred) (a b:List Rat) (rY:a.length=b.length) (hl:a.length≤2048)
  (hf:∀i,i<a.length→ab Tryz.prog g ([]++([.frac (a.getD i 0),.frac (b.getD i 0)]++[.atom p])) [] (.frac (F (a.getD i 0) (b.getD i 0))) [] []):
  ab Tryz.prog 213 [aN a,aN b,.clo g [] [.atom p]] [] (.ck [aN (List.zipWith F a b),.val (.int .i64 0)]) [] []:=by
 have k1:=Gq [a,b] (by simp) (by simp;omega)
 rw[zU,if_neg aa,if_pos rY]at k1
 refine fZ [13] Tryz.func213 ?_
 intro w0 ρ0 hE
 conv=>whnf
 (repeat((first|refine ae rfl rfl ?_|refine And.intro Q6 ?_|refine aS (by assumption) ?_|rw[bne_self_eq_false]|refine ah Q8 ?_|rw[Int.toNat_natCast]);conv=>whnf))
 have hz:=nH (f:=F) rfl rY.symm
 refine aj hE (fun k=>k) [0,1,2,6,7,9,22,23] [20] (fun m fr hp=>∃i,m=a.length - i∧i≤a.length∧fr=[(0,aN a),(1,aN b),(2,.clo g [] [.atom p]),(6,.val (.slice none 0 0)),(7,.val (.int .i64 0)),(9,.aO 20 5 0 a.length),(22,.val (.int .i64 (a.length:Nat))),(23,.val (.int .i64 (i:Nat)))]∧
  hp=[(20,⟨52,true,.cb ((List.zipWith F a b).take i++List.replicate (a.length - i) 0)⟩)]) a.length ?_ ?_ ?_
 ·kernel_rfl
 ·exact⟨0,rfl,Nat.zero_le _,rfl,rfl⟩
 rintro m _ _ ⟨i,rfl,hi,rfl,rfl⟩
 conv=>whnf
 have hlen:=dG (d:=(0:Rat)) hi hz
 by_cases aE:i<a.length
 ·have t1:=dx aE
  have t2:=br (i:=i) aa
  have k2:=hf i aE
  rw[←rV (f:=F) (d3:=0) aE aa]at k2
  (repeat((first|refine ag rfl rfl ?_|refine aq av ?_|refine And.intro Q6 ?_|refine aS (by assumption) ?_|refine ah og ?_|refine ah Q5 ?_|rw[t1]|rw[t2]|rw[Int.toNat_natCast]|rw[Nat.zero_add]);conv=>whnf))
  refine⟨a.length - (i+1),fun k=>k,[0,1,2,6,7,9,22,23],[20],aa,av,i+1,rfl,aE,rfl, ?_⟩
  rw[←fp (e:=0) aE hz]
  rfl
 ·have t1:=dA aE
  have hI:i=a.length:=aa
  subst hI
  rw[fu hz]
  (repeat(first|(refine ae rfl rfl ?_;conv=>whnf)|(rw[t1];conv=>whnf)))
  exact Q22
def vk (l:List Rat):Nat:=(l.map fs).sum
theorem Kh (l:List Rat) (s:Rat):fs (l.foldl (·+·) s)≤fs s+vk l:=by
 induction l generalizing s with
 |nil=>simp[vk]
 |cons q l ih=>
  have:=ih (s+q)
  have:=xG s q
  simp only[List.foldl_cons,vk,List.map_cons,List.sum_cons]at*
  omega
theorem E1 (s q:Rat) (h:fs s+fs q≤1073741824) (K:Nat):
  ab Tryz.prog 301 [.ptr K 0 0 0,.frac q] [(K,⟨336,true,.one [.frac s]⟩)] (.ck []) [] [(K,⟨336,true,.one [.frac (s+q)]⟩)]:=by
 have k1:=Gn s q h
 refine gh (Z:=[]) aJ bO Tryz.func301 rfl av (args:=[.ptr 0 0 0 0,.frac q]) (fk:=[(0,⟨336,true,.one [.frac s]⟩)]) (c:=.ck []) (new:=[]) (upd:=[(0,⟨336,true,.one [.frac (s+q)]⟩)]) (cI.of rfl rfl rfl rfl rfl rfl rfl rfl rfl rfl rfl) rfl (fun _=>K) bo.upd ?_
 intro W0 w0 ρ0 hE
 conv=>whnf
 (repeat(first|(refine aq av ?_;conv=>whnf)|(refine aS (by assumption) ?_;conv=>whnf)))
 exact⟨au.refl _,(fun _ _ h=>by cases h),fun k b hm=>by simp only[List.mem_singleton,Prod.mk.injEq]at hm;obtain⟨rfl,rfl⟩:=hm;rfl⟩
theorem gO (l:List Rat) (i:Nat) (hi:i<l.length):l.take (i+1)=l.take i++[l.getD i 0]:=by rw[List.take_add_one,List.getD_eq_getElem?_getD,List.getElem?_eq_getElem hi];rfl
theorem xH (l:List Rat) (i:Nat) (hi:i<l.length) (s:Rat):(l.take (i+1)).foldl (·+·) s=(l.take i).foldl (·+·) s+l.getD i 0:=by
 rw[gO l i hi,List.foldl_append];rfl
theorem xI (a b:List Rat):vk (a++b)=vk a+vk b:=by unfold vk;rw[List.map_append,List.sum_append]
theorem NT (q:Rat):vk [q]=fs q:=by simp[vk]
theorem Ki (l:List Rat) (i:Nat) (hi:i<l.length):vk (l.take i)+fs (l.getD i 0)≤vk l:=by
 have h1:vk (l.take (i+1))=vk (l.take i)+fs (l.getD i 0):=by rw[gO l i hi,xI,NT]
 have h3:vk l=vk (l.take (i+1))+vk (l.drop (i+1)):=by rw[←xI,List.take_append_drop]
 rw[h3,h1]
 exact Nat.le_add_right _ _
theorem Yw (l:List Rat) (s:Rat) (hn:l.length<1099511627776) (h:fs s+vk l≤1073741824) (K:Nat):
  ab Tryz.prog 300 [.clo 301 [.ptr K 0 0 0] [],aN l] [(K,⟨336,true,.one [.frac s]⟩)] (.ck []) [] [(K,⟨336,true,.one [.frac (l.foldl (·+·) s)]⟩)]:=by
 refine gh (Z:=[]) aJ bO Tryz.func300 rfl av (args:=[.clo 301 [.ptr 1001 0 0 0] [],aN l]) (fk:=[(1001,⟨336,true,.one [.frac s]⟩)]) (c:=.ck []) (new:=[]) (upd:=[(1001,⟨336,true,.one [.frac (l.foldl (·+·) s)]⟩)]) (cI.of rfl rfl rfl rfl rfl rfl rfl rfl rfl rfl rfl) rfl (fun _=>K) bo.upd ?_
 intro W0 w0 ρ0 hE
 conv=>whnf
 (repeat(first|(refine ah Q8 ?_;conv=>whnf)))
 refine aj hE (fun k=>k) [0,1,6,7,8] [1001] (fun m fr hp=>∃i,m=l.length - i∧i≤l.length∧fr=[(0,.clo 301 [.ptr 1001 0 0 0] []),(1,aN l),(6,aN l),(7,.val (.int .i64 (l.length:Nat))),(8,.val (.int .i64 (i:Nat)))]∧
  hp=[(1001,⟨336,true,.one [.frac ((l.take i).foldl (·+·) s)]⟩)]) l.length ?_ ?_ ?_
 ·kernel_rfl
 ·exact⟨0,rfl,Nat.zero_le _,rfl,rfl⟩
 rintro m _ _ ⟨i,rfl,hi,rfl,rfl⟩
 conv=>whnf
 by_cases aE:i<l.length
 ·have t1:=dx aE
  have t2:=br (i:=i) aa
  have hs:=Kh (l.take i) s
  have QD:=Ki l i aE
  have k1:=E1 ((l.take i).foldl (·+·) s) (l.getD i 0) aa 1001
  rw[←xH l i aE s]at k1
  (repeat((first|refine ag rfl rfl ?_|refine F6 (by assumption) rfl rfl ?_|refine ah og ?_|refine ah Q5 ?_|rw[t1]|rw[t2]);conv=>whnf))
  exact⟨l.length - (i+1),fun k=>k,[0,1,6,7,8],[1001],aa,av,i+1,rfl,aE,rfl,rfl⟩
 ·have t1:=dA aE
  have hI:i=l.length:=aa
  subst hI
  rw[List.take_length]
  (repeat(first|(refine ae rfl rfl ?_;conv=>whnf)|(rw[t1];conv=>whnf)))
  exact⟨au.refl _,(fun _ _ h=>by cases h),fun k b hm=>by simp only[List.mem_singleton,Prod.mk.injEq]at hm;obtain⟨rfl,rfl⟩:=hm;rfl⟩
theorem abY (l:List Rat) (hn:l.length<1099511627776) (h:vk l+2≤1073741824):ab Tryz.prog 211 [aN l] [] (.frac (l.foldl (·+·) 0)) [] []:=by
 have k1:=Yw l 0 hn (by rw[fO];omega) 3
 refine bT [] Tryz.func211 ?_
 intro W0 w0 ρ0 hE
 conv=>whnf
 (repeat(first|(refine F6 (by assumption) rfl rfl ?_;conv=>whnf)|(refine ah yN ?_;conv=>whnf)));exact Q4
def Fit (a b:List Rat):Prop:=∀i,i<a.length→fs (a.getD i 0)+fs (b.getD i 0)≤1073741824
abbrev Bm (a b:List Rat):List Rat:=List.zipWith (·*·) a b
abbrev vl (c:Rat) (a b:List Rat):List Rat:=List.zipWith (fun x y=>c*x+y) a b
theorem NU (c x y:Rat) (h:fs c+fs x+fs y≤1073741824):ab Tryz.prog 231 ([]++([.frac x,.frac y]++[bE [.frac c]])) [] (.frac (c*x+y)) [] []:=by
 have k1:=vj c x aa
 have k2:=Gn (c*x) y (by have:=eE c x;omega)
 refine bT [] Tryz.func231 ?_
 intro W0 w0 ρ0 hE
 conv=>whnf
 (repeat(first|(refine aq av ?_;conv=>whnf)|(refine aS (by assumption) ?_;conv=>whnf)|(refine ah Q5 ?_;conv=>whnf)));exact Q4
theorem uA (c:Rat) (a b:List Rat) (rY:a.length=b.length) (hl:a.length≤2048) (h:∀i,i<a.length→fs c+fs (a.getD i 0)+fs (b.getD i 0)≤1073741824):ab Tryz.prog 124 [.frac c,aN a,aN b] [] (.ck [aN (vl c a b),.val (.int .i64 0)]) [] []:=by
 have k1:=NS (fun x y=>c*x+y) 231 (gX [.frac c]) a b rY hl (fun i hi=>NU _ _ _ (h i hi))
 refine bT [3] Tryz.func124 ?_
 intro W0 w0 ρ0 hE
 conv=>whnf
 (repeat(first|(refine aS (by assumption) ?_;conv=>whnf)|(refine ah yN ?_;conv=>whnf)));exact Q4
def E2 (a b:List Rat):Rat:=(Bm a b).foldl (·+·) 0
theorem QE (a b:List Rat) (rY:a.length=b.length) (hl:a.length≤2048) (h:Fit a b) (hs:vk (Bm a b)+2≤1073741824):ab Tryz.prog 89 [aN a,aN b] [] (.ck [.frac (E2 a b),.val (.int .i64 0)]) [] []:=by
 have k1:=NR (·*·) 81 a b rY hl (fun i hi=>vj _ _ (h i hi))
 have k2:=abY (Bm a b) (by simp;omega) hs
 refine bT [] Tryz.func89 ?_
 intro W0 w0 ρ0 hE
 conv=>whnf
 (repeat(first|(refine aS (by assumption) ?_;conv=>whnf)));exact Q4
theorem Kj (n:Nat) (hn:n≤2048):ab Tryz.prog 123 [.val (.int .i64 (n:Nat))] [] (.ck [aN (List.replicate n 0),.val (.int .i64 0)]) [] []:=by
 have k1:=Kf n
 rw[Gp,if_neg aa,if_neg aa]at k1
 refine fZ [] Tryz.func123 ?_
 intro w0 ρ0 hE
 conv=>whnf
 (repeat((first|refine ae rfl rfl ?_|refine And.intro Q6 ?_|refine aS (by assumption) ?_|rw[Int.toNat_natCast]);conv=>whnf));exact Q22
theorem NV (n:Nat) (hn:n≤2048) (K:Nat):ab Tryz.prog 123 [.val (.int .i64 (n:Nat))] [] (.ck [.aO K 5 0 n,.val (.int .i64 0)]) [(K,⟨52,true,.cb (List.replicate n 0)⟩)] []:=by
 have k1:=Kf n
 rw[Gp,if_neg aa,if_neg aa]at k1
 refine gh (Z:=[]) aJ bO Tryz.func123 rfl av (args:=[.val (.int .i64 (n:Nat))]) (fk:=[]) (c:=.ck [.aO 11 5 0 n,.val (.int .i64 0)]) (new:=[(11,⟨52,true,.cb (List.replicate n 0)⟩)]) (upd:=[]) (cI.of rfl rfl rfl rfl rfl rfl rfl rfl rfl rfl rfl) rfl (fun _=>K) bo.one ?_
 intro W0 w0 ρ0 hE
 conv=>whnf
 (repeat((first|refine ae rfl rfl ?_|refine And.intro Q6 ?_|refine aS (by assumption) ?_|rw[Int.toNat_natCast]);conv=>whnf))
 exact⟨au.refl _,(fun k b hm=>by simp only[List.mem_singleton,Prod.mk.injEq]at hm;obtain⟨rfl,rfl⟩:=hm;rfl),(fun _ _ h=>by cases h)⟩
theorem cf:Tryz.prog.eqGuardType Tryz.prog.depth 52=false:=av
theorem oP (a b:Rat):vG A7 ez 10 52 (bD a) (bD b)=some (decide (a=b)):=by
 have e:vG A7 ez 10 52 (bD a) (bD b)=some (((((low a.num.natAbs==low b.num.natAbs)&&(((qg a.num.natAbs).toList==(qg b.num.natAbs).toList)&&true))&&true)&&((decide (a.num<0)==decide (b.num<0))&&true))&&
  (((low (a.den - 1)==low (b.den - 1))&&(((qg (a.den - 1)).toList==(qg (b.den - 1)).toList)&&true))&&true)):=rfl
 rw[e]
 simp only[Bool.and_true]
 rw[nB,nB]
 congr 1
 rw[Bool.eq_iff_iff]
 simp only[Bool.and_eq_true,decide_eq_true_eq,beq_iff_eq,decide_eq_decide]
 have h1:=a.den_pos
 have h2:=b.den_pos
 constructor
 ·rintro⟨⟨h3,h4⟩,h5⟩
  exact Rat.ext aa aa
 ·rintro rfl
  exact⟨⟨rfl,Iff.rfl⟩,rfl⟩
theorem NW (a b:List Rat) (ha:a.length<1099511627776) (hb:b.length<1099511627776):ab Tryz.prog 212 [aN a,aN b] [] (.val (.bool (decide (a=b)))) [] []:=by
 refine bT [] Tryz.func212 ?_
 intro W0 w0 ρ0 hE
 conv=>whnf
 by_cases rY:a.length=b.length
 ·have t0:((a.length:Int) != (b.length:Int))=false:=by rw[rY];exact bne_self_eq_false _
  (repeat(first|(refine ae rfl rfl ?_;conv=>whnf)|(refine ah Q8 ?_;conv=>whnf)|(rw[t0];conv=>whnf)))
  refine aj hE (fun k=>k) [0,1,4,11,12,13] [] (fun m fr hp=>∃i,m=a.length - i∧i≤a.length∧a.take i=b.take i∧fr=[(0,aN a),(1,aN b),(4,.val (.bool false)),(11,aN a),(12,.val (.int .i64 (a.length:Nat))),(13,.val (.int .i64 (i:Nat)))]∧hp=[]) a.length ?_ ?_ ?_
  ·kernel_rfl
  ·exact⟨0,rfl,Nat.zero_le _,rfl,rfl,rfl⟩
  rintro m _ _ ⟨i,rfl,hi,ht,rfl,rfl⟩
  conv=>whnf
  by_cases aE:i<a.length
  ·have t1:=dx aE
   have t2:=br (i:=i) aa
   by_cases hv:a.getD i 0=b.getD i 0
   ·have t3:(!decide (a.getD i 0=b.getD i 0))=false:=by rw[decide_eq_true hv];rfl
    (repeat((first|refine ag rfl rfl ?_|refine ae rfl rfl ?_|refine aq av ?_|refine ah og ?_|refine ah Q5 ?_|refine⟨_,cn aJ cy rfl (ak rfl) (ak rfl) rfl rfl rfl rfl (oP _ _) cf, ?_⟩|rw[t1]|rw[t3]|rw[t2]);conv=>whnf))
    exact⟨a.length - (i+1),fun k=>k,[0,1,4,11,12,13],[],aa,av,i+1,rfl,aE,by rw[gO a i aE,gO b i aa,ht,hv],rfl,rfl⟩
   ·have t3:(!decide (a.getD i 0=b.getD i 0))=true:=by rw[decide_eq_false hv];rfl
    have e:decide (a=b)=false:=decide_eq_false (fun h=>hv (by rw[h]))
    rw[e]
    (repeat((first|refine ag rfl rfl ?_|refine aq av ?_|refine ah og ?_|refine ah Q5 ?_|refine⟨_,cn aJ cy rfl (ak rfl) (ak rfl) rfl rfl rfl rfl (oP _ _) cf, ?_⟩|rw[t1]|rw[t3]);conv=>whnf));exact Q4
  ·have t1:=dA aE
   have hI:i=a.length:=aa
   have e:decide (a=b)=true:=decide_eq_true (by rw[hI,List.take_length]at ht;rw[ht,rY,List.take_length])
   rw[e]
   (repeat(first|(refine ae rfl rfl ?_;conv=>whnf)|(rw[t1];conv=>whnf)));exact Q4
 ·have t0:((a.length:Int) != (b.length:Int))=true:=bne_iff_ne.2 aa
  have e:decide (a=b)=false:=decide_eq_false (fun h=>rY (by rw[h]))
  rw[e]
  (repeat(first|(refine ag rfl rfl ?_;conv=>whnf)|(refine ah Q8 ?_;conv=>whnf)|(rw[t0];conv=>whnf)));exact Q4
theorem Yx (a b:List Rat) (ha:a.length<1099511627776) (hb:b.length<1099511627776):ab Tryz.prog 87 [aN a,aN b] [] (.val (.bool (decide (a=b)))) [] []:=by
 have k1:=NW a b ha hb
 refine bT [] Tryz.func87 ?_
 intro W0 w0 ρ0 hE
 conv=>whnf
 (repeat(first|(refine aS (by assumption) ?_;conv=>whnf)));exact Q4
def jA (l:List Int):List Rat:=l.map fun(n:Int)=>((n:Int):Rat)
theorem pF {α β:Type} {f:α→β} {l:List α} {i:Nat} {d:α} {e:β} (h:i<l.length):(l.map f).getD i e=f (l.getD i d):=by
 simp[List.getD_eq_getElem?_getD,List.getElem?_eq_getElem h]
theorem abZ (l:List Int) (hl:l.length<1099511627776) (h:∀i,i<l.length→ -9223372036854775808≤l.getD i 0∧l.getD i 0<9223372036854775808):ab Tryz.prog 109 [cO .i64 l] [] (aN (jA l)) [] []:=by
 refine fZ [] Tryz.func109 ?_
 intro w0 ρ0 hE
 conv=>whnf
 (repeat(first|(refine And.intro Q6 ?_;conv=>whnf)|(refine ah Q8 ?_;conv=>whnf)|(rw[Int.toNat_natCast];conv=>whnf)))
 have hz:(jA l).length=l.length:=by simp[jA]
 refine aj hE (fun k=>k) [0,2,3,9,10] [7] (fun m fr hp=>∃i,m=l.length - i∧i≤l.length∧fr=[(0,cO .i64 l),(2,.val (.slice none 0 0)),(3,.aO 7 5 0 l.length),(9,.val (.int .i64 (l.length:Nat))),(10,.val (.int .i64 (i:Nat)))]∧
  hp=[(7,⟨52,true,.cb ((jA l).take i++List.replicate (l.length - i) 0)⟩)]) l.length ?_ ?_ ?_
 ·kernel_rfl
 ·exact⟨0,rfl,Nat.zero_le _,rfl,rfl⟩
 rintro m _ _ ⟨i,rfl,hi,rfl,rfl⟩
 conv=>whnf
 have hlen:=dG (d:=(0:Rat)) hi hz
 by_cases aE:i<l.length
 ·have t1:=dx aE
  have t2:=br (i:=i) aa
  obtain⟨b1,b2⟩:=h i aE
  have k1:=dI (l.getD i 0) b1 b2
  rw[←pF (f:=fun(n:Int)=>((n:Int):Rat)) (e:=0) aE]at k1
  (repeat((first|refine ag rfl rfl ?_|refine And.intro Q6 ?_|refine aS (by assumption) ?_|refine ah Q5 ?_|refine ah jw ?_|rw[t1]|rw[t2]|rw[Int.toNat_natCast]|rw[Nat.zero_add]);conv=>whnf))
  refine⟨l.length - (i+1),fun k=>k,[0,2,3,9,10],[7],aa,av,i+1,rfl,aE,rfl, ?_⟩
  rw[←fp (e:=0) aE hz]
  rfl
 ·have t1:=dA aE
  have hI:i=l.length:=aa
  subst hI
  rw[fu hz]
  (repeat(first|(refine ae rfl rfl ?_;conv=>whnf)|(rw[t1];conv=>whnf)));exact Q27
end Go.Proofs.YtfpagioknjjacaaGreatDoor
namespace Go.Proofs
open Go.Shelf
def Tryz.vm:Go.Shelf.Ren:=⟨fun|156=>220|165=>304|166=>305|169=>306|240=>344|241=>345|276=>363|277=>364|n=>n,fun|31=>262|9=>9|3=>3|4=>4|0=>0|20=>20|72=>342|76=>346|70=>340|37=>61|75=>345|127=>387|164=>400|5=>5|80=>348|n=>n,fun|n=>n⟩
theorem Tryz.Gr:Go.Proofs.Lays.n156 Tryz.prog Tryz.vm:={
 mixed:=by kernel_rfl
 f156:=Tryz.func220.trans (congrArg some (by kernel_rfl))
 f165:=Tryz.func304.trans (congrArg some (by kernel_rfl))
 f166:=Tryz.func305.trans (congrArg some (by kernel_rfl))
 f169:=Tryz.func306.trans (congrArg some (by kernel_rfl))
 f240:=Tryz.func344.trans (congrArg some (by kernel_rfl))
 f241:=Tryz.func345.trans (congrArg some (by kernel_rfl))
 f276:=Tryz.func363.trans (congrArg some (by kernel_rfl))
 f277:=Tryz.func364.trans (congrArg some (by kernel_rfl))
 t0:=Tryz.underlying0
 a0:=Tryz.isAgg0
 z0:=Tryz.sizeOf0
 v0:=Tryz.zeroValue0
 t3:=Tryz.underlying3
 a3:=Tryz.isAgg3
 z3:=Tryz.sizeOf3
 v3:=Tryz.zeroValue3
 t4:=Tryz.underlying4
 a4:=Tryz.isAgg4
 z4:=Tryz.sizeOf4
 v4:=Tryz.zeroValue4
 t9:=Tryz.underlying9
 a9:=Tryz.isAgg9
 z9:=Tryz.sizeOf9
 v9:=Tryz.zeroValue9
 t20:=Tryz.underlying20
 a20:=Tryz.isAgg20
 z20:=Tryz.sizeOf20
 v20:=Tryz.zeroValue20
 t31:=Tryz.underlying262
 a31:=Tryz.isAgg262
 z31:=Tryz.sizeOf262
 v31:=Tryz.zeroValue262
 t37:=Tryz.underlying61
 a37:=Tryz.isAgg61
 z37:=Tryz.sizeOf61
 v37:=Tryz.zeroValue61
 t70:=Tryz.underlying340
 a70:=Tryz.isAgg340
 z70:=Tryz.sizeOf340
 v70:=Tryz.zeroValue340
 t72:=Tryz.underlying342
 a72:=Tryz.isAgg342
 z72:=Tryz.sizeOf342
 v72:=Tryz.zeroValue342
 t75:=Tryz.underlying345
 a75:=Tryz.isAgg345
 z75:=Tryz.sizeOf345
 v75:=Tryz.zeroValue345
 t76:=Tryz.underlying346
 a76:=Tryz.isAgg346
 z76:=Tryz.sizeOf346
 v76:=Tryz.zeroValue346
 t127:=Tryz.underlying387
 a127:=Tryz.isAgg387
 z127:=Tryz.sizeOf387
 v127:=Tryz.zeroValue387
 t164:=Tryz.underlying400
 a164:=Tryz.isAgg400
 z164:=Tryz.sizeOf400
 v164:=Tryz.zeroValue400}
theorem Tryz.mb:Builder.Extra Tryz.prog Tryz.vm:={
 sizeBuilder:=by kernel_rfl
 liesBuilder:=by kernel_rfl
 t5:=Tryz.underlying5
 a5:=Tryz.isAgg5
 z5:=Tryz.sizeOf5
 v5:=Tryz.zeroValue5
 infoByte:=by kernel_rfl
 cellsByte:=by kernel_rfl
 sizeByte:=by kernel_rfl
 neB5:=by decide}
open Go.RowKit in
theorem Tryz.strings_Join_none (a:Option Addr) (c:Nat) (sep:ByteArray) (w:World):
  Calls Tryz.prog 220 #[.slice a 0 c,.string sep] w fun e w'=>e= .returned (.string ⟨#[]⟩)∧w'=w:=Any.strings_Join_none Tryz.Gr Tryz.mb a c sep w
open Go.RowKit in
/-- strings.Join: "Join concatenates the elements of its first argument to create a single string. The separator string sep is placed between elements in the resulting string.": HOWEVER MANY ELEMENTS. Below the heap's end the world is as it was. (LAID: no walk: one application.) -/
theorem Tryz.strings_Join (bk o c:Nat) (xs:List ByteArray) (sep:ByteArray) (w:World) (fV:∀(j:Nat) x,xs[j]? =some x→w.cell? ⟨bk,o+j,none⟩=some (.string x)) (hbk:bk<w.heap.size) (hN:xs.length≤140737488355328) (hcap:xs.length≤c) (hlen:(Lib.join (xs.map (·.data.toList)) sep.data.toList).length≤140737488355328):
  Calls Tryz.prog 220 #[.slice (some ⟨bk,o,none⟩) xs.length c,.string sep] w fun e w'=>e= .returned (.string ⟨(Lib.join (xs.map (·.data.toList)) sep.data.toList).toArray⟩)∧Below w.heap.size w w':=Any.strings_Join Tryz.Gr Tryz.mb bk o c xs sep w fV hbk hN hcap hlen
def Tryz.Da:Go.Shelf.Ren:=⟨fun|283=>365|n=>n,fun|3=>3|9=>9|4=>4|n=>n,fun|n=>n⟩
theorem Tryz.NX:Go.Proofs.Lays.n283 Tryz.prog Tryz.Da:={
 mixed:=by kernel_rfl
 f283:=Tryz.func365.trans (congrArg some (by kernel_rfl))
 t3:=Tryz.underlying3
 a3:=Tryz.isAgg3
 z3:=Tryz.sizeOf3
 v3:=Tryz.zeroValue3
 t4:=Tryz.underlying4
 a4:=Tryz.isAgg4
 z4:=Tryz.sizeOf4
 v4:=Tryz.zeroValue4
 t9:=Tryz.underlying9
 a9:=Tryz.isAgg9
 z9:=Tryz.sizeOf9
 v9:=Tryz.zeroValue9}
open Go.Lib in
/-- internal/strconv.small: "small returns the string for an i with 0 <= i < nSmalls.": i's decimal numeral. The world is as it was. (LAID: no walk: one application.) -/
theorem Tryz.internal_strconv_small (i:Nat) (h:i<100) (w:World):
  Calls Tryz.prog 365 #[.int .i64 i] w fun e w'=>e= .returned (.string ⟨(Lib.decDigits i).toArray⟩)∧w'=w:=Any.internal_strconv_small Tryz.NX i h w
def Tryz.Bn:Go.Shelf.Ren:=⟨fun|284=>366|129=>373|317=>372|318=>374|n=>n,fun|53=>44|3=>3|212=>411|0=>0|4=>4|46=>334|5=>5|9=>9|n=>n,fun|17=>2|n=>n⟩
theorem Tryz.Kk:Go.Proofs.LaysM.n284 Tryz.prog Tryz.Bn:={
 mixed:=by kernel_rfl
 f129:=Tryz.func373.trans (congrArg some (by kernel_rfl))
 f284:=Tryz.func366.trans (congrArg some (by kernel_rfl))
 f317:=Tryz.func372.trans (congrArg some (by kernel_rfl))
 f318:=Tryz.func374.trans (congrArg some (by kernel_rfl))
 t0:=Tryz.underlying0
 a0:=Tryz.isAgg0
 z0:=Tryz.sizeOf0
 v0:=Tryz.zeroValue0
 t3:=Tryz.underlying3
 a3:=Tryz.isAgg3
 z3:=Tryz.sizeOf3
 v3:=Tryz.zeroValue3
 t4:=Tryz.underlying4
 a4:=Tryz.isAgg4
 z4:=Tryz.sizeOf4
 v4:=Tryz.zeroValue4
 t5:=Tryz.underlying5
 a5:=Tryz.isAgg5
 z5:=Tryz.sizeOf5
 v5:=Tryz.zeroValue5
 t9:=Tryz.underlying9
 a9:=Tryz.isAgg9
 z9:=Tryz.sizeOf9
 v9:=Tryz.zeroValue9
 t46:=Tryz.underlying334
 a46:=Tryz.isAgg334
 z46:=Tryz.sizeOf334
 v46:=Tryz.zeroValue334
 t53:=Tryz.underlying44
 a53:=Tryz.isAgg44
 z53:=Tryz.sizeOf44
 v53:=Tryz.zeroValue44
 t212:=Tryz.underlying411
 a212:=Tryz.isAgg411
 z212:=Tryz.sizeOf411
 v212:=Tryz.zeroValue411
 g17:=by kernel_rfl
 i0:=by kernel_rfl
 i3:=by kernel_rfl
 i4:=by kernel_rfl
 i5:=by kernel_rfl
 i9:=by kernel_rfl
 i46:=by kernel_rfl
 i53:=by kernel_rfl
 i212:=by kernel_rfl
 m17:=by kernel_rfl}
open Go.Lib in
theorem Tryz.internal_strconv_numDigits (u:Nat) (h1:1≤u) (h2:u<18446744073709551616) (w:World) (htab:Lib.TabIs Tryz.prog w "internal/strconv.uint64pow10" .u64 Lib.pow10Tab):
  Calls Tryz.prog 366 #[.int .u64 u] w fun e w'=>e= .returned (.int .i64 (Lib.nDigits u))∧w'=w:=Any.internal_strconv_numDigits Tryz.Kk u h1 h2 w htab
def Tryz.Db:Go.Shelf.Ren:=⟨fun|285=>367|n=>n,fun|37=>61|53=>44|3=>3|4=>4|51=>23|9=>9|5=>5|0=>0|n=>n,fun|n=>n⟩
theorem Tryz.NY:Go.Proofs.Lays.n285 Tryz.prog Tryz.Db:={
 mixed:=by kernel_rfl
 f285:=Tryz.func367.trans (congrArg some (by kernel_rfl))
 t0:=Tryz.underlying0
 a0:=Tryz.isAgg0
 z0:=Tryz.sizeOf0
 v0:=Tryz.zeroValue0
 t3:=Tryz.underlying3
 a3:=Tryz.isAgg3
 z3:=Tryz.sizeOf3
 v3:=Tryz.zeroValue3
 t4:=Tryz.underlying4
 a4:=Tryz.isAgg4
 z4:=Tryz.sizeOf4
 v4:=Tryz.zeroValue4
 t5:=Tryz.underlying5
 a5:=Tryz.isAgg5
 z5:=Tryz.sizeOf5
 v5:=Tryz.zeroValue5
 t9:=Tryz.underlying9
 a9:=Tryz.isAgg9
 z9:=Tryz.sizeOf9
 v9:=Tryz.zeroValue9
 t37:=Tryz.underlying61
 a37:=Tryz.isAgg61
 z37:=Tryz.sizeOf61
 v37:=Tryz.zeroValue61
 t51:=Tryz.underlying23
 a51:=Tryz.isAgg23
 z51:=Tryz.sizeOf23
 v51:=Tryz.zeroValue23
 t53:=Tryz.underlying44
 a53:=Tryz.isAgg44
 z53:=Tryz.sizeOf44
 v53:=Tryz.zeroValue44}
open Go.RowKit Go.Sort Go.Lib in
/-- internal/strconv.formatBase10: "formatBase10 formats the decimal representation of u into a. The caller is responsible for ensuring that a is big enough to hold u. If a is too big, leading zeros will be filled in as needed.": THE ROW HOLDS u's DIGITS ('FmtInv .. 0 ..': every place t holds 'dg u (len - 1 - t)'); all else is as it was but for the count of draws. (LAID: no walk: one application.) -/
theorem Tryz.internal_strconv_formatBase10 (blk off cap:Nat) (u:Nat) (d:Array UInt8) (w:World) (hH:Holds (fun(b:UInt8)=>Value.int .u8 (b.toNat:Int)) w blk off d) (hu:u<10^d.size) (hu64:u<18446744073709551616) (gV:d.size<4611686018427387904):
  Calls Tryz.prog 367 #[.slice (some ⟨blk,off,none⟩) d.size cap,.int .u64 u] w fun e w'=>
   e= .returned (.tuple #[])∧∃(n v':Nat) (dk:Array UInt8),w'=(putRow (fun(b:UInt8)=>Value.int .u8 (b.toNat:Int)) w blk off dk).drewN n∧FmtInv d.size u 0 v' dk:=Any.internal_strconv_formatBase10 Tryz.NY blk off cap u d w hH hu hu64 gV
def Tryz.Bo:Go.Shelf.Ren:=⟨fun|171=>316|243=>352|246=>369|283=>365|284=>366|285=>367|286=>368|129=>373|317=>372|318=>374|319=>375|320=>376|337=>377|338=>378|n=>n,fun|3=>3|9=>9|2=>2|4=>4|171=>403|0=>0|53=>44|37=>61|5=>5|173=>406|212=>411|51=>23|20=>20|213=>412|46=>334|232=>414|233=>415|n=>n,fun|17=>2|18=>3|19=>4|n=>n⟩
theorem Tryz.Kl:Go.Proofs.LaysM.n171 Tryz.prog Tryz.Bo:={
 mixed:=by kernel_rfl
 f129:=Tryz.func373.trans (congrArg some (by kernel_rfl))
 f171:=Tryz.func316.trans (congrArg some (by kernel_rfl))
 f243:=Tryz.func352.trans (congrArg some (by kernel_rfl))
 f246:=Tryz.func369.trans (congrArg some (by kernel_rfl))
 f283:=Tryz.func365.trans (congrArg some (by kernel_rfl))
 f284:=Tryz.func366.trans (congrArg some (by kernel_rfl))
 f285:=Tryz.func367.trans (congrArg some (by kernel_rfl))
 f286:=Tryz.func368.trans (congrArg some (by kernel_rfl))
 f317:=Tryz.func372.trans (congrArg some (by kernel_rfl))
 f318:=Tryz.func374.trans (congrArg some (by kernel_rfl))
 f319:=Tryz.func375.trans (congrArg some (by kernel_rfl))
 f320:=Tryz.func376.trans (congrArg some (by kernel_rfl))
 f337:=Tryz.func377.trans (congrArg some (by kernel_rfl))
 f338:=Tryz.func378.trans (congrArg some (by kernel_rfl))
 t0:=Tryz.underlying0
 a0:=Tryz.isAgg0
 z0:=Tryz.sizeOf0
 v0:=Tryz.zeroValue0
 t2:=Tryz.underlying2
 a2:=Tryz.isAgg2
 z2:=Tryz.sizeOf2
 v2:=Tryz.zeroValue2
 t3:=Tryz.underlying3
 a3:=Tryz.isAgg3
 z3:=Tryz.sizeOf3
 v3:=Tryz.zeroValue3
 t4:=Tryz.underlying4
 a4:=Tryz.isAgg4
 z4:=Tryz.sizeOf4
 v4:=Tryz.zeroValue4
 t5:=Tryz.underlying5
 a5:=Tryz.isAgg5
 z5:=Tryz.sizeOf5
 v5:=Tryz.zeroValue5
 t9:=Tryz.underlying9
 a9:=Tryz.isAgg9
 z9:=Tryz.sizeOf9
 v9:=Tryz.zeroValue9
 t20:=Tryz.underlying20
 a20:=Tryz.isAgg20
 z20:=Tryz.sizeOf20
 v20:=Tryz.zeroValue20
 t37:=Tryz.underlying61
 a37:=Tryz.isAgg61
 z37:=Tryz.sizeOf61
 v37:=Tryz.zeroValue61
 t46:=Tryz.underlying334
 a46:=Tryz.isAgg334
 z46:=Tryz.sizeOf334
 v46:=Tryz.zeroValue334
 t51:=Tryz.underlying23
 a51:=Tryz.isAgg23
 z51:=Tryz.sizeOf23
 v51:=Tryz.zeroValue23
 t53:=Tryz.underlying44
 a53:=Tryz.isAgg44
 z53:=Tryz.sizeOf44
 v53:=Tryz.zeroValue44
 t171:=Tryz.underlying403
 a171:=Tryz.isAgg403
 z171:=Tryz.sizeOf403
 v171:=Tryz.zeroValue403
 t173:=Tryz.underlying406
 a173:=Tryz.isAgg406
 z173:=Tryz.sizeOf406
 v173:=Tryz.zeroValue406
 t212:=Tryz.underlying411
 a212:=Tryz.isAgg411
 z212:=Tryz.sizeOf411
 v212:=Tryz.zeroValue411
 t213:=Tryz.underlying412
 a213:=Tryz.isAgg412
 z213:=Tryz.sizeOf412
 t232:=Tryz.underlying414
 a232:=Tryz.isAgg414
 z232:=Tryz.sizeOf414
 v232:=Tryz.zeroValue414
 t233:=Tryz.underlying415
 a233:=Tryz.isAgg415
 z233:=Tryz.sizeOf415
 v233:=Tryz.zeroValue415
 g17:=by kernel_rfl
 g18:=by kernel_rfl
 g19:=by kernel_rfl
 i0:=by kernel_rfl
 i2:=by kernel_rfl
 i3:=by kernel_rfl
 i4:=by kernel_rfl
 i5:=by kernel_rfl
 i9:=by kernel_rfl
 i20:=by kernel_rfl
 i37:=by kernel_rfl
 i46:=by kernel_rfl
 i51:=by kernel_rfl
 i53:=by kernel_rfl
 i171:=by kernel_rfl
 i173:=by kernel_rfl
 i212:=by kernel_rfl
 i232:=by kernel_rfl
 i233:=by kernel_rfl
 m17:=by kernel_rfl
 m18:=by kernel_rfl
 m19:=by kernel_rfl}
open Go.RowKit Go.Sort Go.Lib in
/-- strconv.Itoa: "Itoa is equivalent to FormatInt(int64(i), 10).": i's DECIMAL NUMERAL ('Lib.itoa': a '-' where i is negative, then the digits), FOR EVERY int. The world behind the call: the world before it, new blocks behind the heap (the library's 'var a [24]byte'), draws. (LAID: no walk: one application.) -/
theorem Tryz.strconv_Itoa (n:Int) (h0: -9223372036854775808≤n) (h1:n≤9223372036854775807) (w:World) (htab:Lib.TabIs Tryz.prog w "internal/strconv.uint64pow10" .u64 Lib.pow10Tab):
  Calls Tryz.prog 316 #[.int .i64 n] w fun e w'=>e= .returned (.string ⟨(Lib.itoa n).toArray⟩)∧∃k os,w'=grow (w.drewN k) os:=Any.strconv_Itoa Tryz.Kl n h0 h1 w htab
def Tryz.vn:Go.Shelf.Ren:=⟨fun|105=>317|212=>353|99=>354|165=>304|166=>305|170=>355|169=>306|263=>370|264=>298|206=>371|240=>344|241=>345|276=>363|277=>364|n=>n,fun|9=>9|3=>3|4=>4|20=>20|0=>0|46=>334|109=>391|5=>5|72=>342|76=>346|51=>23|146=>383|53=>44|148=>331|70=>340|37=>61|75=>345|127=>387|164=>400|80=>348|n=>n,fun|n=>n⟩
theorem Tryz.NZ:Go.Proofs.Lays.n105 Tryz.prog Tryz.vn:={
 mixed:=by kernel_rfl
 f99:=Tryz.func354.trans (congrArg some (by kernel_rfl))
 f105:=Tryz.func317.trans (congrArg some (by kernel_rfl))
 f165:=Tryz.func304.trans (congrArg some (by kernel_rfl))
 f166:=Tryz.func305.trans (congrArg some (by kernel_rfl))
 f169:=Tryz.func306.trans (congrArg some (by kernel_rfl))
 f170:=Tryz.func355.trans (congrArg some (by kernel_rfl))
 f206:=Tryz.func371.trans (congrArg some (by kernel_rfl))
 f212:=Tryz.func353.trans (congrArg some (by kernel_rfl))
 f240:=Tryz.func344.trans (congrArg some (by kernel_rfl))
 f241:=Tryz.func345.trans (congrArg some (by kernel_rfl))
 f263:=Tryz.func370.trans (congrArg some (by kernel_rfl))
 f264:=Tryz.func298.trans (congrArg some (by kernel_rfl))
 f276:=Tryz.func363.trans (congrArg some (by kernel_rfl))
 f277:=Tryz.func364.trans (congrArg some (by kernel_rfl))
 t0:=Tryz.underlying0
 a0:=Tryz.isAgg0
 z0:=Tryz.sizeOf0
 v0:=Tryz.zeroValue0
 t3:=Tryz.underlying3
 a3:=Tryz.isAgg3
 z3:=Tryz.sizeOf3
 v3:=Tryz.zeroValue3
 t4:=Tryz.underlying4
 a4:=Tryz.isAgg4
 z4:=Tryz.sizeOf4
 v4:=Tryz.zeroValue4
 t5:=Tryz.underlying5
 a5:=Tryz.isAgg5
 z5:=Tryz.sizeOf5
 v5:=Tryz.zeroValue5
 t9:=Tryz.underlying9
 a9:=Tryz.isAgg9
 z9:=Tryz.sizeOf9
 v9:=Tryz.zeroValue9
 t20:=Tryz.underlying20
 a20:=Tryz.isAgg20
 z20:=Tryz.sizeOf20
 v20:=Tryz.zeroValue20
 t37:=Tryz.underlying61
 a37:=Tryz.isAgg61
 z37:=Tryz.sizeOf61
 v37:=Tryz.zeroValue61
 t46:=Tryz.underlying334
 a46:=Tryz.isAgg334
 z46:=Tryz.sizeOf334
 v46:=Tryz.zeroValue334
 t51:=Tryz.underlying23
 a51:=Tryz.isAgg23
 z51:=Tryz.sizeOf23
 v51:=Tryz.zeroValue23
 t53:=Tryz.underlying44
 a53:=Tryz.isAgg44
 z53:=Tryz.sizeOf44
 v53:=Tryz.zeroValue44
 t70:=Tryz.underlying340
 a70:=Tryz.isAgg340
 z70:=Tryz.sizeOf340
 v70:=Tryz.zeroValue340
 t72:=Tryz.underlying342
 a72:=Tryz.isAgg342
 z72:=Tryz.sizeOf342
 v72:=Tryz.zeroValue342
 t75:=Tryz.underlying345
 a75:=Tryz.isAgg345
 z75:=Tryz.sizeOf345
 v75:=Tryz.zeroValue345
 t76:=Tryz.underlying346
 a76:=Tryz.isAgg346
 z76:=Tryz.sizeOf346
 v76:=Tryz.zeroValue346
 t109:=Tryz.underlying391
 a109:=Tryz.isAgg391
 z109:=Tryz.sizeOf391
 v109:=Tryz.zeroValue391
 t127:=Tryz.underlying387
 a127:=Tryz.isAgg387
 z127:=Tryz.sizeOf387
 v127:=Tryz.zeroValue387
 t146:=Tryz.underlying383
 a146:=Tryz.isAgg383
 z146:=Tryz.sizeOf383
 v146:=Tryz.zeroValue383
 t148:=Tryz.underlying331
 a148:=Tryz.isAgg331
 z148:=Tryz.sizeOf331
 v148:=Tryz.zeroValue331
 t164:=Tryz.underlying400
 a164:=Tryz.isAgg400
 z164:=Tryz.sizeOf400
 v164:=Tryz.zeroValue400}
theorem Tryz.sh:Builder.Extra Tryz.prog Tryz.vn:={
 sizeBuilder:=by kernel_rfl
 liesBuilder:=by kernel_rfl
 t5:=Tryz.underlying5
 a5:=Tryz.isAgg5
 z5:=Tryz.sizeOf5
 v5:=Tryz.zeroValue5
 infoByte:=by kernel_rfl
 cellsByte:=by kernel_rfl
 sizeByte:=by kernel_rfl
 neB5:=by decide}
open Go.RowKit Go.Lib in
theorem Tryz.strings_Repeat (s:ByteArray) (c:Nat) (w:World) (hc:c≤9223372036854775807) (hlen:s.size*c≤140737488355328):
  Calls Tryz.prog 317 #[.string s,.int .i64 c] w fun e w'=>e= .returned (.string ⟨(Lib.repeatL s.data.toList c).toArray⟩)∧Below w.heap.size w w':=Any.strings_Repeat Tryz.NZ Tryz.sh s c w hc hlen
end Go.Proofs
namespace Go.Proofs.YtfpagioknjjacaaGreatDoor
open Go.Sx
set_option linter.unusedSimpArgs false
set_option linter.unusedVariables false
set_option maxRecDepth 100000
set_option maxHeartbeats 4000000
def N0:Nat→Nat→List UInt8
 |0,_=>[]
 |f+1,n=>if n<10 then[UInt8.ofNat (48+n)]else N0 f (n/10)++[UInt8.ofNat (48+n % 10)]
theorem Gs:∀f n,n<f→N0 f n=Lib.decDigits n
 |0,n,h=>aa
 |f+1,n,h=>by
  rw[N0,Lib.decDigits]
  by_cases h1:n<10
  ·rw[if_pos h1,dif_pos h1]
  ·rw[if_neg h1,dif_neg h1,Gs f (n/10) aa]
def tN (n:Nat):ByteArray:=⟨(N0 (n+1) n).toArray⟩
theorem qo (n:Nat):tN n=⟨(Lib.decDigits n).toArray⟩:=by rw[tN,Gs _ _ (Nat.lt_succ_self n)]
def tZ (z:Int):ByteArray:=if z<0 then "-".toUTF8++tN z.natAbs else tN z.natAbs
def tQ (q:Rat):ByteArray:=if q.den=1 then tZ q.num else tZ q.num++ "/".toUTF8++tN q.den
theorem N1 (i:Nat) (h:i<100):ab Tryz.prog 365 [.val (.int .i64 (i:Nat))] [] (.val (.string (tN i))) [] []:=
 EE (vs:=[.int .i64 (i:Nat)]) ⟨Tryz.f365,Tryz.func365,rfl,av⟩ rfl (fun w=>by rw[qo];exact Tryz.internal_strconv_small i h w)
theorem HI (n:Nat) (h:n<100):ab Tryz.prog 350 [.val (.int .u64 (n:Nat)),.val (.int .i64 10)] [] (.val (.string (tN n))) [] []:=by
 have k1:=N1 n h
 have t1:decide ((n:Int)<100)=true:=decide_eq_true aa
 have t2:IntKind.i64.wrap (n:Int)=n:=wrap_i64 aa aa
 refine bT [] Tryz.func350 ?_
 intro W0 w0 ρ0 hE
 conv=>whnf
 (repeat((first|refine ag rfl rfl ?_|refine aS (by assumption) ?_|rw[beq_self_eq_true]|rw[t1]|rw[t2]);conv=>whnf));exact Q4
theorem Km (n:Nat) (h:n<100):ab Tryz.prog 313 [.val (.int .u64 (n:Nat)),.val (.int .i64 10)] [] (.val (.string (tN n))) [] []:=by
 have k1:=HI n h
 refine bT [] Tryz.func313 ?_
 intro W0 w0 ρ0 hE
 conv=>whnf
 (repeat(first|(refine aS (by assumption) ?_;conv=>whnf)));exact Q4
def tV (a:List Rat):ByteArray:= "[".toUTF8++⟨(Lib.join ((a.map tQ).map (·.data.toList)) [32]).toArray⟩++ "]".toUTF8
theorem Kn (ss:List ByteArray) (hN:ss.length≤1099511627776) (hlen:(Lib.join (ss.map (·.data.toList)) [32]).length≤140737488355328):
  ab Tryz.prog 220 [bF 1 q7 ss,.val (.string ⟨#[32]⟩)] [] (.val (.string ⟨(Lib.join (ss.map (·.data.toList)) [32]).toArray⟩)) [] []:=by
 refine Hx ⟨Tryz.f220,Tryz.func220,rfl,av⟩ rfl ?_ ?_
 ·rintro rfl a w
  exact Tryz.strings_Join_none a 0 ⟨#[32]⟩ w
 ·intro bk o c w hc hb hcap
  exact Tryz.strings_Join bk o c ss ⟨#[32]⟩ w hc hb aa hcap hlen
abbrev qA:Int×Int→SV:=ag2 (jv .i64) (jv .u32)
def qV (q:Int×Int):Rat:=(q.1:Rat)/((if q.2<1 then 1 else q.2:Int):Rat)
def ue (q:Int×Int):Prop:=(-9223372036854775808≤q.1∧q.1<9223372036854775808)∧(0≤q.2∧q.2<4294967296)
theorem Dc {q:Int×Int} (h:ue q):fs (qV q)≤130:=by
 have h1:=qG (q.1:Rat) ((if q.2<1 then 1 else q.2:Int):Rat)
 have h2:=uz h.1.1 h.1.2
 have h3:fs ((if q.2<1 then 1 else q.2:Int):Rat)≤65:=uz IH IH
 unfold qV
 omega
theorem zV (q:Int×Int) (h:ue q):ab Tryz.prog 39 [qA q] [] (.frac (qV q)) [] []:=by
 have hd:(if q.2<1 then 1 else q.2)≠0:=by have:=h.2;split<;>omega
 have e1:(if (1:Int)>q.2 then 1 else q.2)=(if q.2<1 then 1 else q.2):=rfl
 have e2:IntKind.i64.wrap (if (1:Int)>q.2 then 1 else q.2)=(if q.2<1 then 1 else q.2):=wrap_i64 IH IH
 have g2:=uz h.1.1 h.1.2
 have g3:fs ((if q.2<1 then 1 else q.2:Int):Rat)≤65:=uz IH IH
 have k1:=abI Bl q.1 (if q.2<1 then 1 else q.2) (by unfold fs at g2 g3;omega) h.1.1 h.1.2 IH IH hd
 refine bT [] Tryz.func39 ?_
 intro W0 w0 ρ0 hE
 conv=>whnf
 (repeat(first|(refine aS (by assumption) ?_;conv=>whnf)|(rw[e2];conv=>whnf)));exact Q4
theorem Ko {α:Type} {l:List α} {i:Nat} {d:α} (h:i<l.length):(l.take i).take i++(([l.getD i d]:List α).drop 0).take 1=l.take (i+1):=by
 have e:l.take (i+1)=l.take i++[l.getD i d]:=by rw[List.take_add_one,List.getD_eq_getElem?_getD,List.getElem?_eq_getElem h];rfl
 rw[List.take_take,Nat.min_self,e];rfl
def aD:Nat→(Nat→Rat)→Rat
 |0,_=>0
 |n+1,f=>aD n f+f n
theorem zW (l:List Rat):∀n,n≤l.length→(l.take n).foldl (·+·) 0=aD n (fun i=>l.getD i 0)
 |0,_=>rfl
 |n+1,h=>by rw[xH l n aa,zW l n aa,aD]
theorem Dd {a b:List Rat} {n:Nat} (ha:a.length=n) (hb:b.length=n):E2 a b=aD n (fun i=>a.getD i 0*b.getD i 0):=by
 have hz:(Bm a b).length=n:=nH ha hb
 have h1:=zW (Bm a b) n aa
 rw[List.take_of_length_le aa]at h1
 rw[E2,h1]
 clear h1
 have key:∀m,m≤n→aD m (fun i=>(Bm a b).getD i 0)=aD m (fun i=>a.getD i 0*b.getD i 0):=by
  intro m
  induction m with
  |zero=>intro _;rfl
  |succ m ih=>intro h;rw[aD,aD,ih aa,rV (d1:=0) (d2:=0) aa aa]
 exact key n (Nat.le_refl _)
section
variable (x y:Nat→Rat)
end
theorem ai {f g:Nat→Rat}:∀n,(∀i,i<n→f i=g i)→aD n f=aD n g
 |0,_=>rfl
 |n+1,h=>by rw[aD,aD,ai n (fun i hi=>h i aa),h n aa]
theorem oQ:∀n,aD n (fun _=>0)=0
 |0=>rfl
 |n+1=>by rw[aD,oQ n];grind
def Sm (B:Nat) (l:List Rat):Prop:=∀i,i<l.length→fs (l.getD i 0)≤B
theorem E3 {op:Rat→Rat→Rat} {a b:List Rat} {A B:Nat} (hop:∀x y,fs (op x y)≤fs x+fs y) (ha:Sm A a) (hb:Sm B b) (rY:a.length=b.length):Sm (A+B) (List.zipWith op a b):=by
 intro i hi
 rw[List.length_zipWith]at hi
 rw[rV (d1:=0) (d2:=0) aa aa]
 have h1:=hop (a.getD i 0) (b.getD i 0)
 have h2:=ha i aa
 have h3:=hb i aa
 omega
theorem Bp:∀{l:List Rat} {B:Nat},Sm B l→vk l≤l.length*B
 |[],_,_=>by simp[vk]
 |q::l,B,h=>by
  have h1:=h 0 (by simp)
  have h2:=Bp (l:=l) (B:=B) (fun i hi=>h (i+1) (by simpa using hi))
  have e:vk (q::l)=fs q+vk l:=by simp[vk]
  rw[e,List.length_cons,Nat.succ_mul]
  have:fs q≤B:=h1
  omega
theorem Kp {a b:List Rat} {A B:Nat} (ha:Sm A a) (hb:Sm B b) (rY:a.length=b.length) (h:A+B≤1073741824):Fit a b:=by
 intro i hi
 have h1:=ha i hi
 have h2:=hb i aa
 omega
theorem N2 {a b:List Rat} {A B n:Nat} (ha:Sm A a) (hb:Sm B b) (h1:a.length=n) (h2:b.length=n):fs (E2 a b)≤2+n*(A+B):=by
 have h:=Bp (E3 eE ha hb (h1.trans h2.symm))
 rw[nH h1 h2]at h
 have h3:=Kh (Bm a b) 0
 rw[fO]at h3
 unfold E2
 exact Nat.le_trans h3 (Nat.add_le_add_left h 2)
abbrev Kq (l:List (Int×Int)):Prop:=l.length≤maxLen∧∀x∈l,((Lit.int .i64 x.1).wf=true)∧((Lit.int .u32 x.2).wf=true)
theorem qH {l:List (Int×Int)} (w:l.length≤maxLen∧∀x∈l,((Lit.int .i64 x.1).wf=true)∧((Lit.int .u32 x.2).wf=true)):∀q∈l,ue q:=fun q hq=>⟨wf_i64 (w.2 q hq).1,wf_u32 (w.2 q hq).2⟩
theorem N3 {q:Int×Int} (w:((Lit.int .i64 q.1).wf=true)∧((Lit.int .u32 q.2).wf=true)):ue q:=⟨wf_i64 w.1,wf_u32 w.2⟩
theorem n8 {A B:Nat} {l:List Rat} (h:A≤B) (ha:Sm A l):Sm B l:=fun i hi=>Nat.le_trans (ha i hi) h
theorem si (n:Nat):Sm 2 (List.replicate n 0):=by
 intro i hi
 rw[List.length_replicate]at hi
 simp[List.getD_eq_getElem?_getD,hi,fO]
section
variable {a b z:List Rat} {n i:Nat} {c:Rat}
theorem pG (ha:a.length=n) (hb:b.length=n) (h:∀i,i<n→a.getD i 0=b.getD i 0):a=b:=by
 refine List.ext_getElem (ha.trans hb.symm) fun i h1 h2=> ?_
 have:=h i aa
 rwa [List.getD_eq_getElem?_getD,List.getD_eq_getElem?_getD,List.getElem?_eq_getElem h1,List.getElem?_eq_getElem h2]at this
theorem De (hi:i<n):(List.replicate n (0:Rat)).getD i 0=0:=by simp[List.getD_eq_getElem?_getD,hi]
theorem sum_add (f g:Nat→Rat):∀n,aD n (fun i=>f i+g i)=aD n f+aD n g
 |0=>by simp only[aD];grind
 |n+1=>by simp only[aD];rw[sum_add f g n];grind
theorem sum_smul (c:Rat) (f:Nat→Rat):∀n,aD n (fun i=>c*f i)=c*aD n f
 |0=>by simp only[aD];grind
 |n+1=>by simp only[aD];rw[sum_smul c f n];grind
theorem mm (ha:a.length=n) (hb:b.length=n) (hn:n≤2048) (h:a=b):ab Tryz.prog 87 [aN a,aN b] [] (.val (.bool true)) [] []:=by
 have:=Yx a b aa aa
 rwa [decide_eq_true h]at this
end
def mk (r c:Nat) (f:Nat→Nat→Rat):List Rat:=(List.range (r*c)).map fun p=>f (p/c) (p % c)
abbrev el (a:List Rat) (c i k:Nat):Rat:=a.getD (i*c+k) 0
theorem dJ (r c:Nat) (f:Nat→Nat→Rat):(mk r c f).length=r*c:=by simp[mk]
theorem gF {r c i k:Nat} (hi:i<r) (hk:k<c):i*c+k<r*c:=by
 have:=Nat.mul_le_mul_right c (show i+1≤r from hi)
 rw[Nat.succ_mul]at this;omega
theorem vW {c i k:Nat} (hk:k<c):(i*c+k)/c=i:=by
 rw[Nat.mul_comm,Nat.mul_add_div aa,Nat.div_eq_of_lt hk,Nat.add_zero]
theorem vX {c i k:Nat} (hk:k<c):(i*c+k) % c=k:=by
 rw[Nat.mul_comm,Nat.mul_add_mod,Nat.mod_eq_of_lt hk]
theorem QF {r c:Nat} {f:Nat→Nat→Rat} {p:Nat} (hp:p<r*c):(mk r c f).getD p 0=f (p/c) (p % c):=by
 simp[mk,List.getD_eq_getElem?_getD,hp]
theorem ec {r c i k:Nat} {f:Nat→Nat→Rat} (hi:i<r) (hk:k<c):el (mk r c f) c i k=f i k:=by
 rw[el,QF (gF hi hk),vW hk,vX hk]
theorem iQ {r c p:Nat} (hp:p<r*c):p/c<r∧p % c<c∧p/c*c+p % c=p:=by
 have hc:0<c:=by rcases Nat.eq_zero_or_pos c with h|h
                 ·subst h;omega
                 ·exact h
 refine⟨(Nat.div_lt_iff_lt_mul hc).2 hp,Nat.mod_lt _ hc, ?_⟩
 rw[Nat.mul_comm];exact Nat.div_add_mod p c
theorem Gt {a b:List Rat} {r c:Nat} (ha:a.length=r*c) (hb:b.length=r*c) (h:∀i k,i<r→k<c→el a c i k=el b c i k):a=b:=by
 refine pG ha hb fun p hp=> ?_
 obtain⟨h1,h2,h3⟩:=iQ hp
 have:=h _ _ h1 h2
 rwa [el,el,h3]at this
theorem xJ {a:List Rat} {r c:Nat} {f:Nat→Nat→Rat} (ha:a.length=r*c) (h:∀i k,i<r→k<c→f i k=el a c i k):mk r c f=a:=
 Gt (dJ ..) ha fun i k hi hk=>by rw[ec hi hk,h i k hi hk]
theorem mk_congr {r c:Nat} {f g:Nat→Nat→Rat} (h:∀i k,i<r→k<c→f i k=g i k):mk r c f=mk r c g:=
 xJ (dJ ..) fun i k hi hk=>by rw[ec hi hk,h i k hi hk]
theorem Gu {a:List Rat} {r c:Nat} (ha:a.length=r*c):mk r c (el a c)=a:=xJ ha fun _ _ _ _=>rfl
theorem zX {r c B:Nat} {f:Nat→Nat→Rat} (h:∀i k,i<r→k<c→fs (f i k)≤B):Sm B (mk r c f):=by
 intro p hp
 rw[dJ]at hp
 obtain⟨h1,h2,_⟩:=iQ hp
 rw[QF hp];exact h _ _ h1 h2
theorem eS {a:List Rat} {r c B i k:Nat} (h:Sm B a) (ha:a.length=r*c) (hi:i<r) (hk:k<c):fs (el a c i k)≤B:=h _ (by rw[ha];exact gF hi hk)
theorem di (f:Nat→Nat→Rat) (m:Nat):∀n,aD n (fun i=>aD m (f i))=aD m (fun k=>aD n (fun i=>f i k))
 |0=>by
  rw[aD]
  have:aD m (fun _=>(0:Rat))=0:=by induction m with
   |zero=>rfl
   |succ m ih=>rw[aD,ih];grind
  exact(show aD m (fun k=>aD 0 (fun i=>f i k))=0 from this).symm
 |n+1=>by rw[aD,di f m n,←sum_add];exact ai m fun k _=>rfl
theorem N4 (c:Rat) (f:Nat→Rat) (n:Nat):aD n (fun i=>f i*c)=aD n f*c:=by
 rw[Rat.mul_comm,←sum_smul]
 exact ai n fun i _=>Rat.mul_comm _ _
theorem Bq {f:Nat→Rat} {B:Nat}:∀n,(∀i,i<n→fs (f i)≤B)→fs (aD n f)≤2+n*B
 |0,_=>by rw[aD,fO];omega
 |n+1,h=>by
  have h1:=Bq n (fun i hi=>h i aa)
  have h2:=h n aa
  have:=xG (aD n f) (f n)
  rw[aD,Nat.succ_mul];omega
def delta (i k:Nat):Rat:=if i=k then 1 else 0
theorem c7 {f:Nat→Rat} {i:Nat}:∀n,aD n (fun j=>delta i j*f j)=if i<n then f i else 0
 |0=>by simp[aD]
 |n+1=>by
  rw[aD,c7 n,delta]
  by_cases h:i=n
  ·subst h;simp;grind
  ·by_cases h2:i<n
   ·simp[h,h2,show i<n+1 by omega];grind
   ·simp[h,h2,show ¬i<n+1 by omega];grind
theorem qI (i k:Nat):delta i k=delta k i:=by unfold delta;by_cases h:i=k<;>simp[h,eq_comm]
theorem eF {f:Nat→Rat} {i n:Nat}:aD n (fun j=>f j*delta j i)=if i<n then f i else 0:=by
 rw[←c7 n];exact ai n fun j _=>by rw[qI,Rat.mul_comm]
abbrev fA (r s t:Nat) (a b:List Rat):List Rat:=mk r t fun i k=>aD s fun p=>el a s i p*el b t p k
abbrev iG (r c:Nat) (a:List Rat):List Rat:=mk c r fun i k=>el a c k i
abbrev gk (n:Nat):List Rat:=mk n n delta
abbrev cD (r c:Nat) (a v:List Rat):List Rat:=(List.range r).map fun i=>aD c fun p=>el a c i p*v.getD p 0
theorem dK {r c:Nat} {a v:List Rat}:(cD r c a v).length=r:=by simp
theorem eG {r c i:Nat} {a v:List Rat} (hi:i<r):(cD r c a v).getD i 0=aD c fun p=>el a c i p*v.getD p 0:=by
 simp[List.getD_eq_getElem?_getD,hi]
theorem bs {f:Nat→Rat} (c:Rat) (n:Nat):c*aD n f=aD n fun i=>c*f i:=(sum_smul c f n).symm
theorem dL {f:Nat→Rat} (c:Rat) (n:Nat):aD n f*c=aD n fun i=>f i*c:=(N4 c f n).symm
theorem E4 {r s t:Nat} (x y v:List Rat):cD r t (fA r s t x y) v=cD r s x (cD s t y v):=by
 refine pG dK dK fun i hi=> ?_
 rw[eG hi,eG hi]
 have e1:(aD t fun j=>el (fA r s t x y) t i j*v.getD j 0)=aD t fun j=>aD s fun k=>el x s i k*el y t k j*v.getD j 0:=
  ai t fun j hj=>by rw[ec hi hj,dL]
 have e2:(aD s fun k=>el x s i k*(cD s t y v).getD k 0)=aD s fun k=>aD t fun j=>el x s i k*el y t k j*v.getD j 0:=
  ai s fun k hk=>by rw[eG hk,bs];exact ai t fun j _=>by grind
 rw[e1,e2,di]
section
open Go.Shelf Go.RowKit Go.Sort Go.Lib
set_option maxHeartbeats 6400000 in
set_option maxRecDepth 100000 in
theorem N5 (u:Nat) (hu:100≤u) (hu64:u<18446744073709551616) (w:World) (htab:Lib.TabIs Tryz.prog w "internal/strconv.uint64pow10" .u64 Lib.pow10Tab):
  Calls Tryz.prog 350 #[.int .u64 u,.int .i64 10] w fun e w'=>e= .returned (.string ⟨(Lib.decDigits u).toArray⟩)∧∃k os,w'=grow (w.drewN k) os:=by
 have mixed:Tryz.prog.follows .mixedOrders=true:=av
 have t3:=Tryz.underlying3;have a3:=Tryz.isAgg3;have z3:=Tryz.sizeOf3;have v3:=Tryz.zeroValue3
 have t9:=Tryz.underlying9;have a9:=Tryz.isAgg9;have z9:=Tryz.sizeOf9;have v9:=Tryz.zeroValue9
 have t4:=Tryz.underlying4;have a4:=Tryz.isAgg4;have z4:=Tryz.sizeOf4;have v4:=Tryz.zeroValue4
 have t53:=Tryz.underlying44;have a53:=Tryz.isAgg44;have z53:=Tryz.sizeOf44;have v53:=Tryz.zeroValue44
 have t5:=Tryz.underlying5;have a5:=Tryz.isAgg5;have z5:=Tryz.sizeOf5;have v5:=Tryz.zeroValue5
 have t37:=Tryz.underlying61;have a37:=Tryz.isAgg61;have z37:=Tryz.sizeOf61;have v37:=Tryz.zeroValue61
 have t171:=Tryz.underlying403;have a171:=Tryz.isAgg403;have z171:=Tryz.sizeOf403;have v171:=Tryz.zeroValue403
 have t0:=Tryz.underlying0;have a0:=Tryz.isAgg0;have z0:=Tryz.sizeOf0;have v0:=Tryz.zeroValue0
 have af8:∀args w,(callFunc 366 args).run Tryz.prog w= .ok (.enter 366 args) w:=enters_of Tryz.func366 av rfl
 have af9:∀args w,(callFunc 367 args).run Tryz.prog w= .ok (.enter 367 args) w:=enters_of Tryz.func367 av rfl
 have hu1:1≤u:=aa
 have ae8:Lib.nDigits u≤20:=by have:=Lib.numDigits_eq u hu1 hu64;split at this<;>omega
 have gx:Tryz.prog.arrayLen 403=24:=by simp[Program.arrayLen,t171]
 have hsl:∀W,(Instr.sliceAt 403 (.pointer (some ⟨w.heap.size,0,none⟩)) none (some (.int .i64 (Lib.nDigits u:Int))) none).run Tryz.prog W= .ok (.slice (some ⟨w.heap.size,0,none⟩) (Lib.nDigits u) 24) W:=fun W=>by
  rw[run_sliceAt_array_h W 403 ⟨w.heap.size,0,none⟩ (by simp[Program.arrayLen,Program.elem,t171]) .i64 (Lib.nDigits u:Int) aa (by rw[gx];omega)]
  go_simp
 have hH0:=Lib.holds_zero0 w 403 (Lib.nDigits u) aa
 have ab0:=Tryz.internal_strconv_formatBase10 w.heap.size 0 24 u (Array.replicate (Lib.nDigits u) 0) (w.alloc (.cells Lib.zeros24 403)) hH0 (by rw[Array.size_replicate];exact Lib.lt_pow_nDigits u) hu64 (by rw[Array.size_replicate];omega)
 rw[Array.size_replicate]at ab0
 have HH0:=Lib.hid hH0
 have iu:¬(u:Int)<100:=aa
 clear hH0 gx
 go_enter Tryz.func350,Tryz.ntmps350
 go_wp2_with (first
  |(go_at_fn 366;refine(Tryz.internal_strconv_numDigits u hu1 hu64 _ (Lib.tabIs_alloc htab _)).mono ?_;rintro e w' ⟨rfl,rfl⟩))
 go_at_fn 367
 refine ab0.mono ?_
 rintro e w' ⟨rfl,k,v',dk,rfl,hF⟩
 have hcv:(convert 61 9 (.slice (some ⟨w.heap.size,0,none⟩) (Lib.nDigits u) 24)).run Tryz.prog ((putRow (fun(b:UInt8)=>Value.int .u8 (b.toNat:Int)) (w.alloc (.cells Lib.zeros24 403)) w.heap.size 0 dk).drewN k)= .ok (.string ⟨(Lib.decDigits u).toArray⟩) ((putRow (fun(b:UInt8)=>Value.int .u8 (b.toNat:Int)) (w.alloc (.cells Lib.zeros24 403)) w.heap.size 0 dk).drewN k):=by
  have h:=run_convert_bytes_back (P:=Tryz.prog) ((putRow (fun(b:UInt8)=>Value.int .u8 (b.toNat:Int)) (w.alloc (.cells Lib.zeros24 403)) w.heap.size 0 dk).drewN k) 61 9 5 ⟨w.heap.size,0,none⟩ 24 (Lib.decDigits u) t37 t5 t9 (fun j hj=>by
   rw[Lib.row_is_numeral hF j hj,Lib.add_plain,World.cell?_drewN]
   exact cell?_putRow (fun(b:UInt8)=>Value.int .u8 (b.toNat:Int)) _ w.heap.size 0 _ dk HH0.out (by rw[hF.size,Array.size_replicate]) j (by rw[hF.size];rw[Lib.decDigits_length]at hj;exact hj))
  rw[Lib.decDigits_length]at h
  exact h
 go_wp2
 go_ret
 obtain⟨os,eo⟩:=Lib.fin_at w (.cells Lib.zeros24 403) dk k 0
 exact⟨rfl,k,os,eo⟩
end
def iD:Nat→Nat→List UInt8
 |0,_=>[]
 |k+1,r=>iD k (r/10)++[UInt8.ofNat (48+r % 10)]
theorem vY {n:Nat} (h:10≤n):Lib.decDigits n=Lib.decDigits (n/10)++[UInt8.ofNat (48+n % 10)]:=by rw[Lib.decDigits,dif_neg aa]
theorem dec_lt {n:Nat} (h:n<10):Lib.decDigits n=[UInt8.ofNat (48+n)]:=by rw[Lib.decDigits,dif_pos h]
theorem zY:∀k q r,0<q→r<10^k→Lib.decDigits (q*10^k+r)=Lib.decDigits q++iD k r
 |0,q,r,hq,hr=>by
  obtain rfl:r=0:=by simp at hr;exact hr
  simp[iD]
 |k+1,q,r,hq,hr=>by
  have hp:0<10^k:=Nat.pow_pos aI
  have e:q*10^(k+1)=10*(q*10^k):=by rw[Nat.pow_succ,←Nat.mul_assoc,Nat.mul_comm]
  have hqp:0<q*10^k:=Nat.mul_pos hq hp
  rw[Nat.pow_succ]at hr
  rw[vY aa,show(q*10^(k+1)+r)/10=q*10^k+r/10 by omega,show(q*10^(k+1)+r) % 10=r % 10 by omega,zY k q (r/10) hq aa,iD,List.append_assoc]
theorem Df:∀k,iD k 0=List.replicate k 48
 |0=>rfl
 |k+1=>by rw[iD,Nat.zero_div,Df k,List.replicate_succ'];rfl
theorem Br:∀k r,r<10^k→0<k→iD k r=List.replicate (k - (Lib.decDigits r).length) 48++Lib.decDigits r∧(Lib.decDigits r).length≤k
 |0,r,h,h0=>aa
 |k+1,r,h,_=>by
  by_cases h1:r<10
  ·rw[iD,show r/10=0 by omega,Df,dec_lt h1,show r % 10=r by omega]
   exact⟨rfl,by simp⟩
  ·have hk:0<k:=by rcases Nat.eq_zero_or_pos k with g|g
                   ·subst g;simp at h;omega
                   ·exact g
   rw[Nat.pow_succ]at h
   obtain⟨h2,h3⟩:=Br k (r/10) aa hk
   have e:=vY (n:=r) aa
   rw[iD,h2,e,List.length_append,List.append_assoc,List.length_singleton]
   exact⟨by rw[show k+1 - ((Lib.decDigits (r/10)).length+1)=k - (Lib.decDigits (r/10)).length by omega],aa⟩
theorem N6 {ρ:bU} {w:World} (h:∀b o,ρ.bf b=some o→w.heap[b]? =some o):Lib.TabIs Tryz.prog w "internal/strconv.uint64pow10" .u64 Lib.pow10Tab:=by
 obtain⟨o,h1,_,ty,fz,rfl⟩:=ρ.cw 2 .u64 Lib.pow10Tab (by decide+kernel)
 exact Sa (g:=2) av (h _ _ h1)
theorem xK {f:FuncId} {vs:List Value} {v:Value} (hf:Cr Tryz.prog f) (hv:v.oneCell'=true) (h:∀w:World,Lib.TabIs Tryz.prog w "internal/strconv.uint64pow10" .u64 Lib.pow10Tab→Calls Tryz.prog f vs.toArray w fun e w'=>e= .returned v∧RowKit.Below w.heap.size w w'):ab Tryz.prog f (vs.map .val) [] (.val v) [] []:=by
 refine .inl ⟨hf,fun ρ w z hz hp=> ?_⟩
 rw[xp hz]
 refine(h w (N6 hp.bf)).mono ?_
 rintro e w' ⟨rfl,hb⟩
 exact⟨v,ρ,rfl,.gb hb (cd hv)⟩
theorem N7 (n:Nat) (h1:100≤n) (h2:n<18446744073709551616):ab Tryz.prog 350 [.val (.int .u64 (n:Nat)),.val (.int .i64 10)] [] (.val (.string (tN n))) [] []:=
 xK (vs:=[.int .u64 (n:Nat),.int .i64 10]) ⟨Tryz.f350,Tryz.func350,rfl,av⟩ rfl fun w ht=>by
  rw[qo]
  refine(N5 n h1 h2 w ht).mono ?_
  rintro e w' ⟨rfl,k,os,rfl⟩
  exact⟨rfl,Lib.below_grow w.heap.size w (Nat.le_refl _) k os⟩
theorem HJ (n:Nat) (h:n<18446744073709551616):ab Tryz.prog 313 [.val (.int .u64 (n:Nat)),.val (.int .i64 10)] [] (.val (.string (tN n))) [] []:=by
 by_cases hs:n<100
 ·exact Km n hs
 ·have k1:=N7 n aa h
  refine bT [] Tryz.func313 ?_
  intro W0 w0 ρ0 hE
  conv=>whnf
  (repeat(first|(refine aS (by assumption) ?_;conv=>whnf)));exact Q4
theorem Yy (n:Nat) (h:n<9223372036854775808):ab Tryz.prog 316 [.val (.int .i64 (n:Nat))] [] (.val (.string (tN n))) [] []:=
 xK (vs:=[.int .i64 (n:Nat)]) ⟨Tryz.f316,Tryz.func316,rfl,av⟩ rfl fun w ht=>by
  rw[qo]
  refine(Tryz.strconv_Itoa n aa aa w ht).mono ?_
  rintro e w' ⟨rfl,k,os,rfl⟩
  refine⟨?_,Lib.below_grow w.heap.size w (Nat.le_refl _) k os⟩
  rw[Lib.itoa_nonneg]
theorem Kr (c:Nat) (hc:c≤100):ab Tryz.prog 317 [.val (.string ⟨#[48]⟩),.val (.int .i64 (c:Nat))] [] (.val (.string ⟨(List.replicate c 48).toArray⟩)) [] []:=
 zJ (vs:=[.string ⟨#[48]⟩,.int .i64 (c:Nat)]) ⟨Tryz.f317,Tryz.func317,rfl,av⟩ rfl fun w=>by
  have e:∀c,Lib.repeatL [48] c=List.replicate c 48:=fun c=>by
   induction c with
   |zero=>rfl
   |succ c ih=>show[48]++Lib.repeatL [48] c=_;rw[ih,List.replicate_succ,List.singleton_append]
  refine(Tryz.strings_Repeat ⟨#[48]⟩ c w aa (by show 1*c≤_;omega)).mono ?_
  rintro e' w' ⟨rfl,hb⟩
  exact⟨by rw[show(⟨#[48]⟩:ByteArray).data.toList=[48]from rfl,e],hb⟩
abbrev uB (ss:List ByteArray):aF:=⟨9,true,.seq 1 (ss.map q7)⟩
theorem N8 {a b:List ByteArray} {n:Nat} (ha:a.length=n) (hb:b.length=n) (h:∀i,i<n→a.getD i .empty=b.getD i .empty):a=b:=by
 refine List.ext_getElem (ha.trans hb.symm) fun i h1 h2=> ?_
 have:=h i aa
 rwa [List.getD_eq_getElem?_getD,List.getD_eq_getElem?_getD,List.getElem?_eq_getElem h1,List.getElem?_eq_getElem h2]at this
theorem Gv {l:List ByteArray} {i j:Nat} {v:ByteArray} (hi:i<l.length):(l.set i v).getD j .empty=if i=j then v else l.getD j .empty:=by
 simp only[List.getD_eq_getElem?_getD,List.getElem?_set]
 by_cases h:i=j
 ·subst h;simp[hi]
 ·simp[h]
theorem N9 {l:List ByteArray} {n k:Nat} (hl:l.length=n) (hk:k<n):l.reverse.getD k .empty=l.getD (n - 1 - k) .empty:=by
 simp only[List.getD_eq_getElem?_getD]
 rw[List.getElem?_reverse aa,hl]
theorem HK (ss:List ByteArray) (n:Nat) (hn:ss.length=n) (hl:n<1099511627776) (K:Nat):ab Tryz.prog 318 [.aO K 1 0 n] [(K,uB ss)] (.ck []) [] [(K,uB ss.reverse)]:=by
 have e0:IntKind.i64.wrap ((n:Int) - 1)=(n:Int) - 1:=wrap_i64 aa aa
 refine gh (Z:=[]) aJ bO Tryz.func318 rfl av (args:=[.aO 1001 1 0 n]) (fk:=[(1001,uB ss)]) (c:=.ck []) (new:=[]) (upd:=[(1001,uB ss.reverse)]) (cI.of rfl rfl rfl rfl rfl rfl rfl rfl rfl rfl rfl) rfl (fun _=>K) bo.upd ?_
 intro W0 w0 ρ0 hE
 conv=>whnf
 (repeat(first|(rw[e0];conv=>whnf)))
 refine aj hE (fun k=>k) [0,2,3] [1001] (fun q fr hp=>∃(i:Nat) (ys:List ByteArray),q=n - i∧(2*i≤n)∧ys.length=n∧(∀k,k<n→ys.getD k .empty=if k<i∨n - i≤k then ss.getD (n - 1 - k) .empty else ss.getD k .empty)∧
  fr=[(0,.aO 1001 1 0 n),(2,.val (.int .i64 (i:Nat))),(3,.val (.int .i64 ((n:Int) - 1 - i)))]∧hp=[(1001,uB ys)]) n ?_ ?_ ?_
 ·kernel_rfl
 ·exact⟨0,ss,rfl,aa,hn,(fun k hk=>by rw[if_neg aa]),by rw[show(n:Int) - 1 - ((0:Nat):Int)=(n:Int) - 1 by omega];rfl,rfl⟩
 rintro q _ _ ⟨i,ys,rfl,hi,hy,hv,rfl,rfl⟩
 conv=>whnf
 by_cases hgo:i+i+1<n
 ·obtain⟨j,hj⟩:∃j,j=n - 1 - i:=⟨_,rfl⟩
  have ej:(n:Int) - 1 - i=(j:Int):=aa
  rw[ej]
  have t1:decide ((i:Int)<(j:Int))=true:=decide_eq_true aa
  have e1:=br (i:=i) aa
  have e2:IntKind.i64.wrap ((j:Int) - 1)=(n:Int) - 1 - ((i+1:Nat):Int):=by rw[wrap_i64 aa aa];omega
  have g1:(ys.map q7).getD i .any= .val (.string (ys.getD i .empty)):=by rw[pF (d:=ByteArray.empty) aa];rfl
  have g2:(ys.map q7).getD j .any= .val (.string (ys.getD j .empty)):=by rw[pF (d:=ByteArray.empty) aa];rfl
  have g3:((ys.map q7).set i (.val (.string (ys.getD j .empty)))).getD j .any= .val (.string (ys.getD j .empty)):=by rw[←g2,List.getD_eq_getElem?_getD,List.getElem?_set_ne aa,←List.getD_eq_getElem?_getD]
  have hlm:(ys.map q7).length=n:=by rw[List.length_map];exact hy
  have qv:(((ys.set i (ys.getD j .empty)).set j (ys.getD i .empty)).map q7)=((ys.map q7).set i (.val (.string (ys.getD j .empty)))).set j (.val (.string (ys.getD i .empty))):=by rw[List.map_set,List.map_set];rfl
  have eX:∀k,k<n→((ys.set i (ys.getD j .empty)).set j (ys.getD i .empty)).getD k .empty=if k<i+1∨n - (i+1)≤k then ss.getD (n - 1 - k) .empty else ss.getD k .empty:=by
   intro k hk
   rw[Gv (by rw[List.length_set];omega),Gv aa]
   by_cases h1:j=k
   ·rw[if_pos h1,if_pos aa,hv i aa,if_neg aa,show n - 1 - k=i by omega]
   ·rw[if_neg h1]
    by_cases h2:i=k
    ·rw[if_pos h2,if_pos aa,hv j aa,if_neg aa,show n - 1 - k=j by omega]
    ·rw[if_neg h2,hv k hk]
     by_cases h3:k<i∨n - i≤k
     ·rw[if_pos h3,if_pos aa]
     ·rw[if_neg h3,if_neg aa]
  (repeat((first|refine ag rfl rfl ?_|refine aq av ?_|refine And.intro Q6 ?_|rw[t1]|rw[show 0+(i:Int).toNat=i from by omega]|rw[show 0+(j:Int).toNat=j from by omega]|rw[g1]|rw[g2]|rw[g3]|rw[e1]|rw[e2]);conv=>whnf))
  refine⟨n - (i+1),fun k=>k,[0,2,3],[1001],aa,av,i+1,_,rfl,aa, ?_,eX,rfl, ?_⟩
  ·rw[List.length_set,List.length_set];exact hy
  ·rw[uB,qv];rfl
 ·have t1:decide ((i:Int)<(n:Int) - 1 - i)=false:=decide_eq_false aa
  have e:ys=ss.reverse:=N8 hy (by rw[List.length_reverse];exact hn) fun k hk=>by
   rw[hv k hk,N9 hn hk]
   split
   ·rfl
   ·rw[show n - 1 - k=k by omega]
  rw[e]
  (repeat(first|(refine ae rfl rfl ?_;conv=>whnf)|(rw[t1];conv=>whnf)))
  exact⟨au.refl _,(fun _ _ h=>by cases h),fun k b hm=>by simp only[List.mem_singleton,Prod.mk.injEq]at hm;obtain⟨rfl,rfl⟩:=hm;rfl⟩
theorem E5 {P:Program} {f:FuncId} {ss:List ByteArray} {n:Nat} {sep:ByteArray} {v:Value} {ty:TypeId} (hn:ss.length=n) (hf:Cr P f) (hv:v.oneCell'=true)
  (h0:ss=[]→∀(a:Option Addr) (w:World),Calls P f #[.slice a 0 0,.string sep] w fun e w'=>e= .returned v∧w'=w)
  (h:∀(bk o c:Nat) (w:World),(∀(j:Nat) x,ss[j]? =some x→w.cell? ⟨bk,o+j,none⟩=some (.string x))→bk<w.heap.size→ss.length≤c→Calls P f #[.slice (some ⟨bk,o,none⟩) ss.length c,.string sep] w fun e w'=>e= .returned v∧RowKit.Below w.heap.size w w') (K:Nat):
  ab P f [.aO K 1 0 n,.val (.string sep)] [(K,⟨ty,true,.seq 1 (ss.map q7)⟩)] (.val v) [] []:=by
 subst hn
 refine .inl ⟨hf,fun ρ w z hz hp=> ?_⟩
 simp only[aw]at hz
 obtain⟨x,_,rfl,hx,y,_,rfl,hy,rfl⟩:=hz
 simp only[aL]at hy
 obtain⟨rfl,_⟩:=hy
 have fin:∀(a:Value),(Calls P f #[a,.string sep] w fun e w'=>e= .returned v∧RowKit.Below w.heap.size w w')→Calls P f (List.zipWith cQ [.aO K 1 0 ss.length,SV.val (.string sep)] [[a],[.string sep]]).toArray w fun e w'=>∃v' ρ',e= .returned v'∧jH ρ w (.val v) [] [] v' ρ' w':=fun a hc=>by
  have e:(List.zipWith cQ [.aO K 1 0 ss.length,SV.val (.string sep)] [[a],[.string sep]]).toArray= #[a,.string sep]:=by simp[cQ,SV.bl]
  rw[e]
  refine hc.mono ?_
  rintro e w' ⟨rfl,hb⟩
  exact⟨v,ρ,rfl,.gb hb (cd hv)⟩
 obtain⟨z,hz,hcase⟩:=jf (hp.n0 K _ (List.mem_cons_self ..)) rfl rfl
 simp only[aL]at hx
 rcases hx with⟨b,t,cap,e1,e2,e3,rfl⟩|⟨hn,a,rfl⟩
 ·rcases hcase with⟨b',t',ex,h1,h2,h3,h4⟩|⟨h1,_⟩
  ·rw[e1]at h1
   cases h1
   have hzf:∀(l:List ByteArray) (z:List (List Value)),aw (cR ρ.bf ρ.cw) (l.map q7) z→z.flatten=l.map .string:=by
    intro l
    induction l with
    |nil=>intro z hz;simp only[List.map_nil,aw]at hz;subst hz;rfl
    |cons s l ih=>
     intro z hz
     simp only[List.map_cons,aw,q7,aL]at hz
     obtain⟨x,r,rfl,⟨rfl,_⟩,h⟩:=hz
     simp[ih r h]
   refine fin _ ((h b 0 cap w (fun j x hj=> ?_) ?_ e2))
   ·rw[cell_of_row w b _ _ _ _ h2,List.getElem?_toArray,hzf ss z hz.2.1,Nat.zero_add]
    rw[List.getElem?_append_left (by rw[List.length_map];exact(List.getElem?_eq_some_iff.1 hj).1),List.getElem?_map,hj];rfl
   ·rcases Nat.lt_or_ge b w.heap.size with h'|h'
    ·exact h'
    ·simp[Array.getElem?_eq_none h']at h2
  ·rw[e1]at h1;cases h1
 ·refine fin _ ?_
  have hn:ss=[]:=List.length_eq_zero_iff.1 hn
  subst hn
  exact(h0 rfl a w).mono fun _ _ ⟨he,hw⟩=>⟨he,hw▸RowKit.Below.refl _ _⟩
theorem Oa (ss:List ByteArray) (n:Nat) (hn:ss.length=n) (sep:ByteArray) (hN:ss.length≤1099511627776) (hlen:(Lib.join (ss.map (·.data.toList)) sep.data.toList).length≤140737488355328) (K:Nat):
  ab Tryz.prog 220 [.aO K 1 0 n,.val (.string sep)] [(K,uB ss)] (.val (.string ⟨(Lib.join (ss.map (·.data.toList)) sep.data.toList).toArray⟩)) [] []:=by
 refine E5 hn ⟨Tryz.f220,Tryz.func220,rfl,av⟩ rfl ?_ ?_ K
 ·rintro rfl a w
  exact Tryz.strings_Join_none a 0 sep w
 ·intro bk o c w hc hb hcap
  exact Tryz.strings_Join bk o c ss sep w hc hb aa hcap hlen
theorem Bs:∀k n,n<2^k→(Lib.decDigits n).length≤k+1
 |0,n,h=>by
  obtain rfl:n=0:=by simp at h;exact h
  rw[dec_lt aI];simp
 |k+1,n,h=>by
  by_cases h1:n<10
  ·rw[dec_lt h1];simp
  ·rw[vY aa,List.length_append,List.length_singleton]
   have:=Bs k (n/10) (by rw[Nat.pow_succ]at h;omega)
   omega
def cat (ss:List ByteArray):List UInt8:=(ss.map (·.data.toList)).flatten
theorem xL (l:List (List UInt8)):Lib.join l []=l.flatten:=by
 cases l with
 |nil=>rfl
 |cons x r=>rw[Lib.join_cons,Lib.joinTail];simp
theorem Ks {v m:Nat} (h:v<4294967296^m):gZ (bJ v m) m=(af v).length∧(af v).length≤m:=by
 have hlen:=c6 v m
 have hv:=gM v m
 rw[Nat.mod_eq_of_lt h]at hv
 have hc:=rO (bJ v m) m
 have hle:=Bf (bJ v m) m
 have xy:=xm (bJ v m) m
 have:=xn (gZ (bJ v m) m) (bJ v m) (gj v m) aa xy
 rw[hc,hv,Int.toNat_natCast]at this
 have e:(af v).length=gZ (bJ v m) m:=by rw[this,List.length_take];omega
 exact⟨e.symm,aa⟩
theorem Ob {v:Nat} (h:1000000000≤v):sz (v/1000000000)+29≤sz v:=by
 have h1:v<2^sz v:=fo.1 (Nat.le_refl _)
 have h2:29≤sz v:=by
  rcases Nat.lt_or_ge (sz v) 29 with g|g
  ·have:2^sz v≤2^29:=Nat.pow_le_pow_right aI aa
   omega
  ·exact g
 have h3:sz (v/1000000000)≤sz v - 29:=fo.2 (by
  rw[Nat.div_lt_iff_lt_mul aI]
  have e:2^sz v=2^(sz v - 29)*2^29:=by rw[←Nat.pow_add];congr 1;omega
  have:2^(sz v - 29)*2^29≤2^(sz v - 29)*1000000000:=Nat.mul_le_mul_left _ aI
  omega)
 omega
theorem Kt {r:Nat} (h:r<1000000000):(tN r).size≤9:=by
 rw[qo]
 show(Lib.decDigits r).toArray.size≤9
 have:=(Br 9 r h aI).2
 simpa using this
theorem Yz {r:Nat} (h:r<1000000000):((⟨(List.replicate (9 - (tN r).size) 48).toArray⟩:ByteArray)++tN r).data.toList=iD 9 r:=by
 have hs:(tN r).size=(Lib.decDigits r).length:=by rw[qo];show(Lib.decDigits r).toArray.size=_;simp
 rw[(Br 9 r h aI).1,hs,qo,ByteArray.data_append]
 simp
theorem Dg (ps:List ByteArray) (s:ByteArray):cat (ps++[s]).reverse=s.data.toList++cat ps.reverse:=by simp[cat]
theorem ab1 {n M:Nat} (h:sz n≤M):(af n).length≤M:=gL (Nat.lt_of_lt_of_le (fo.1 h) (Nat.pow_le_pow_left aI M))
theorem YA (n:Nat) (h:¬n<18446744073709551616) (hs:sz n≤1073741824):ab Tryz.prog 240 [.nat n] [] (.val (.string (tN n))) [] []:=by
 have hwl:(af n).length<1099511627776:=Nat.lt_of_le_of_lt (ab1 hs) aI
 have k1:=iq n 3001 hwl
 have e2:((qg n).toList==(ByteArray.mk #[]).toList)=false:=by rw[dq];exact decide_eq_false h
 have hwa:=cF n
 refine fZ [] Tryz.func240 ?_
 intro w0 ρ0 hE
 conv=>whnf
 (repeat((first|refine ae rfl rfl ?_|refine lG (by assumption) rfl ?_|rw[e2]|rw[Nat.zero_add]);conv=>whnf))
 refine ct (t:=3) (k:=2002) (s:=1) (blk:=uB []) rfl rfl rfl ?_
 have hwn:=eM n
 refine aj hE (fun k=>k) [3,4] [2002,3001] (fun q fr hp=>∃(v:Nat) (L:List Int) (ps:List ByteArray),q=v∧(af v).length≤L.length∧L.length<1099511627776∧fL L∧aB L (af v).length=(v:Int)∧((v≠0∧Lib.decDigits n=Lib.decDigits v++cat ps.reverse∧ps.length*29+sz v≤sz n)∨(v=0∧Lib.decDigits n=cat ps.reverse∧ps.length*29≤sz n+29))∧
  fr=[(3,.aO 2002 1 0 ps.length),(4,.aO 3001 1 0 (af v).length)]∧hp=[(2002,uB ps),(3001,⟨23,true,.ints .u32 L⟩)]) n ?_ ?_ ?_
 ·kernel_rfl
 ·have hwA:(cA n)=af n:=by rw[cA,if_neg h]
  refine⟨n,cA n,[],rfl,hwa,by rw[hwA];exact hwl,by rw[hwA];exact bh n,by rw[hwA];exact hwn,.inl ⟨aa, ?_,by simp⟩,rfl,rfl⟩
  simp[cat]
 rintro q _ _ ⟨v,L,ps,rfl,hL,MI,hLw,hLv,hrel,rfl,rfl⟩
 conv=>whnf
 have gW:ps.length<1099511627776:=by rcases hrel with⟨_,_,g⟩|⟨_,_,g⟩<;>omega
 by_cases h0:0<q
 ·obtain⟨_,y5,hlen⟩:=hrel.resolve_right aa
  clear hrel
  have hm:=mN (n:=q) aa
  have t1:decide (((af q).length:Int)>0)=true:=decide_eq_true aa
  have hqm:q<4294967296^(af q).length:=cg q
  have k2:=Gk L (af q).length hL aa hLw 1000000000 aI aI 3001 3002 aI true q hLv
  obtain⟨hcut,hcle⟩:=Ks (v:=q/1000000000) (m:=(af q).length) (Nat.lt_of_le_of_lt (Nat.div_le_self _ _) hqm)
  have hdl:=c6 (q/1000000000) (af q).length
  have k3:=JT (bJ (q/1000000000) (af q).length) (af q).length aa aa 3002 true
  rw[hcut]at k3
  have hr:q % 1000000000<1000000000:=Nat.mod_lt _ aI
  have k4:=Yy (q % 1000000000) aa
  have e1:IntKind.i64.wrap ((q % 1000000000:Nat):Int)=((q % 1000000000:Nat):Int):=wrap_i64 aa aa
  have gV:=Kt hr
  have hdw:fL (bJ (q/1000000000) (af q).length):=gj _ _
  have Qq:aB (bJ (q/1000000000) (af q).length) (af (q/1000000000)).length=((q/1000000000:Nat):Int):=by
   have h1:=rO (bJ (q/1000000000) (af q).length) (af q).length
   rw[hcut,gM,Nat.mod_eq_of_lt (Nat.lt_of_le_of_lt (Nat.div_le_self _ _) hqm)]at h1
   exact h1
  have Yr:q/1000000000*1000000000+q % 1000000000=q:=by have:=Nat.div_add_mod q 1000000000;omega
  by_cases hq:1000000000≤q
  ·have JF:0<q/1000000000:=Nat.div_pos hq aI
   have hs9:=Ob hq
   have oA:=zY 9 (q/1000000000) (q % 1000000000) JF hr
   rw[show 10^9=1000000000 from rfl,Yr,←Yz hr]at oA
   have hm2:=mN (n:=q/1000000000) aa
   have t2:decide (((af (q/1000000000)).length:Int)>0)=true:=decide_eq_true aa
   have e2:IntKind.i64.wrap (9 - ((tN (q % 1000000000)).size:Int))=((9 - (tN (q % 1000000000)).size:Nat):Int):=by rw[wrap_i64 aa aa];omega
   have k5:=Kr (9 - (tN (q % 1000000000)).size) aa
   have hrs:(⟨(List.replicate (9 - (tN (q % 1000000000)).size) 48).toArray⟩:ByteArray).size=9 - (tN (q % 1000000000)).size:=by show(List.replicate _ _).toArray.size=_;simp
   have ju:(⟨(List.replicate (9 - (tN (q % 1000000000)).size) 48).toArray⟩:ByteArray).size+(tN (q % 1000000000)).size≤9223372036854775807:=aa
   have hd2:Lib.decDigits n=Lib.decDigits (q/1000000000)++cat (ps++[(⟨(List.replicate (9 - (tN (q % 1000000000)).size) 48).toArray⟩:ByteArray)++tN (q % 1000000000)]).reverse:=by
    rw[y5,oA,Dg,List.append_assoc]
   clear y5 oA
   generalize (⟨(List.replicate (9 - (tN (q % 1000000000)).size) 48).toArray⟩:ByteArray)=z9 at*
   have hpm:(ps.map q7).length=ps.length:=List.length_map ..
   (repeat((first|refine ag rfl rfl ?_|refine And.intro Q6 ?_|refine aS (by assumption) ?_|refine mj (by assumption) rfl ?_|refine F5 (by assumption) rfl rfl ?_|rw[t1]|rw[e1]|rw[t2]|rw[e2]);conv=>whnf))
   refine⟨q/1000000000,cE [(41,2002),(3002,3001)],[3,4],[41,3002],aa,av,q/1000000000,_,ps++[z9++tN (q % 1000000000)],rfl,by rw[hdl];exact hcle,aa,hdw,Qq,.inl ⟨aa,hd2,by rw[List.length_append,List.length_singleton];omega⟩,by rw[List.length_append];rfl, ?_⟩
   have e9:uB (ps++[z9++tN (q % 1000000000)])=⟨9,true,.seq 1 (List.take ps.length (ps.map q7)++List.take 1 (List.drop 0 [SV.val (.string (z9++tN (q % 1000000000)))]))⟩:=by
    rw[uB,List.take_of_length_le aa,List.map_append];rfl
   rw[e9];rfl
  ·have JF:q/1000000000=0:=Nat.div_eq_of_lt aa
   have t2:decide (((af (q/1000000000)).length:Int)>0)=false:=by rw[JF];rfl
   have Yh:q % 1000000000=q:=Nat.mod_eq_of_lt aa
   have hd2:Lib.decDigits n=cat (ps++[tN (q % 1000000000)]).reverse:=by
    rw[y5,Dg,Yh,qo]
   clear y5
   have hpm:(ps.map q7).length=ps.length:=List.length_map ..
   (repeat((first|refine ag rfl rfl ?_|refine ae rfl rfl ?_|refine And.intro Q6 ?_|refine aS (by assumption) ?_|refine mj (by assumption) rfl ?_|refine F5 (by assumption) rfl rfl ?_|rw[t1]|rw[e1]|rw[t2]);conv=>whnf))
   refine⟨q/1000000000,cE [(41,2002),(3002,3001)],[3,4],[41,3002],aa,av,q/1000000000,_,ps++[tN (q % 1000000000)],rfl,by rw[hdl];exact hcle,aa,hdw,Qq,.inr ⟨JF,hd2,by rw[List.length_append,List.length_singleton];omega⟩,by rw[List.length_append];rfl, ?_⟩
   have e9:uB (ps++[tN (q % 1000000000)])=⟨9,true,.seq 1 (List.take ps.length (ps.map q7)++List.take 1 (List.drop 0 [SV.val (.string (tN (q % 1000000000)))]))⟩:=by
    rw[uB,List.take_of_length_le aa,List.map_append];rfl
   rw[e9];rfl
 ·obtain rfl:q=0:=aa
  obtain⟨_,y5,_⟩:=hrel.resolve_left (fun h=>h.1 rfl)
  have t1:decide (((af 0).length:Int)>0)=false:=rfl
  have k2:=HK ps ps.length rfl aa 2002
  have hdl:(Lib.decDigits n).length≤140737488355328:=by
   exact Nat.le_trans (Bs (sz n) n (fo.1 (Nat.le_refl _))) aa
  have k3:=Oa ps.reverse ps.length (by rw[List.length_reverse]) ⟨#[]⟩ (by rw[List.length_reverse];omega) (by
   rw[show(⟨#[]⟩:ByteArray).data.toList=[]from rfl,xL]
   show(cat ps.reverse).length≤_
   rw[←y5];exact hdl) 2002
  have e:(⟨(Lib.join (ps.reverse.map (·.data.toList)) (⟨#[]⟩:ByteArray).data.toList).toArray⟩:ByteArray)=tN n:=by
   rw[show(⟨#[]⟩:ByteArray).data.toList=[]from rfl,xL,qo,y5];rfl
  rw[e]at k3
  (repeat(first|(refine ae rfl rfl ?_;conv=>whnf)|(refine mj (by assumption) rfl ?_;conv=>whnf)|(refine F6 (by assumption) rfl rfl ?_;conv=>whnf)));exact Q4
theorem mW (n:Nat):(tN n).size≤sz n+1:=by
 rw[qo]
 show(Lib.decDigits n).toArray.size≤_
 simpa using Bs (sz n) n (fo.1 (Nat.le_refl _))
theorem Ku (n:Nat) (hs:sz n≤1073741824):ab Tryz.prog 240 [.nat n] [] (.val (.string (tN n))) [] []:=by
 by_cases h:n<18446744073709551616
 ·have k1:=HJ n h
  have e1:low n=(n:Int):=cu h
  have e2:((qg n).toList==(ByteArray.mk #[]).toList)=true:=by rw[dq];exact decide_eq_true h
  refine bT [] Tryz.func240 ?_
  intro W0 w0 ρ0 hE
  conv=>whnf
  (repeat((first|refine ag rfl rfl ?_|refine aS (by assumption) ?_|rw[e2]|rw[e1]);conv=>whnf));exact Q4
 ·exact YA n h hs
theorem YC (z:Int) (h:sz z.natAbs≤1073741824):ab Tryz.prog 239 [.int z] [] (.val (.string (tZ z))) [] []:=by
 have k1:=Ku z.natAbs h
 have hs:=mW z.natAbs
 have h1:(ByteArray.mk #[45]).size=1:=rfl
 have h2:(ByteArray.mk #[45]).size+(tN z.natAbs).size≤9223372036854775807:=aa
 unfold tZ
 refine bT [] Tryz.func239 ?_
 intro W0 w0 ρ0 hE
 conv=>whnf
 by_cases hz:z<0
 ·have t1:decide (z<0)=true:=decide_eq_true hz
  rw[if_pos hz]
  (repeat((first|refine ag rfl rfl ?_|refine And.intro Q6 ?_|refine aS (by assumption) ?_|rw[t1]);conv=>whnf));exact Q4
 ·have t1:decide (z<0)=false:=decide_eq_false hz
  rw[if_neg hz]
  (repeat(first|(refine ae rfl rfl ?_;conv=>whnf)|(refine aS (by assumption) ?_;conv=>whnf)|(rw[t1];conv=>whnf)));exact Q4
theorem xM (z:Int):(tZ z).size≤sz z.natAbs+2:=by
 have hs:=mW z.natAbs
 unfold tZ
 split
 ·rw[ByteArray.size_append];have:("-".toUTF8).size=1:=rfl;omega
 ·omega
theorem Gw (q:Rat) (h:fs q≤1073741824):ab Tryz.prog 138 [.frac q] [] (.val (.string (tQ q))) [] []:=by
 have n1:=dZ q
 have n2:=dQ q
 unfold fs at h
 have kw:=rZ q
 have k1:=YC q.num aa
 have k2:=Ku q.den aa
 have k3:=xv Bl q aa
 have hs:=xM q.num
 have QD:=mW q.den
 have h1:(ByteArray.mk #[47]).size=1:=rfl
 have h2:(tZ q.num).size+(ByteArray.mk #[47]).size≤9223372036854775807:=aa
 have h3:(tZ q.num++(ByteArray.mk #[47])).size+(tN q.den).size≤9223372036854775807:=by rw[ByteArray.size_append];omega
 unfold tQ
 refine bT [] Tryz.func138 ?_
 intro W0 w0 ρ0 hE
 conv=>whnf
 by_cases hd:q.den=1
 ·rw[decide_eq_true hd]at kw
  rw[if_pos hd]
  (repeat(first|(refine ag rfl rfl ?_;conv=>whnf)|(refine aS (by assumption) ?_;conv=>whnf)));exact Q4
 ·rw[decide_eq_false hd]at kw
  rw[if_neg hd]
  (repeat((first|refine ae rfl rfl ?_|refine aq av ?_|refine And.intro Q6 ?_|refine aS (by assumption) ?_);conv=>whnf));exact Q4
theorem Bt (q:Rat):(tQ q).size≤fs q+fs q+4:=by
 have n1:=dZ q
 have n2:=dQ q
 have hs:=xM q.num
 have QD:=mW q.den
 unfold fs
 unfold tQ
 split
 ·omega
 ·rw[ByteArray.size_append,ByteArray.size_append];have:("/".toUTF8).size=1:=rfl;omega
theorem mX:∀(l:List (List UInt8)) (B:Nat),(∀x∈l,x.length≤B)→(Lib.join l [32]).length≤l.length*(B+1)
 |[],B,_=>by simp[Lib.join_nil]
 |[x],B,h=>by rw[Lib.join_one];have:=h x (List.mem_cons_self ..);simp;omega
 |x::y::l,B,h=>by
  have ih:=mX (y::l) B (fun z hz=>h z (List.mem_cons_of_mem _ hz))
  have hx:=h x (List.mem_cons_self ..)
  have e:Lib.join (x::y::l) [32]=x++[32]++Lib.join (y::l) [32]:=by rw[Lib.join_cons,Lib.join_cons];simp[Lib.joinTail]
  rw[e]
  simp only[List.length_append,List.length_cons,List.length_nil]at*
  rw[Nat.succ_mul (l.length+1)]
  omega
theorem Gx {a:List Rat} {B:Nat} (hl:a.length≤2048) (h:∀i,i<a.length→fs (a.getD i 0)≤B) (hB:B≤1000000000):(Lib.join ((a.map tQ).map (·.data.toList)) [32]).length≤140737488355328:=by
 refine Nat.le_trans (mX _ (2*B+4) ?_) ?_
 ·intro x hx
  obtain⟨s,hs,rfl⟩:=List.mem_map.1 hx
  obtain⟨q,hq,rfl⟩:=List.mem_map.1 hs
  obtain⟨i,hi,rfl⟩:=rU hq 0
  have h1:=Bt (a.getD i 0)
  have h2:=h i hi
  show(tQ (a.getD i 0)).data.toList.length≤_
  have:(tQ (a.getD i 0)).data.toList.length=(tQ (a.getD i 0)).size:=Array.length_toList
  omega
 ·rw[List.length_map,List.length_map]
  have:a.length*(2*B+4+1)≤2048*(2*B+4+1):=Nat.mul_le_mul_right _ hl
  omega
theorem E6 (a:List Rat) (B:Nat) (hl:a.length≤2048) (h:∀i,i<a.length→fs (a.getD i 0)≤B) (hB:B≤1000000000):ab Tryz.prog 111 [aN a] [] (.val (.string (tV a))) [] []:=by
 have hJ:=Gx hl h hB
 have hz:((a.map tQ).map q7).length=a.length:=by simp
 have mJ:∀i,i<a.length→((a.map tQ).map q7).getD i .any= .val (.string (tQ (a.getD i 0))):=fun i hi=>by rw[pF (d:=ByteArray.empty) (by simpa using hi),pF (d:=0) hi];rfl
 have kj:=Kn (a.map tQ) (by simp;omega) hJ
 refine fZ [] Tryz.func111 ?_
 intro w0 ρ0 hE
 conv=>whnf
 (repeat(first|(refine And.intro Q6 ?_;conv=>whnf)|(refine ah Q8 ?_;conv=>whnf)|(rw[Int.toNat_natCast];conv=>whnf)))
 refine dE hE (fun k=>k) [0,2,3,9,10,11] [8] (fun m fr hp=>∃i,m=a.length - i∧i≤a.length∧fr=[(0,aN a),(2,.val (.string ⟨#[]⟩)),(3,.aO 8 1 0 a.length),(9,aN a),(10,.val (.int .i64 (a.length:Nat))),(11,.val (.int .i64 (i:Nat)))]∧
  hp=[(8,⟨9,true,.seq 1 (((a.map tQ).map q7).take i++List.replicate (a.length - i) (.val (.string .empty)))⟩)]) a.length ?_ ?_ ?_
 ·kernel_rfl
 ·exact⟨0,rfl,Nat.zero_le _,rfl,rfl⟩
 rintro m _ _ ⟨i,rfl,hi,rfl,rfl⟩
 have hlen:=dG (d:=SV.val (.string .empty)) hi hz
 by_cases aE:i<a.length
 ·have t1:=dx aE
  have t2:=br (i:=i) aa
  have k1:=Gw (a.getD i 0) (Nat.le_trans (h i aE) aa)
  refine ey.of hE ?_
  conv=>whnf
  have e3:=JL (d:=SV.val (.string .empty)) (e:=SV.any) aE hz
  (repeat((first|refine ag rfl rfl ?_|refine And.intro Q6 ?_|refine aS (by assumption) ?_|refine ah og ?_|refine ah Q5 ?_|rw[t1]|rw[e3]|rw[t2]|rw[Int.toNat_natCast]|rw[Nat.zero_add]);conv=>whnf))
  refine⟨a.length - (i+1),fun k=>k,[0,2,3,9,10,11],[8],aa,av,i+1,rfl,aE,rfl, ?_⟩
  rw[←fp (e:=.any) aE hz,mJ i aE]
  rfl
 ·have t1:=dA aE
  have hI:i=a.length:=aa
  subst hI
  rw[fu hz]
  refine eA 3 8 (fun _ h=>h) (fun _=>rfl) rfl rfl (by simp) ?_
  refine ey.of hE ?_
  conv=>whnf
  have h91:(ByteArray.mk #[91]).size=1:=rfl
  have h93:(ByteArray.mk #[93]).size=1:=rfl
  have hjs:(ByteArray.mk (Lib.join ((a.map tQ).map (·.data.toList)) [32]).toArray).size=(Lib.join ((a.map tQ).map (·.data.toList)) [32]).length:=by show(Lib.join ((a.map tQ).map (·.data.toList)) [32]).toArray.size=_;simp
  have o1:(ByteArray.mk #[91]).size+(ByteArray.mk (Lib.join ((a.map tQ).map (·.data.toList)) [32]).toArray).size≤9223372036854775807:=aa
  have o2:(ByteArray.mk #[91]++ByteArray.mk (Lib.join ((a.map tQ).map (·.data.toList)) [32]).toArray).size+(ByteArray.mk #[93]).size≤9223372036854775807:=by rw[ByteArray.size_append];omega
  (repeat((first|refine ae rfl rfl ?_|refine And.intro Q6 ?_|refine aS (by assumption) ?_|rw[t1]);conv=>whnf));exact Q4
abbrev iv (n:Int):SV:=.val (.int .i64 n)
abbrev mA (r c:Int) (a:List Rat):SV:=.agg [iv r,iv c,aN a]
abbrev mC (r c:Int) (a:List Rat):List SV:=[iv r,iv c,aN a]
abbrev MV:=Int×Int×List Rat
abbrev mB (m:MV):SV:=mA m.1 m.2.1 m.2.2
def kJ (r c:Int):Int:=if r<0∨c<0 then 1 else if r>2048∨c>2048 then 3 else 0
theorem pH (r c:Int):ab Tryz.prog 197 [iv r,iv c] [] (iv (kJ r c)) [] []:=by
 refine bT [] Tryz.func197 ?_
 intro W0 w0 ρ0 hE
 conv=>whnf
 unfold kJ
 by_cases h1:r<0
 ·have t1:decide (r<0)=true:=decide_eq_true h1
  rw[if_pos (.inl h1)]
  (repeat((first|refine ag rfl rfl ?_|refine ae rfl rfl ?_|refine ah dO ?_|rw[t1]);conv=>whnf));exact Q4
 have t1:decide (r<0)=false:=decide_eq_false h1
 by_cases h2:c<0
 ·have t2:decide (c<0)=true:=decide_eq_true h2
  rw[if_pos (.inr h2)]
  (repeat((first|refine ag rfl rfl ?_|refine ah dP ?_|rw[t1]|rw[t2]);conv=>whnf));exact Q4
 have t2:decide (c<0)=false:=decide_eq_false h2
 rw[if_neg aa]
 by_cases h3:r>2048
 ·have t3:decide (r>2048)=true:=decide_eq_true h3
  rw[if_pos (.inl h3)]
  (repeat((first|refine ag rfl rfl ?_|refine ae rfl rfl ?_|refine ah dO ?_|refine ah dP ?_|rw[t1]|rw[t2]|rw[t3]);conv=>whnf));exact Q4
 have t3:decide (r>2048)=false:=decide_eq_false h3
 by_cases h4:c>2048
 ·have t4:decide (c>2048)=true:=decide_eq_true h4
  rw[if_pos (.inr h4)]
  (repeat((first|refine ag rfl rfl ?_|refine ae rfl rfl ?_|refine ah dP ?_|rw[t1]|rw[t2]|rw[t3]|rw[t4]);conv=>whnf));exact Q4
 have t4:decide (c>2048)=false:=decide_eq_false h4
 rw[if_neg aa]
 (repeat((first|refine ag rfl rfl ?_|refine ae rfl rfl ?_|refine ah dP ?_|rw[t1]|rw[t2]|rw[t3]|rw[t4]);conv=>whnf));exact Q4
theorem Dh {r c:Int} (h:kJ r c=0):(0≤r∧r≤2048)∧(0≤c∧c≤2048):=by
 unfold kJ at h
 by_cases h1:r<0∨c<0
 ·rw[if_pos h1]at h;omega
 ·rw[if_neg h1]at h
  by_cases h2:r>2048∨c>2048
  ·rw[if_pos h2]at h;omega
  ·omega
theorem mY {r c:Int} (h:(0≤r∧r≤2048)∧(0≤c∧c≤2048)):kJ r c=0:=by
 unfold kJ;rw[if_neg aa,if_neg aa]
theorem Oc {r c:Int} (h:(0≤r∧r≤2048)∧(0≤c∧c≤2048)):0≤r*c∧r*c≤4194304:=by
 obtain⟨⟨a,b⟩,d,e⟩:=h
 refine⟨Int.mul_nonneg a d, ?_⟩
 exact Int.le_trans (Int.mul_le_mul b e d aI) aI
def cp (r c:Int) (n:Nat):Int:=if kJ r c≠0 then kJ r c else if (n:Int)≠r*c then 1 else 0
theorem ir (r c:Int) (a:List Rat) (hn:a.length<1099511627776):ab Tryz.prog 69 [mA r c a] [] (iv (cp r c a.length)) [] []:=by
 have k1:=pH r c
 refine bT [] Tryz.func69 ?_
 intro W0 w0 ρ0 hE
 conv=>whnf
 unfold cp
 by_cases h1:kJ r c=0
 ·rw[if_neg aa]
  rw[h1]at k1
  have hp:=Oc (Dh h1)
  have t2:IntKind.i64.wrap (r*c)=r*c:=wrap_i64 aa aa
  by_cases h2:(a.length:Int)=r*c
  ·have t3:((a.length:Int) != r*c)=false:=by rw[h2];exact bne_self_eq_false _
   rw[if_neg aa]
   clear hp
   (repeat((first|refine ae rfl rfl ?_|refine aS (by assumption) ?_|rw[bne_self_eq_false]|refine ah Q8 ?_|rw[t2]|rw[t3]);conv=>whnf));exact Q4
  ·have t3:((a.length:Int) != r*c)=true:=bne_iff_ne.2 h2
   rw[if_pos h2]
   clear hp
   (repeat((first|refine ag rfl rfl ?_|refine ae rfl rfl ?_|refine aS (by assumption) ?_|rw[bne_self_eq_false]|refine ah Q8 ?_|rw[t2]|rw[t3]);conv=>whnf));exact Q4
 ·have t1:(kJ r c != 0)=true:=bne_iff_ne.2 h1
  rw[if_pos h1]
  (repeat(first|(refine ag rfl rfl ?_;conv=>whnf)|(refine aS (by assumption) ?_;conv=>whnf)|(rw[t1];conv=>whnf)));exact Q4
theorem mZ {r c:Nat} {n:Nat} (hr:r≤2048) (hc:c≤2048) (hn:n=r*c):cp r c n=0:=by
 unfold cp
 rw[mY aa,if_neg aa,if_neg (by rw[hn];push_cast;omega)]
structure dV (R C:Nat) (a:List Rat):Prop where
 r:R≤2048
 c:C≤2048
 n:a.length=R*C
theorem dV.small {r c:Nat} {a:List Rat} (h:dV r c a):a.length≤4194304:=by rw[h.n];exact Nat.mul_le_mul h.r h.c
theorem er {r c:Nat} {a:List Rat} (h:dV r c a):ab Tryz.prog 69 [mA r c a] [] (iv 0) [] []:=by
 have:=ir r c a (by have:=h.small;omega)
 rwa [mZ h.r h.c h.n]at this
def y6:List MV→Int
 |[]=>0
 |m::l=>if cp m.1 m.2.1 m.2.2.length≠0 then cp m.1 m.2.1 m.2.2.length else y6 l
theorem drop_one {α:Type} {l:List α} {i:Nat} (d:α) (h:i<l.length):l.drop i=l.getD i d::l.drop (i+1):=by
 rw[List.drop_eq_getElem_cons h,List.getD_eq_getElem?_getD,List.getElem?_eq_getElem h];rfl
abbrev vH:MV:=(0,0,[])
theorem QG (l:List MV) (hl:l.length<1099511627776) (h:∀m∈l,m.2.2.length<1099511627776):ab Tryz.prog 195 [bF 3 mB l] [] (iv (y6 l)) [] []:=by
 refine bT [] Tryz.func195 ?_
 intro W0 w0 ρ0 hE
 conv=>whnf
 (repeat(first|(refine ah Q8 ?_;conv=>whnf)))
 refine aj hE (fun k=>k) [0,6,7,8] [] (fun m fr hp=>∃i:Nat,m=l.length - i∧i≤l.length∧y6 (l.drop i)=y6 l∧fr=[(0,bF 3 mB l),(6,bF 3 mB l),(7,iv (l.length:Nat)),(8,iv (i:Nat))]∧hp=[]) l.length ?_ ?_ ?_
 ·kernel_rfl
 ·exact⟨0,rfl,Nat.zero_le _,rfl,rfl,rfl⟩
 rintro m _ _ ⟨i,rfl,hi,hs,rfl,rfl⟩
 conv=>whnf
 by_cases aE:i<l.length
 ·have t1:=dx aE
  have t2:=br (i:=i) aa
  have k1:=ir (l.getD i vH).1 (l.getD i vH).2.1 (l.getD i vH).2.2 (h _ (eK aE))
  rw[drop_one vH aE,y6]at hs
  by_cases hc:cp (l.getD i vH).1 (l.getD i vH).2.1 (l.getD i vH).2.2.length=0
  ·rw[if_neg aa]at hs
   rw[hc]at k1
   (repeat((first|refine ag rfl rfl ?_|refine ae rfl rfl ?_|refine aS (by assumption) ?_|rw[bne_self_eq_false]|refine ah Q5 ?_|refine ah (gK (α:=MV) (d:=vH) rfl (ak rfl) (ak rfl) (jz rfl) rfl (jz rfl) rfl aa) ?_|rw[t1]|rw[t2]);conv=>whnf))
   exact⟨l.length - (i+1),fun k=>k,[0,6,7,8],[],aa,av,i+1,rfl,aE,hs,rfl,rfl⟩
  ·have t3:(cp (l.getD i vH).1 (l.getD i vH).2.1 (l.getD i vH).2.2.length != 0)=true:=bne_iff_ne.2 hc
   rw[if_pos hc]at hs
   rw[←hs]
   (repeat((first|refine ag rfl rfl ?_|refine aS (by assumption) ?_|refine ah Q5 ?_|refine ah (gK (α:=MV) (d:=vH) rfl (ak rfl) (ak rfl) (jz rfl) rfl (jz rfl) rfl aa) ?_|rw[t1]|rw[t3]);conv=>whnf));exact Q4
 ·have t1:=dA aE
  have hI:i=l.length:=aa
  rw[hI,List.drop_length]at hs
  rw[←hs]
  (repeat(first|(refine ae rfl rfl ?_;conv=>whnf)|(rw[t1];conv=>whnf)));exact Q4
theorem Kv {r c s t:Nat} {a b:List Rat} (ha:dV r c a) (hb:dV s t b):ab Tryz.prog 195 [bF 3 mB [((r:Int),(c:Int),a),((s:Int),(t:Int),b)]] [] (iv 0) [] []:=by
 have:=QG [((r:Int),(c:Int),a),((s:Int),(t:Int),b)] (by simp) (by
  intro m hm
  have h1:=ha.small;have h2:=hb.small
  simp only[List.mem_cons,List.not_mem_nil,or_false]at hm
  rcases hm with rfl|rfl
  ·show a.length<_;omega
  ·show b.length<_;omega)
 rwa [y6,if_neg (by rw[mZ ha.r ha.c ha.n];decide),y6,if_neg (by rw[mZ hb.r hb.c hb.n];decide),y6]at this
theorem YD {r c:Nat} {a:List Rat} (ha:dV r c a):ab Tryz.prog 195 [bF 3 mB [((r:Int),(c:Int),a)]] [] (iv 0) [] []:=by
 have:=QG [((r:Int),(c:Int),a)] (by simp) (by
  intro m hm
  have h1:=ha.small
  simp only[List.mem_cons,List.not_mem_nil,or_false]at hm
  obtain rfl:=hm
  show a.length<_;omega)
 rwa [y6,if_neg (by rw[mZ ha.r ha.c ha.n];decide),y6]at this
def qJ (l:List (List Rat)):Int:=if l.any (fun v=>decide (2048<v.length))then 3 else 0
theorem Od (ls:List (List Rat)) (hn:ls.length<1099511627776) (hl:∀v∈ls,v.length<1099511627776):ab Tryz.prog 202 [bF 1 aN ls] [] (iv (qJ ls)) [] []:=by
 refine bT [] Tryz.func202 ?_
 intro W0 w0 ρ0 hE
 conv=>whnf
 (repeat(first|(refine ah Q8 ?_;conv=>whnf)))
 refine aj hE (fun k=>k) [0,5,6,7] [] (fun m fr hp=>∃i:Nat,m=ls.length - i∧i≤ls.length∧(∀j,j<i→decide (2048<(ls.getD j []).length)=false)∧fr=[(0,bF 1 aN ls),(5,bF 1 aN ls),(6,iv (ls.length:Nat)),(7,iv (i:Nat))]∧hp=[]) ls.length ?_ ?_ ?_
 ·kernel_rfl
 ·exact⟨0,rfl,Nat.zero_le _,(fun j hj=>aa),rfl,rfl⟩
 rintro m _ _ ⟨i,rfl,hi,hs,rfl,rfl⟩
 conv=>whnf
 by_cases aE:i<ls.length
 ·have t1:=dx aE
  have t2:=br (i:=i) aa
  by_cases hL:2048<(ls.getD i []).length
  ·have t3:decide (((ls.getD i []).length:Int)>2048)=true:=decide_eq_true aa
   have e:qJ ls=3:=by rw[qJ,if_pos (ED (d:=[]) aE (decide_eq_true hL))]
   rw[e]
   (repeat((first|refine ag rfl rfl ?_|refine ah Q8 ?_|refine ah Q5 ?_|refine ah mP ?_|rw[t1]|rw[t3]);conv=>whnf));exact Q4
  ·have t3:decide (((ls.getD i []).length:Int)>2048)=false:=decide_eq_false aa
   (repeat((first|refine ag rfl rfl ?_|refine ae rfl rfl ?_|refine ah Q8 ?_|refine ah Q5 ?_|refine ah mP ?_|rw[t1]|rw[t3]|rw[t2]);conv=>whnf))
   refine⟨ls.length - (i+1),fun k=>k,[0,5,6,7],[],aa,av,i+1,rfl,aE, ?_,rfl,rfl⟩
   intro j hj
   by_cases hji:j=i
   ·rw[hji];exact decide_eq_false hL
   ·exact hs j aa
 ·have t1:=dA aE
  have hI:i=ls.length:=aa
  subst hI
  have e:qJ ls=0:=by rw[qJ,if_neg];rw[xo [] hs];exact Bool.false_ne_true
  rw[e]
  (repeat(first|(refine ae rfl rfl ?_;conv=>whnf)|(rw[t1];conv=>whnf)));exact Q4
theorem QH (i:Int) (n:Int):ab Tryz.prog 204 [iv i,iv n] [] (.val (.bool (decide (0≤i∧i<n)))) [] []:=by
 refine bT [] Tryz.func204 ?_
 intro W0 w0 ρ0 hE
 conv=>whnf
 by_cases h1:i<0
 ·have t1:decide (i≥0)=false:=decide_eq_false aa
  rw[decide_eq_false (show ¬(0≤i∧i<n) by omega)]
  (repeat(first|(refine ae rfl rfl ?_;conv=>whnf)|(refine ah dP ?_;conv=>whnf)|(rw[t1];conv=>whnf)));exact Q4
 ·have t1:decide (i≥0)=true:=decide_eq_true aa
  by_cases h2:i<n
  ·have t2:decide (i<n)=true:=decide_eq_true h2
   rw[decide_eq_true (show 0≤i∧i<n by omega)]
   (repeat((first|refine ag rfl rfl ?_|refine ah dO ?_|rw[t1]|rw[t2]);conv=>whnf));exact Q4
  ·have t2:decide (i<n)=false:=decide_eq_false h2
   rw[decide_eq_false (show ¬(0≤i∧i<n) by omega)]
   (repeat((first|refine ag rfl rfl ?_|refine ah dO ?_|rw[t1]|rw[t2]);conv=>whnf));exact Q4
theorem kK {i k c:Nat} (hi:i≤2048) (hc:c≤2048) (hk:k≤2048):IntKind.i64.wrap ((i:Int)*(c:Int))=((i*c:Nat):Int)∧IntKind.i64.wrap (((i*c:Nat):Int)+(k:Int))=((i*c+k:Nat):Int):=by
 have h1:i*c≤2048*2048:=Nat.mul_le_mul hi hc
 constructor
 ·rw[←Int.natCast_mul,wrap_i64 aa aa]
 ·rw[wrap_i64 aa aa];omega
theorem Oe {r c:Nat} {a:List Rat} (h:dV r c a) {i k:Nat} (hi:i<r) (hk:k<c):ab Tryz.prog 102 [mA r c a,iv i,iv k] [] (.frac (el a c i k)) [] []:=by
 obtain⟨t1,t2⟩:=kK (i:=i) (k:=k) (c:=c) (by have:=h.r;omega) h.c (by have:=h.c;omega)
 have aE:=gF hi hk
 rw[←h.n]at aE
 refine bT [] Tryz.func102 ?_
 intro W0 w0 ρ0 hE
 conv=>whnf
 (repeat((first|refine ah Q5 ?_|refine ah IG ?_|rw[t1]|rw[t2]|rw[Int.toNat_natCast]);conv=>whnf));exact Q4
abbrev db (a:List Rat) (c i:Nat):List Rat:=(a.drop (i*c)).take c
theorem c8 {r c i:Nat} {a:List Rat} (hi:i<r) (h:a.length=r*c):(db a c i).length=c:=by
 have:=Nat.mul_le_mul_right c (show i+1≤r from hi)
 rw[Nat.succ_mul]at this
 rw[List.length_take,List.length_drop];omega
theorem iw {a:List Rat} {c i k:Nat} (hk:k<c):(db a c i).getD k 0=el a c i k:=by
 simp[List.getD_eq_getElem?_getD,hk]
theorem xN {i c:Nat} (hi:i≤2047) (hc:c≤2048):IntKind.i64.wrap ((i:Int)*(c:Int))=((i*c:Nat):Int)∧IntKind.i64.wrap (((i+1:Nat):Int)*(c:Int))=(((i+1)*c:Nat):Int)∧IntKind.i64.wrap ((i:Int)+1)=((i+1:Nat):Int):=
 ⟨(kK (i:=i) (k:=0) aa hc aa).1,(kK (i:=i+1) (k:=0) aa hc aa).1,br aa⟩
theorem Kw {r c:Nat} {a:List Rat} (h:dV r c a) {i:Nat} (hi:i<r):ab Tryz.prog 203 [mA r c a,iv i] [] (aN (db a c i)) [] []:=by
 obtain⟨t1,t2,t3⟩:=xN (i:=i) (c:=c) (by have:=h.r;omega) h.c
 have aE:=Nat.mul_le_mul_right c (show i+1≤r from hi)
 have hle:i*c≤(i+1)*c:=Nat.mul_le_mul_right c aa
 rw[←h.n]at aE
 have e1:(i+1)*c - i*c=c:=by rw[Nat.succ_mul];omega
 refine bT [] Tryz.func203 ?_
 intro W0 w0 ρ0 hE
 conv=>whnf
 (repeat((first|refine aq av ?_|refine ah (zF rfl (ak rfl) (fc rfl) (fc rfl) (.inr ⟨Option.some_ne_none _,_,_,rfl,ak rfl⟩) (jz rfl) rfl (jz rfl) rfl aa) ?_|rw[t1]|rw[t3]|rw[t2]|rw[e1]|rw[Int.toNat_natCast]);conv=>whnf))
 exact Q4
end Go.Proofs.YtfpagioknjjacaaGreatDoor
namespace Go.Sx
set_option linter.unusedSimpArgs false
set_option linter.unusedVariables false
section
variable {P:Program} {o:Oper} {ft:List (Nat×SV)} {fk:List (Nat×aF)}
theorem HL {t e:TypeId} {x lo hi mx:Operand} {ti te:TI} {k s i n:Nat} {l h:Int} {kl kh km:IntKind} (ho:o.op= .slice t x (some lo) (some hi) (some mx)) (hx:bp ft x (.aO k s i n))
  (Ce:bp ft lo (.val (.int kl l))) (Cf:bp ft hi (.val (.int kh h))) (hmx:bp ft mx (.val (.int km h)))
  (ht:aG P t ti) (hk:ti.kind= .aO e) (he:aG P e te) (hs:te.size=s) (hh:0≤l∧l≤h∧h≤n):bS P o ft fk (.aO k s (i+l.toNat) (h - l).toNat) [] []:=
 bw fun ρ a w hp=>by
  obtain⟨h0,hlh,hh⟩:=hh
  have hu:=ht.kind;rw[hk]at hu
  have key:∀(ad:Option Addr) (m cap:Nat),n=m→m≤cap→a.eval x= .slice ad m cap→
    (execOp a.eval o).run P w= .ok (.value (.slice (if h.toNat=l.toNat then ad else ad.map (·.add (l.toNat*s))) (h.toNat - l.toNat) (h.toNat - l.toNat))) w:=by
   intro ad m cap I1 hmc hv
   have hr:∀(z:Operand) (kd:IntKind) (bd:Nat),bp ft z (.val (.int kd h))→h.toNat≤bd→∀q,(Instr.sliceBound (a.eval z) bd q).run P w= .ok h.toNat w:=by
    intro z kd bd hz rz q
    have:=aK (hz ρ a hp.dy)
    have hb:0≤h∧h≤(bd:Int):=aa
    simp[Instr.sliceBound,this,asIntOf,hb]
   have hl:∀q,(Instr.sliceBound (a.eval lo) h.toNat q).run P w= .ok l.toNat w:=by
    intro q
    have:=aK (Ce ρ a hp.dy)
    have hb:0≤l∧l≤(h.toNat:Int):=aa
    simp only[Instr.sliceBound,this,asIntOf,Sem.run_bind,Sem.run_pure,Result.andThen_ok,hb,and_self,if_true]
   have rh:(Instr.sliceBounds true m cap (some (a.eval lo)) (some (a.eval hi)) (some (a.eval mx))).run P w= .ok (l.toNat,h.toNat,h.toNat) w:=by
    unfold Instr.sliceBounds
    simp[hr mx km cap hmx aa,hr hi kh h.toNat Cf (Nat.le_refl _),hl]
   simp only[execOp,ho,Option.map_some,Instr.sliceAt,Sem.run_bind,run_underlying hu,Result.andThen_ok,Instr.slice,hv,rh,he.sizeOf,hs,Sem.run_pure]
  rcases fI (hx ρ a hp.dy)with⟨b,t',cap,h1,h2,h3,h4⟩|⟨rfl,ad,h4⟩
  ·refine⟨_,key _ n cap rfl h2 h4,gv ?_⟩
   by_cases hc:h.toNat=l.toNat
   ·right
    have:h.toNat - l.toNat=0:=aa
    refine⟨aa,some ⟨b,i*s,none⟩, ?_⟩
    rw[if_pos hc,this]
   ·left
    refine⟨b,t',h.toNat - l.toNat,h1,aa, ?_, ?_⟩
    ·exact Nat.le_trans (Nat.mul_le_mul_right s (show i+l.toNat+(h.toNat - l.toNat)≤i+cap by omega)) h3
    ·rw[if_neg hc]
     have fU:(⟨b,i*s,none⟩:Addr).add (l.toNat*s)=⟨b,(i+l.toNat)*s,none⟩:=by
      unfold Addr.add
      rw[Nat.add_mul]
      split
      ·rename_i h0;simp[h0]
      ·rfl
     rw[Option.map_some,fU,show(h - l).toNat=h.toNat - l.toNat from by omega]
  ·refine⟨_,key ad 0 0 rfl (Nat.le_refl _) h4,gv (.inr ⟨aa,ad, ?_⟩)⟩
   have h1:l.toNat=0:=aa
   have h2:h.toNat=0:=aa
   simp[h1,h2]
theorem pI {f:FuncId} {a b:List SV} {t t2:TypeId} {x y:Operand} {p r:Array TypeId} {v:Bool} (ho:o.op= .binOp .eql t x y t2) (hx:bp ft x (.clo f a b)) (hy:bp ft y (.val .nilFunc)) (hu:P.underlying t=some (.func p r v)):bS P o ft fk (.val (.bool false)) [] []:=
 bw fun ρ ac w hp=>by
  have h1:=hx ρ ac hp.dy
  simp only[Has,aL]at h1
  obtain⟨_,⟨fz,cz,_,_,rfl⟩,e1⟩:=h1
  have e2:=aK (hy ρ ac hp.dy)
  simp only[cQ,SV.bl,if_true,List.headD_cons]at e1
  have hq:∀d vs ws,(Op.equalIn (d+1) t (.func (.func f) vs ws) .nilFunc).run P w= .ok false w:=fun d vs ws=>by simp[Op.equalIn,run_underlying hu]
  have AV:∀vs ws,(Op.equal t (.func (.func f) vs ws) .nilFunc).run P w= .ok false w:=fun vs ws=>hq 9999 vs ws
  refine⟨_, ?_,cd rfl⟩
  simp[execOp,ho,e1,e2,eqGuard,binOp,AV]
end
end Go.Sx
namespace Go.Proofs.YtfpagioknjjacaaGreatDoor
open Go.Sx
set_option linter.unusedSimpArgs false
set_option linter.unusedVariables false
set_option maxRecDepth 100000
set_option maxHeartbeats 4000000
abbrev zM:aF:=⟨38,true,.one [iv 0,iv 0,.val (.slice none 0 0)]⟩
abbrev bM (r c K:Nat):aF:=⟨38,true,.one [iv r,iv c,.aO K 5 0 (r*c)]⟩
abbrev cP (l:List Rat):aF:=⟨52,true,.cb l⟩
theorem Bu {r c:Nat} {a:List Rat} (h:dV r c a) {i:Nat} (hi:i<r) (K:Nat):ab Tryz.prog 203 [.agg [iv r,iv c,.aO K 5 0 (r*c)],iv i] [(K,cP a)] (.aO K 5 (i*c) c) [] []:=by
 obtain⟨t1,t2,t3⟩:=xN (i:=i) (c:=c) (by have:=h.r;omega) h.c
 have aE:=Nat.mul_le_mul_right c (show i+1≤r from hi)
 have hle:i*c≤(i+1)*c:=Nat.mul_le_mul_right c aa
 have e1:(((i+1)*c:Nat) - (i*c:Nat):Int).toNat=c:=by rw[Nat.succ_mul];omega
 refine ab.rN ?_
 refine gh (Z:=[]) aJ bO Tryz.func203 rfl av (args:=[.agg [iv r,iv c,.aO 1001 5 0 (r*c)],iv i]) (fk:=[(1001,⟨52,false,.cb a⟩)]) (c:=.aO 1001 5 (i*c) c) (new:=[]) (upd:=[]) (cI.of rfl rfl rfl rfl rfl rfl rfl rfl rfl rfl rfl) rfl (fun _=>K) (bo.ro rfl) ?_
 intro W0 w0 ρ0 hE
 conv=>whnf
 (repeat((first|refine aq av ?_|refine ah (HL rfl (ak rfl) (ak rfl) (ak rfl) (ak rfl) (jz rfl) rfl (jz rfl) rfl aa) ?_|rw[t1]|rw[t3]|rw[t2]|rw[e1]|rw[Int.toNat_natCast]|rw[Nat.zero_add]);conv=>whnf))
 exact⟨au.refl _,(fun _ _ h=>by cases h),(fun _ _ h=>by cases h)⟩
theorem Of {r c:Nat} (hr:r≤2048) (hc:c≤2048) (F:Nat→Nat→Rat) (g:FuncId)
  (hf:∀i k,i<r→k<c→ab Tryz.prog g ([]++([iv (i:Nat),iv (k:Nat)]++[])) [] (.frac (F i k)) [] []):
  ab Tryz.prog 92 [iv r,iv c,.clo g [] []] [] (.ck [mA r c (mk r c F),iv 0]) [] []:=by
 have k1:=pH r c
 rw[mY aa]at k1
 have hz:(mk r c F).length=r*c:=dJ ..
 have Jd:r*c≤2048*2048:=Nat.mul_le_mul hr hc
 have t1:IntKind.i64.wrap ((r:Int)*(c:Int))=((r*c:Nat):Int):=by rw[←Int.natCast_mul,wrap_i64 aa aa]
 refine fZ [] Tryz.func92 ?_
 intro w0 ρ0 hE
 conv=>whnf
 (repeat((first|refine ae rfl rfl ?_|refine aC Q3 ?_|refine aS (by assumption) ?_|rw[bne_self_eq_false]|refine⟨_,pI rfl (ak rfl) (ak rfl) Tryz.underlying137, ?_⟩|rw[t1]|rw[Int.toNat_natCast]);conv=>whnf))
 refine aj hE (fun k=>k) [0,1,2,6,9,30,31] [6,9,25] (fun m fr hp=>∃i:Nat,m=r - i∧i≤r∧fr=[(0,iv r),(1,iv c),(2,.clo g [] []),(6,.ptr 6 0 0 0),(9,.ptr 9 0 0 0),(30,iv r),(31,iv (i:Nat))]∧
  hp=[(6,zM),(9,bM r c 25),(25,cP ((mk r c F).take (i*c)++List.replicate (r*c - i*c) 0))]) r ?_ ?_ ?_
 ·kernel_rfl
 ·exact⟨0,rfl,Nat.zero_le _,rfl,by rw[Nat.zero_mul,List.take_zero];rfl⟩
 rintro m _ _ ⟨i,rfl,hi,rfl,rfl⟩
 conv=>whnf
 by_cases aE:i<r
 ·have t2:=dx aE
  have t3:=br (i:=i) aa
  have Og:(i+1)*c≤r*c:=Nat.mul_le_mul_right c aE
  rw[Nat.succ_mul]at Og
  have hlen:=dG (d:=(0:Rat)) (show i*c≤r*c by omega) hz
  have o1:=Bu (a:=(mk r c F).take (i*c)++List.replicate (r*c - i*c) 0) ⟨hr,hc,hlen⟩ aE 25
  (repeat(first|(refine ag rfl rfl ?_;conv=>whnf)|(refine mj (by assumption) rfl ?_;conv=>whnf)|(rw[t2];conv=>whnf)))
  refine aj hE (fun k=>k) [0,1,2,6,9,10,11,30,31,37,38] [6,9,25] (fun m fr hp=>∃k:Nat,m=c - k∧k≤c∧fr=[(0,iv r),(1,iv c),(2,.clo g [] []),(6,.ptr 6 0 0 0),(9,.ptr 9 0 0 0),(10,iv (i:Nat)),(11,.aO 25 5 (i*c) c),(30,iv r),(31,iv (i:Nat)),(37,iv c),(38,iv (k:Nat))]∧
   hp=[(6,zM),(9,bM r c 25),(25,cP ((mk r c F).take (i*c+k)++List.replicate (r*c - (i*c+k)) 0))]) c ?_ ?_ ?_
  ·kernel_rfl
  ·exact⟨0,rfl,Nat.zero_le _,rfl,rfl⟩
  rintro m _ _ ⟨k,rfl,hk,rfl,rfl⟩
  conv=>whnf
  by_cases hlk:k<c
  ·have t4:=dx hlk
   have t5:=br (i:=k) aa
   have hlen:=dG (d:=(0:Rat)) (show i*c+k≤r*c by omega) hz
   have o2:=hf i k aE hlk
   rw[←ec (f:=F) aE hlk]at o2
   (repeat((first|refine ag rfl rfl ?_|refine bg Q3 ?_|refine aC Q3 ?_|refine aS (by assumption) ?_|rw[t4]|rw[t5]|rw[Int.toNat_natCast]);conv=>whnf))
   refine⟨c - (k+1),fun k=>k,[0,1,2,6,9,10,11,30,31,37,38],[6,9,25],aa,av,k+1,rfl,hlk,rfl, ?_⟩
   rw[show i*c+(k+1)=i*c+k+1 from rfl,cP,←fp (e:=0) (show i*c+k<r*c by omega) hz]
   rfl
  ·have t4:=dA hlk
   obtain rfl:k=c:=aa
   (repeat(first|(refine ae rfl rfl ?_;conv=>whnf)|(rw[t4];conv=>whnf)|(rw[t3];conv=>whnf)))
   refine⟨r - (i+1),fun k=>k,[0,1,2,6,9,30,31],[6,9,25],aa,av,i+1,rfl,aE,rfl, ?_⟩
   rw[Nat.succ_mul]
   rfl
 ·have t2:=dA aE
  obtain rfl:i=r:=aa
  rw[fu hz]
  (repeat(first|(refine ae rfl rfl ?_;conv=>whnf)|(rw[t2];conv=>whnf)))
  exact Q20
theorem Oh {r c:Nat} (hr:r≤2048) (hc:c≤2048) (F:Nat→Nat→Rat) (g:FuncId) (p:Pred)
  (hf:∀i k,i<r→k<c→ab Tryz.prog g ([]++([iv (i:Nat),iv (k:Nat)]++[.atom p])) [] (.frac (F i k)) [] []):
  ab Tryz.prog 92 [iv r,iv c,.clo g [] [.atom p]] [] (.ck [mA r c (mk r c F),iv 0]) [] []:=by
 have k1:=pH r c
 rw[mY aa]at k1
 have hz:(mk r c F).length=r*c:=dJ ..
 have Jd:r*c≤2048*2048:=Nat.mul_le_mul hr hc
 have t1:IntKind.i64.wrap ((r:Int)*(c:Int))=((r*c:Nat):Int):=by rw[←Int.natCast_mul,wrap_i64 aa aa]
 refine fZ [] Tryz.func92 ?_
 intro w0 ρ0 hE
 conv=>whnf
 (repeat((first|refine ae rfl rfl ?_|refine aC Q3 ?_|refine aS (by assumption) ?_|rw[bne_self_eq_false]|refine⟨_,pI rfl (ak rfl) (ak rfl) Tryz.underlying137, ?_⟩|rw[t1]|rw[Int.toNat_natCast]);conv=>whnf))
 refine aj hE (fun k=>k) [0,1,2,6,9,30,31] [6,9,25] (fun m fr hp=>∃i:Nat,m=r - i∧i≤r∧fr=[(0,iv r),(1,iv c),(2,.clo g [] [.atom p]),(6,.ptr 6 0 0 0),(9,.ptr 9 0 0 0),(30,iv r),(31,iv (i:Nat))]∧
  hp=[(6,zM),(9,bM r c 25),(25,cP ((mk r c F).take (i*c)++List.replicate (r*c - i*c) 0))]) r ?_ ?_ ?_
 ·kernel_rfl
 ·exact⟨0,rfl,Nat.zero_le _,rfl,by rw[Nat.zero_mul,List.take_zero];rfl⟩
 rintro m _ _ ⟨i,rfl,hi,rfl,rfl⟩
 conv=>whnf
 by_cases aE:i<r
 ·have t2:=dx aE
  have t3:=br (i:=i) aa
  have Og:(i+1)*c≤r*c:=Nat.mul_le_mul_right c aE
  rw[Nat.succ_mul]at Og
  have hlen:=dG (d:=(0:Rat)) (show i*c≤r*c by omega) hz
  have o1:=Bu (a:=(mk r c F).take (i*c)++List.replicate (r*c - i*c) 0) ⟨hr,hc,hlen⟩ aE 25
  (repeat(first|(refine ag rfl rfl ?_;conv=>whnf)|(refine mj (by assumption) rfl ?_;conv=>whnf)|(rw[t2];conv=>whnf)))
  refine aj hE (fun k=>k) [0,1,2,6,9,10,11,30,31,37,38] [6,9,25] (fun m fr hp=>∃k:Nat,m=c - k∧k≤c∧fr=[(0,iv r),(1,iv c),(2,.clo g [] [.atom p]),(6,.ptr 6 0 0 0),(9,.ptr 9 0 0 0),(10,iv (i:Nat)),(11,.aO 25 5 (i*c) c),(30,iv r),(31,iv (i:Nat)),(37,iv c),(38,iv (k:Nat))]∧
   hp=[(6,zM),(9,bM r c 25),(25,cP ((mk r c F).take (i*c+k)++List.replicate (r*c - (i*c+k)) 0))]) c ?_ ?_ ?_
  ·kernel_rfl
  ·exact⟨0,rfl,Nat.zero_le _,rfl,rfl⟩
  rintro m _ _ ⟨k,rfl,hk,rfl,rfl⟩
  conv=>whnf
  by_cases hlk:k<c
  ·have t4:=dx hlk
   have t5:=br (i:=k) aa
   have hlen:=dG (d:=(0:Rat)) (show i*c+k≤r*c by omega) hz
   have o2:=hf i k aE hlk
   rw[←ec (f:=F) aE hlk]at o2
   (repeat((first|refine ag rfl rfl ?_|refine bg Q3 ?_|refine aC Q3 ?_|refine aS (by assumption) ?_|rw[t4]|rw[t5]|rw[Int.toNat_natCast]);conv=>whnf))
   refine⟨c - (k+1),fun k=>k,[0,1,2,6,9,10,11,30,31,37,38],[6,9,25],aa,av,k+1,rfl,hlk,rfl, ?_⟩
   rw[show i*c+(k+1)=i*c+k+1 from rfl,cP,←fp (e:=0) (show i*c+k<r*c by omega) hz]
   rfl
  ·have t4:=dA hlk
   obtain rfl:k=c:=aa
   (repeat(first|(refine ae rfl rfl ?_;conv=>whnf)|(rw[t4];conv=>whnf)|(rw[t3];conv=>whnf)))
   refine⟨r - (i+1),fun k=>k,[0,1,2,6,9,30,31],[6,9,25],aa,av,i+1,rfl,aE,rfl, ?_⟩
   rw[Nat.succ_mul]
   rfl
 ·have t2:=dA aE
  obtain rfl:i=r:=aa
  rw[fu hz]
  (repeat(first|(refine ae rfl rfl ?_;conv=>whnf)|(rw[t2];conv=>whnf)))
  exact Q20
theorem Gy {r c:Nat} (hr:r≤2048) (hc:c≤2048) (F:Nat→Nat→Rat) (g:FuncId) (p q:Pred)
  (hf:∀i k,i<r→k<c→ab Tryz.prog g ([]++([iv (i:Nat),iv (k:Nat)]++[.atom p,.atom q])) [] (.frac (F i k)) [] []):
  ab Tryz.prog 92 [iv r,iv c,.clo g [] [.atom p,.atom q]] [] (.ck [mA r c (mk r c F),iv 0]) [] []:=by
 have k1:=pH r c
 rw[mY aa]at k1
 have hz:(mk r c F).length=r*c:=dJ ..
 have Jd:r*c≤2048*2048:=Nat.mul_le_mul hr hc
 have t1:IntKind.i64.wrap ((r:Int)*(c:Int))=((r*c:Nat):Int):=by rw[←Int.natCast_mul,wrap_i64 aa aa]
 refine fZ [] Tryz.func92 ?_
 intro w0 ρ0 hE
 conv=>whnf
 (repeat((first|refine ae rfl rfl ?_|refine aC Q3 ?_|refine aS (by assumption) ?_|rw[bne_self_eq_false]|refine⟨_,pI rfl (ak rfl) (ak rfl) Tryz.underlying137, ?_⟩|rw[t1]|rw[Int.toNat_natCast]);conv=>whnf))
 refine aj hE (fun k=>k) [0,1,2,6,9,30,31] [6,9,25] (fun m fr hp=>∃i:Nat,m=r - i∧i≤r∧fr=[(0,iv r),(1,iv c),(2,.clo g [] [.atom p,.atom q]),(6,.ptr 6 0 0 0),(9,.ptr 9 0 0 0),(30,iv r),(31,iv (i:Nat))]∧
  hp=[(6,zM),(9,bM r c 25),(25,cP ((mk r c F).take (i*c)++List.replicate (r*c - i*c) 0))]) r ?_ ?_ ?_
 ·kernel_rfl
 ·exact⟨0,rfl,Nat.zero_le _,rfl,by rw[Nat.zero_mul,List.take_zero];rfl⟩
 rintro m _ _ ⟨i,rfl,hi,rfl,rfl⟩
 conv=>whnf
 by_cases aE:i<r
 ·have t2:=dx aE
  have t3:=br (i:=i) aa
  have Og:(i+1)*c≤r*c:=Nat.mul_le_mul_right c aE
  rw[Nat.succ_mul]at Og
  have hlen:=dG (d:=(0:Rat)) (show i*c≤r*c by omega) hz
  have o1:=Bu (a:=(mk r c F).take (i*c)++List.replicate (r*c - i*c) 0) ⟨hr,hc,hlen⟩ aE 25
  (repeat(first|(refine ag rfl rfl ?_;conv=>whnf)|(refine mj (by assumption) rfl ?_;conv=>whnf)|(rw[t2];conv=>whnf)))
  refine aj hE (fun k=>k) [0,1,2,6,9,10,11,30,31,37,38] [6,9,25] (fun m fr hp=>∃k:Nat,m=c - k∧k≤c∧fr=[(0,iv r),(1,iv c),(2,.clo g [] [.atom p,.atom q]),(6,.ptr 6 0 0 0),(9,.ptr 9 0 0 0),(10,iv (i:Nat)),(11,.aO 25 5 (i*c) c),(30,iv r),(31,iv (i:Nat)),(37,iv c),(38,iv (k:Nat))]∧
   hp=[(6,zM),(9,bM r c 25),(25,cP ((mk r c F).take (i*c+k)++List.replicate (r*c - (i*c+k)) 0))]) c ?_ ?_ ?_
  ·kernel_rfl
  ·exact⟨0,rfl,Nat.zero_le _,rfl,rfl⟩
  rintro m _ _ ⟨k,rfl,hk,rfl,rfl⟩
  conv=>whnf
  by_cases hlk:k<c
  ·have t4:=dx hlk
   have t5:=br (i:=k) aa
   have hlen:=dG (d:=(0:Rat)) (show i*c+k≤r*c by omega) hz
   have o2:=hf i k aE hlk
   rw[←ec (f:=F) aE hlk]at o2
   (repeat((first|refine ag rfl rfl ?_|refine bg Q3 ?_|refine aC Q3 ?_|refine aS (by assumption) ?_|rw[t4]|rw[t5]|rw[Int.toNat_natCast]);conv=>whnf))
   refine⟨c - (k+1),fun k=>k,[0,1,2,6,9,10,11,30,31,37,38],[6,9,25],aa,av,k+1,rfl,hlk,rfl, ?_⟩
   rw[show i*c+(k+1)=i*c+k+1 from rfl,cP,←fp (e:=0) (show i*c+k<r*c by omega) hz]
   rfl
  ·have t4:=dA hlk
   obtain rfl:k=c:=aa
   (repeat(first|(refine ae rfl rfl ?_;conv=>whnf)|(rw[t4];conv=>whnf)|(rw[t3];conv=>whnf)))
   refine⟨r - (i+1),fun k=>k,[0,1,2,6,9,30,31],[6,9,25],aa,av,i+1,rfl,aE,rfl, ?_⟩
   rw[Nat.succ_mul]
   rfl
 ·have t2:=dA aE
  obtain rfl:i=r:=aa
  rw[fu hz]
  (repeat(first|(refine ae rfl rfl ?_;conv=>whnf)|(rw[t2];conv=>whnf)))
  exact Q20
theorem Oi {r c:Nat} (hr:r≤2048) (hc:c≤2048) (F:Nat→Nat→Rat) (g:FuncId) (p q s:Pred)
  (hf:∀i k,i<r→k<c→ab Tryz.prog g ([]++([iv (i:Nat),iv (k:Nat)]++[.atom p,.atom q,.atom s])) [] (.frac (F i k)) [] []):
  ab Tryz.prog 92 [iv r,iv c,.clo g [] [.atom p,.atom q,.atom s]] [] (.ck [mA r c (mk r c F),iv 0]) [] []:=by
 have k1:=pH r c
 rw[mY aa]at k1
 have hz:(mk r c F).length=r*c:=dJ ..
 have Jd:r*c≤2048*2048:=Nat.mul_le_mul hr hc
 have t1:IntKind.i64.wrap ((r:Int)*(c:Int))=((r*c:Nat):Int):=by rw[←Int.natCast_mul,wrap_i64 aa aa]
 refine fZ [] Tryz.func92 ?_
 intro w0 ρ0 hE
 conv=>whnf
 (repeat((first|refine ae rfl rfl ?_|refine aC Q3 ?_|refine aS (by assumption) ?_|rw[bne_self_eq_false]|refine⟨_,pI rfl (ak rfl) (ak rfl) Tryz.underlying137, ?_⟩|rw[t1]|rw[Int.toNat_natCast]);conv=>whnf))
 refine aj hE (fun k=>k) [0,1,2,6,9,30,31] [6,9,25] (fun m fr hp=>∃i:Nat,m=r - i∧i≤r∧fr=[(0,iv r),(1,iv c),(2,.clo g [] [.atom p,.atom q,.atom s]),(6,.ptr 6 0 0 0),(9,.ptr 9 0 0 0),(30,iv r),(31,iv (i:Nat))]∧
  hp=[(6,zM),(9,bM r c 25),(25,cP ((mk r c F).take (i*c)++List.replicate (r*c - i*c) 0))]) r ?_ ?_ ?_
 ·kernel_rfl
 ·exact⟨0,rfl,Nat.zero_le _,rfl,by rw[Nat.zero_mul,List.take_zero];rfl⟩
 rintro m _ _ ⟨i,rfl,hi,rfl,rfl⟩
 conv=>whnf
 by_cases aE:i<r
 ·have t2:=dx aE
  have t3:=br (i:=i) aa
  have Og:(i+1)*c≤r*c:=Nat.mul_le_mul_right c aE
  rw[Nat.succ_mul]at Og
  have hlen:=dG (d:=(0:Rat)) (show i*c≤r*c by omega) hz
  have o1:=Bu (a:=(mk r c F).take (i*c)++List.replicate (r*c - i*c) 0) ⟨hr,hc,hlen⟩ aE 25
  (repeat(first|(refine ag rfl rfl ?_;conv=>whnf)|(refine mj (by assumption) rfl ?_;conv=>whnf)|(rw[t2];conv=>whnf)))
  refine aj hE (fun k=>k) [0,1,2,6,9,10,11,30,31,37,38] [6,9,25] (fun m fr hp=>∃k:Nat,m=c - k∧k≤c∧fr=[(0,iv r),(1,iv c),(2,.clo g [] [.atom p,.atom q,.atom s]),(6,.ptr 6 0 0 0),(9,.ptr 9 0 0 0),(10,iv (i:Nat)),(11,.aO 25 5 (i*c) c),(30,iv r),(31,iv (i:Nat)),(37,iv c),(38,iv (k:Nat))]∧
   hp=[(6,zM),(9,bM r c 25),(25,cP ((mk r c F).take (i*c+k)++List.replicate (r*c - (i*c+k)) 0))]) c ?_ ?_ ?_
  ·kernel_rfl
  ·exact⟨0,rfl,Nat.zero_le _,rfl,rfl⟩
  rintro m _ _ ⟨k,rfl,hk,rfl,rfl⟩
  conv=>whnf
  by_cases hlk:k<c
  ·have t4:=dx hlk
   have t5:=br (i:=k) aa
   have hlen:=dG (d:=(0:Rat)) (show i*c+k≤r*c by omega) hz
   have o2:=hf i k aE hlk
   rw[←ec (f:=F) aE hlk]at o2
   (repeat((first|refine ag rfl rfl ?_|refine bg Q3 ?_|refine aC Q3 ?_|refine aS (by assumption) ?_|rw[t4]|rw[t5]|rw[Int.toNat_natCast]);conv=>whnf))
   refine⟨c - (k+1),fun k=>k,[0,1,2,6,9,10,11,30,31,37,38],[6,9,25],aa,av,k+1,rfl,hlk,rfl, ?_⟩
   rw[show i*c+(k+1)=i*c+k+1 from rfl,cP,←fp (e:=0) (show i*c+k<r*c by omega) hz]
   rfl
  ·have t4:=dA hlk
   obtain rfl:k=c:=aa
   (repeat(first|(refine ae rfl rfl ?_;conv=>whnf)|(rw[t4];conv=>whnf)|(rw[t3];conv=>whnf)))
   refine⟨r - (i+1),fun k=>k,[0,1,2,6,9,30,31],[6,9,25],aa,av,i+1,rfl,aE,rfl, ?_⟩
   rw[Nat.succ_mul]
   rfl
 ·have t2:=dA aE
  obtain rfl:i=r:=aa
  rw[fu hz]
  (repeat(first|(refine ae rfl rfl ?_;conv=>whnf)|(rw[t2];conv=>whnf)))
  exact Q20
theorem Kx (i k:Nat):delta i k=if i=k then((1:Int):Rat)else 0:=by unfold delta;split<;>simp
theorem YE (i k:Nat) (hi:i≤2048) (hk:k≤2048):ab Tryz.prog 192 ([]++([iv (i:Nat),iv (k:Nat)]++[])) [] (.frac (delta i k)) [] []:=by
 have k1:=dI 1 aI aI
 rw[Kx]
 refine bT [] Tryz.func192 ?_
 intro W0 w0 ρ0 hE
 conv=>whnf
 by_cases h:i=k
 ·have t1:((i:Int) != (k:Int))=false:=by rw[h];exact bne_self_eq_false _
  rw[if_pos h]
  (repeat(first|(refine ae rfl rfl ?_;conv=>whnf)|(refine aS (by assumption) ?_;conv=>whnf)|(rw[t1];conv=>whnf)));exact Q4
 ·have t1:((i:Int) != (k:Int))=true:=bne_iff_ne.2 aa
  rw[if_neg h]
  (repeat(first|(refine ag rfl rfl ?_;conv=>whnf)|(rw[t1];conv=>whnf)));exact Q4
theorem Ky (n:Nat) (hn:n≤2048):ab Tryz.prog 57 [iv n] [] (.ck [mA n n (gk n),iv 0]) [] []:=by
 have k1:=Of hn hn delta 192 (fun i k hi hk=>YE i k aa aa)
 refine bT [] Tryz.func57 ?_
 intro W0 w0 ρ0 hE
 conv=>whnf
 (repeat(first|(refine aS (by assumption) ?_;conv=>whnf)));exact Q4
theorem Oj {r c:Nat} {a:List Rat} (ha:dV r c a) (i k:Nat) (hi:i<c) (hk:k<r):ab Tryz.prog 101 ([]++([iv (i:Nat),iv (k:Nat)]++[bE (mC r c a)])) [] (.frac (el a c k i)) [] []:=by
 have k1:=Oe ha hk hi
 refine bT [] Tryz.func101 ?_
 intro W0 w0 ρ0 hE
 conv=>whnf
 (repeat(first|(refine aS (by assumption) ?_;conv=>whnf)|(refine ah Q5 ?_;conv=>whnf)));exact Q4
theorem xO {r c:Nat} {a:List Rat} (ha:dV r c a):ab Tryz.prog 16 [mA r c a] [] (.ck [mA c r (iG r c a),iv 0]) [] []:=by
 have k0:=er ha
 have k1:=Oh ha.c ha.r _ 101 (gX (mC r c a)) (fun i k hi hk=>Oj ha i k hi hk)
 refine bT [1] Tryz.func16 ?_
 intro W0 w0 ρ0 hE
 conv=>whnf
 (repeat((first|refine ae rfl rfl ?_|refine aS (by assumption) ?_|rw[bne_self_eq_false]|refine ah Q5 ?_|refine ah Q7 ?_|refine ah yN ?_);conv=>whnf));exact Q4
theorem YF {r s t A B S:Nat} {a b:List Rat} (ha:dV r s a) (hb:dV s t b) (sa:Sm A a) (sb:Sm B b) (hS:s≤S) (h:A+B+(2+S*(A+B))≤1073741824) (i k:Nat) (hi:i<r) (hk:k<t):
  ab Tryz.prog 196 ([]++([iv (i:Nat),iv (k:Nat)]++[bE (mC r s a),bE (mC s t b)])) [] (.frac (aD s fun p=>el a s i p*el b t p k)) [] []:=by
 have hs:=ha.c
 refine bT [] Tryz.func196 ?_
 intro W0 w0 ρ0 hE
 conv=>whnf
 (repeat(first|(refine ah Q5 ?_;conv=>whnf)|(refine ah Q7 ?_;conv=>whnf)))
 refine aj hE (fun k=>k) [0,1,2,3,6,7,11,12] [6,7] (fun m fr hp=>∃(p:Nat) (q:Rat),m=s - p∧p≤s∧q=aD p (fun p=>el a s i p*el b t p k)∧fs q≤2+p*(A+B)∧fr=[(0,iv (i:Nat)),(1,iv (k:Nat)),(2,bE (mC r s a)),(3,bE (mC s t b)),(6,.ptr 6 0 0 0),(7,.ptr 7 0 0 0),(11,iv s),(12,iv (p:Nat))]∧hp=[(6,⟨52,true,.one [.frac 0]⟩),(7,⟨52,true,.one [.frac q]⟩)]) s ?_ ?_ ?_
 ·kernel_rfl
 ·exact⟨0,0,rfl,Nat.zero_le _,rfl,by rw[fO];omega,rfl,rfl⟩
 rintro m _ _ ⟨p,q,rfl,hp,hq,Jw,rfl,rfl⟩
 conv=>whnf
 by_cases aE:p<s
 ·have t1:=dx aE
  have t2:=br (i:=p) aa
  have o1:=Oe ha hi aE
  have o2:=Oe hb aE hk
  have b1:=eS sa ha.n hi aE
  have b2:=eS sb hb.n aE hk
  have b3:=eE (el a s i p) (el b t p k)
  have b4:=Nat.mul_le_mul_right (A+B) (show p≤S by omega)
  have o3:=vj (el a s i p) (el b t p k) aa
  have o4:=Gn q (el a s i p*el b t p k) aa
  have b5:=xG q (el a s i p*el b t p k)
  have e1:aD (p+1) (fun p=>el a s i p*el b t p k)=q+el a s i p*el b t p k:=by rw[hq];rfl
  have e2:fs (q+el a s i p*el b t p k)≤2+(p+1)*(A+B):=by rw[Nat.succ_mul];omega
  clear hq Jw b1 b2 b3 b4 b5
  generalize q+el a s i p*el b t p k=q1 at*
  (repeat((first|refine ag rfl rfl ?_|refine aq av ?_|refine aS (by assumption) ?_|refine ah Q5 ?_|rw[t1]|rw[t2]);conv=>whnf))
  exact⟨s - (p+1),fun k=>k,[0,1,2,3,6,7,11,12],[6,7],aa,av,p+1,q1,rfl,aE,e1.symm,e2,rfl,rfl⟩
 ·have t1:=dA aE
  have hP:p=s:=aa
  subst hP
  rw[←hq]
  (repeat(first|(refine ae rfl rfl ?_;conv=>whnf)|(rw[t1];conv=>whnf)));exact Q4
theorem z6 {r s t A B:Nat} (S:Nat) {a b:List Rat} (ha:dV r s a) (hb:dV s t b) (sa:Sm A a) (sb:Sm B b) (hS:s≤S) (h:A+B+(2+S*(A+B))≤1073741824):
  ab Tryz.prog 67 [mA r s a,mA s t b] [] (.ck [mA r t (fA r s t a b),iv 0]) [] []:=by
 have k0:=Kv ha hb
 have k1:=Gy ha.r hb.c _ 196 (gX (mC r s a)) (gX (mC s t b)) (YF ha hb sa sb hS h)
 refine bT [2,3,9] Tryz.func67 ?_
 intro W0 w0 ρ0 hE
 conv=>whnf
 (repeat((first|refine ae rfl rfl ?_|refine aS (by assumption) ?_|rw[bne_self_eq_false]|refine ah Q5 ?_|refine ah Q7 ?_|refine ah yN ?_);conv=>whnf));exact Q4
theorem Gz {r c i:Nat} {a v:List Rat} (ha:a.length=r*c) (hv:v.length=c) (hi:i<r):E2 (db a c i) v=(cD r c a v).getD i 0:=by
 rw[Dd (c8 hi ha) hv,eG hi]
 exact ai c fun k hk=>by rw[iw hk]
theorem uC {a:List Rat} {r c i A:Nat} (sa:Sm A a) (ha:a.length=r*c) (hi:i<r):Sm A (db a c i):=by
 intro k hk
 rw[c8 hi ha]at hk
 rw[iw hk];exact eS sa ha hi hk
theorem nL {r c A B:Nat} (C:Nat) {a v:List Rat} (ha:dV r c a) (hv:v.length=c) (sa:Sm A a) (sv:Sm B v) (hC:c≤C) (h:A+B+(2+C*(A+B))≤1073741824):
  ab Tryz.prog 76 [mA r c a,aN v] [] (.ck [aN (cD r c a v),iv 0]) [] []:=by
 have hr:=ha.r
 have hc:=ha.c
 have k0:=YD ha
 have k1:=Od [v] (by simp) (by simp;omega)
 rw[show qJ [v]=0 from by simp[qJ];omega]at k1
 have t0:((v.length:Int) != (c:Int))=false:=by rw[hv];exact bne_self_eq_false _
 have hz:(cD r c a v).length=r:=dK
 refine fZ [2,11,17] Tryz.func76 ?_
 intro w0 ρ0 hE
 conv=>whnf
 (repeat((first|refine ae rfl rfl ?_|refine aC Q3 ?_|refine aS (by assumption) ?_|rw[bne_self_eq_false]|refine ah Q8 ?_|refine ah Q5 ?_|refine ah Q7 ?_|rw[t0]|rw[Int.toNat_natCast]);conv=>whnf))
 refine aj hE (fun k=>k) [1,2,8,31,32] [29] (fun m fr hp=>∃i:Nat,m=r - i∧i≤r∧fr=[(1,aN v),(2,bE (mC r c a)),(8,.aO 29 5 0 r),(31,iv r),(32,iv (i:Nat))]∧hp=[(29,cP ((cD r c a v).take i++List.replicate (r - i) 0))]) r ?_ ?_ ?_
 ·kernel_rfl
 ·exact⟨0,rfl,Nat.zero_le _,rfl,rfl⟩
 rintro m _ _ ⟨i,rfl,hi,rfl,rfl⟩
 have hlen:=dG (d:=(0:Rat)) hi hz
 conv=>whnf
 by_cases aE:i<r
 ·have t1:=dx aE
  have t2:=br (i:=i) aa
  have o1:=Kw ha aE
  have l1:=c8 aE ha.n
  have s1:=uC sa ha.n aE
  have hs:vk (Bm (db a c i) v)≤_:=Bp (E3 eE s1 sv (l1.trans hv.symm))
  rw[nH l1 hv]at hs
  have hC2:=Nat.mul_le_mul_right (A+B) hC
  have o2:=QE (db a c i) v (l1.trans hv.symm) aa (Kp s1 sv (l1.trans hv.symm) aa) aa
  rw[Gz ha.n hv aE]at o2
  clear hs hC2 s1
  (repeat((first|refine ag rfl rfl ?_|refine bg Q3 ?_|refine aC Q3 ?_|refine aS (by assumption) ?_|refine ah Q5 ?_|rw[t1]|rw[t2]|rw[Int.toNat_natCast]|rw[Nat.zero_add]);conv=>whnf))
  refine⟨r - (i+1),fun k=>k,[1,2,8,31,32],[29],aa,av,i+1,rfl,aE,rfl, ?_⟩
  rw[cP,←fp (e:=0) aE hz]
  rfl
 ·have t1:=dA aE
  have hI:i=r:=aa
  subst hI
  rw[fu hz]
  (repeat(first|(refine ae rfl rfl ?_;conv=>whnf)|(rw[t1];conv=>whnf)))
  exact Q22
theorem YG {a b:List Rat} {A B n N:Nat} (ha:Sm A a) (hb:Sm B b) (h1:a.length=n) (h2:b.length=n) (hn:n≤N):fs (E2 a b)≤2+N*(A+B):=by
 have:=N2 ha hb h1 h2
 have:=Nat.mul_le_mul_right (A+B) hn
 omega
theorem Kz {r c A B C:Nat} {a v:List Rat} (ha:a.length=r*c) (hv:v.length=c) (sa:Sm A a) (sv:Sm B v) (hC:c≤C):Sm (2+C*(A+B)) (cD r c a v):=by
 intro i hi
 rw[dK]at hi
 rw[←Gz ha hv hi]
 exact YG (uC sa ha hi) sv (c8 hi ha) hv hC
theorem E7 {r s t A B S:Nat} {a b:List Rat} (ha:a.length=r*s) (hb:b.length=s*t) (sa:Sm A a) (sb:Sm B b) (hS:s≤S):Sm (2+S*(A+B)) (fA r s t a b):=
 zX fun i k hi hk=>by
  have h1:=Bq (f:=fun p=>el a s i p*el b t p k) (B:=A+B) s (fun p hp=>by have:=eE (el a s i p) (el b t p k);have:=eS sa ha hi hp;have:=eS sb hb hp hk;omega)
  have:=Nat.mul_le_mul_right (A+B) hS
  omega
theorem Ok (a b:List Rat) (ha:a.length<1099511627776) (hb:b.length<1099511627776):ab Tryz.prog 108 [aN a,aN b] [] (.val (.bool (decide (a=b)))) [] []:=by
 refine bT [] Tryz.func108 ?_
 intro W0 w0 ρ0 hE
 conv=>whnf
 by_cases rY:a.length=b.length
 ·have t0:((a.length:Int) != (b.length:Int))=false:=by rw[rY];exact bne_self_eq_false _
  (repeat(first|(refine ae rfl rfl ?_;conv=>whnf)|(refine ah Q8 ?_;conv=>whnf)|(rw[t0];conv=>whnf)))
  refine aj hE (fun k=>k) [0,1,4,11,12,13] [] (fun m fr hp=>∃i,m=a.length - i∧i≤a.length∧a.take i=b.take i∧fr=[(0,aN a),(1,aN b),(4,.val (.bool false)),(11,aN a),(12,.val (.int .i64 (a.length:Nat))),(13,.val (.int .i64 (i:Nat)))]∧hp=[]) a.length ?_ ?_ ?_
  ·kernel_rfl
  ·exact⟨0,rfl,Nat.zero_le _,rfl,rfl,rfl⟩
  rintro m _ _ ⟨i,rfl,hi,ht,rfl,rfl⟩
  conv=>whnf
  by_cases aE:i<a.length
  ·have t1:=dx aE
   have t2:=br (i:=i) aa
   by_cases hv:a.getD i 0=b.getD i 0
   ·have t3:(!decide (a.getD i 0=b.getD i 0))=false:=by rw[decide_eq_true hv];rfl
    (repeat((first|refine ag rfl rfl ?_|refine ae rfl rfl ?_|refine aq av ?_|refine ah og ?_|refine ah Q5 ?_|refine⟨_,cn aJ cy rfl (ak rfl) (ak rfl) rfl rfl rfl rfl (oP _ _) cf, ?_⟩|rw[t1]|rw[t3]|rw[t2]);conv=>whnf))
    exact⟨a.length - (i+1),fun k=>k,[0,1,4,11,12,13],[],aa,av,i+1,rfl,aE,by rw[gO a i aE,gO b i aa,ht,hv],rfl,rfl⟩
   ·have t3:(!decide (a.getD i 0=b.getD i 0))=true:=by rw[decide_eq_false hv];rfl
    have e:decide (a=b)=false:=decide_eq_false (fun h=>hv (by rw[h]))
    rw[e]
    (repeat((first|refine ag rfl rfl ?_|refine aq av ?_|refine ah og ?_|refine ah Q5 ?_|refine⟨_,cn aJ cy rfl (ak rfl) (ak rfl) rfl rfl rfl rfl (oP _ _) cf, ?_⟩|rw[t1]|rw[t3]);conv=>whnf));exact Q4
  ·have t1:=dA aE
   have hI:i=a.length:=aa
   have e:decide (a=b)=true:=decide_eq_true (by rw[hI,List.take_length]at ht;rw[ht,rY,List.take_length])
   rw[e]
   (repeat(first|(refine ae rfl rfl ?_;conv=>whnf)|(rw[t1];conv=>whnf)));exact Q4
 ·have t0:((a.length:Int) != (b.length:Int))=true:=bne_iff_ne.2 aa
  have e:decide (a=b)=false:=decide_eq_false (fun h=>rY (by rw[h]))
  rw[e]
  (repeat(first|(refine ag rfl rfl ?_;conv=>whnf)|(refine ah Q8 ?_;conv=>whnf)|(rw[t0];conv=>whnf)));exact Q4
def GA (r c s t:Int) (a b:List Rat):Bool:=r==s&&c==t&&decide (a=b)
theorem YH (r c s t:Int) (a b:List Rat) (ha:a.length<1099511627776) (hb:b.length<1099511627776):ab Tryz.prog 20 [mA r c a,mA s t b] [] (.val (.bool (GA r c s t a b))) [] []:=by
 have k1:=Ok a b ha hb
 unfold GA
 refine bT [] Tryz.func20 ?_
 intro W0 w0 ρ0 hE
 conv=>whnf
 cases h1:(r==s)
 ·(repeat(first|(refine ae rfl rfl ?_;conv=>whnf)|(refine ah dP ?_;conv=>whnf)));exact Q4
 ·cases h2:(c==t)
  ·(repeat((first|refine ag rfl rfl ?_|refine ae rfl rfl ?_|refine ah dO ?_|refine ah dP ?_|rw[h2]);conv=>whnf));exact Q4
  ·(repeat((first|refine ag rfl rfl ?_|refine aS (by assumption) ?_|refine ah dO ?_|rw[h2]);conv=>whnf));exact Q4
theorem Ol {r c:Nat} {a b:List Rat} (ha:dV r c a) (hb:dV r c b):ab Tryz.prog 20 [mA r c a,mA r c b] [] (.val (.bool (decide (a=b)))) [] []:=by
 have:=YH r c r c a b (by have:=ha.small;omega) (by have:=hb.small;omega)
 rwa [show GA r c r c a b=decide (a=b)from by simp[GA]]at this
theorem vZ {r c:Nat} {a b:List Rat} (ha:dV r c a) (h:a=b):ab Tryz.prog 20 [mA r c a,mA r c b] [] (.val (.bool true)) [] []:=by
 subst h
 have:=Ol ha ha
 rwa [decide_eq_true rfl]at this
theorem YI (r c:Nat) (l:List Int) (hr:r≤2048) (hc:c≤2048) (hl:l.length=r*c) (h:∀x∈l, -9223372036854775808≤x∧x<9223372036854775808):ab Tryz.prog 58 [iv r,iv c,cO .i64 l] [] (.ck [mA r c (jA l),iv 0]) [] []:=by
 have hb:=Nat.mul_le_mul hr hc
 have k1:=abZ l aa (fun i hi=>h _ (eK hi))
 have k0:=er (a:=jA l) ⟨hr,hc,by simpa [jA]using hl⟩
 refine bT [] Tryz.func58 ?_
 intro W0 w0 ρ0 hE
 conv=>whnf
 (repeat(first|(refine ae rfl rfl ?_;conv=>whnf)|(refine aS (by assumption) ?_;conv=>whnf)));exact Q4
theorem Di (l:List Int) (g:FuncId) (p:Pred) (P:Int→Bool) (hl:l.length<1099511627776) (hf:∀x∈l,ab Tryz.prog g ([]++([iv x]++[.atom p])) [] (.val (.bool (P x))) [] []):
  ab Tryz.prog 303 [cO .i64 l,.clo g [] [.atom p]] [] (iv (if l.any P then(l.findIdx P:Nat)else -1)) [] []:=by
 refine bT [] Tryz.func303 ?_
 intro W0 w0 ρ0 hE
 conv=>whnf
 (repeat(first|(refine ah Q8 ?_;conv=>whnf)))
 refine aj hE (fun k=>k) [0,1,7,8] [] (fun m fr hp=>∃i:Nat,m=l.length - i∧i≤l.length∧(∀j,j<i→P (l.getD j 0)=false)∧fr=[(0,cO .i64 l),(1,.clo g [] [.atom p]),(7,iv (l.length:Nat)),(8,iv (i:Nat))]∧hp=[]) l.length ?_ ?_ ?_
 ·kernel_rfl
 ·exact⟨0,rfl,Nat.zero_le _,(fun j hj=>aa),rfl,rfl⟩
 rintro m _ _ ⟨i,rfl,hi,hs,rfl,rfl⟩
 conv=>whnf
 by_cases aE:i<l.length
 ·have t1:=dx aE
  have t2:=br (i:=i) aa
  have o1:=hf _ (eK (d:=0) aE)
  cases hP:P (l.getD i 0)
  ·rw[hP]at o1
   (repeat((first|refine ag rfl rfl ?_|refine ae rfl rfl ?_|refine aS (by assumption) ?_|refine ah Q5 ?_|refine ah jw ?_|rw[t1]|rw[t2]);conv=>whnf))
   refine⟨l.length - (i+1),fun k=>k,[0,1,7,8],[],aa,av,i+1,rfl,aE, ?_,rfl,rfl⟩
   intro j hj
   by_cases hji:j=i
   ·rw[hji];exact hP
   ·exact hs j aa
  ·rw[hP]at o1
   have e1:l.any P=true:=ED (d:=0) aE hP
   have e2:l.findIdx P=i:=by
    rw[List.findIdx_eq aE]
    refine⟨by rw[List.getD_eq_getElem?_getD,List.getElem?_eq_getElem aE]at hP;exact hP,fun j hj=> ?_⟩
    have:=hs j hj
    rw[List.getD_eq_getElem?_getD,List.getElem?_eq_getElem aa]at this
    exact this
   rw[if_pos e1,e2]
   (repeat((first|refine ag rfl rfl ?_|refine aS (by assumption) ?_|refine ah Q5 ?_|refine ah jw ?_|rw[t1]);conv=>whnf));exact Q4
 ·have t1:=dA aE
  have hI:i=l.length:=aa
  subst hI
  have e1:l.any P=false:=xo 0 hs
  rw[if_neg (by rw[e1];exact Bool.false_ne_true)]
  (repeat(first|(refine ae rfl rfl ?_;conv=>whnf)|(rw[t1];conv=>whnf)));exact Q4
theorem oS (l:List Int) (g:FuncId) (p:Pred) (P:Int→Bool) (hl:l.length<1099511627776) (hf:∀x∈l,ab Tryz.prog g ([]++([iv x]++[.atom p])) [] (.val (.bool (P x))) [] []):
  ab Tryz.prog 214 [cO .i64 l,.clo g [] [.atom p]] [] (.val (.bool (l.any P))) [] []:=by
 have k1:=Di l g p P hl hf
 refine bT [] Tryz.func214 ?_
 intro W0 w0 ρ0 hE
 conv=>whnf
 cases h:l.any P
 ·rw[if_neg (by rw[h];exact Bool.false_ne_true)]at k1
  (repeat(first|(refine aS (by assumption) ?_;conv=>whnf)));exact Q4
 ·rw[if_pos h]at k1
  have t1:decide (((l.findIdx P:Nat):Int)≥0)=true:=decide_eq_true aa
  (repeat(first|(refine aS (by assumption) ?_;conv=>whnf)|(rw[t1];conv=>whnf)));exact Q4
abbrev HM (n:Nat) (i:Int):Bool:= !decide (0≤i∧i<(n:Int))
abbrev oa (c:Nat) (a:List Rat) (rows cols:List Int):List Rat:=mk rows.length cols.length fun i k=>el a c (rows.getD i 0).toNat (cols.getD k 0).toNat
theorem KA {r c:Nat} {a:List Rat} (ha:dV r c a) (rows cols:List Int) (hr:rows.length≤2048) (hc:cols.length≤2048) (h1:∀x∈rows,0≤x∧x<r) (h2:∀x∈cols,0≤x∧x<c):
  ab Tryz.prog 95 [mA r c a,cO .i64 rows,cO .i64 cols] [] (.ck [mA rows.length cols.length (oa c a rows cols),iv 0]) [] []:=by
 have k0:=er ha
 have k1:=pH rows.length cols.length
 rw[mY aa]at k1
 have ka:=oS rows 215 (gX (mC r c a)) (HM r) aa (fun x _=>by
  have k1:=QH x r
  refine bT [] Tryz.func215 ?_
  intro W0 w0 ρ0 hE
  conv=>whnf
  (repeat(first|(refine aS (by assumption) ?_;conv=>whnf)|(refine ah Q5 ?_;conv=>whnf)|(refine ah Q7 ?_;conv=>whnf)));exact Q4)
 have kb:=oS cols 216 (gX (mC r c a)) (HM c) aa (fun x _=>by
  have k1:=QH x c
  refine bT [] Tryz.func216 ?_
  intro W0 w0 ρ0 hE
  conv=>whnf
  (repeat(first|(refine aS (by assumption) ?_;conv=>whnf)|(refine ah Q5 ?_;conv=>whnf)|(refine ah Q7 ?_;conv=>whnf)));exact Q4)
 have e1:rows.any (HM r)=false:=xo 0 fun i hi=>by rw[HM,decide_eq_true (h1 _ (eK hi))];rfl
 have e2:cols.any (HM c)=false:=xo 0 fun i hi=>by rw[HM,decide_eq_true (h2 _ (eK hi))];rfl
 rw[e1]at ka
 rw[e2]at kb
 have k2:=Oi hr hc (fun i k=>el a c (rows.getD i 0).toNat (cols.getD k 0).toNat) 217 (gX (mC r c a)) (gX [cO .i64 rows]) (gX [cO .i64 cols]) (fun i k hi hk=>by
  have g1:=h1 _ (eK (d:=0) hi)
  have g2:=h2 _ (eK (d:=0) hk)
  have o1:=Oe ha (i:=(rows.getD i 0).toNat) (k:=(cols.getD k 0).toNat) aa aa
  rw[Int.toNat_of_nonneg g1.1,Int.toNat_of_nonneg g2.1]at o1
  refine bT [] Tryz.func217 ?_
  intro W0 w0 ρ0 hE
  conv=>whnf
  (repeat((first|refine aq av ?_|refine aS (by assumption) ?_|refine ah Q5 ?_|refine ah jw ?_);conv=>whnf));exact Q4)
 refine bT [3,4,5] Tryz.func95 ?_
 intro W0 w0 ρ0 hE
 conv=>whnf
 (repeat((first|refine ag rfl rfl ?_|refine ae rfl rfl ?_|refine aS (by assumption) ?_|refine ah dP ?_|rw[bne_self_eq_false]|refine ah Q8 ?_|refine ah Q5 ?_|refine ah yN ?_);conv=>whnf));exact Q4
def aT (r c:Nat) (a:List Rat):List (List Rat):=(List.range r).map (db a c)
def tM (r c:Nat) (a:List Rat):ByteArray:=⟨(Lib.join (((aT r c a).map tV).map (·.data.toList)) [32]).toArray⟩
theorem iR {r c i:Nat} {a:List Rat} (hi:i<r):(aT r c a).getD i []=db a c i:=by simp[aT,List.getD_eq_getElem?_getD,hi]
theorem et (r c:Nat) (a:List Rat):(aT r c a).length=r:=by simp[aT]
theorem Bv {a:List Rat} {B:Nat} (h:∀i,i<a.length→fs (a.getD i 0)≤B):(tV a).data.toList.length≤2+a.length*(2*B+5):=by
 have h1:=mX ((a.map tQ).map (·.data.toList)) (2*B+4) (by
  intro x hx
  obtain⟨s,hs,rfl⟩:=List.mem_map.1 hx
  obtain⟨q,hq,rfl⟩:=List.mem_map.1 hs
  obtain⟨i,hi,rfl⟩:=rU hq 0
  have h1:=Bt (a.getD i 0)
  have h2:=h i hi
  have:(tQ (a.getD i 0)).data.toList.length=(tQ (a.getD i 0)).size:=Array.length_toList
  show(tQ (a.getD i 0)).data.toList.length≤_
  omega)
 rw[List.length_map,List.length_map]at h1
 have e1: "[".toByteArray.data.toList.length=1:=by decide+kernel
 have e2: "]".toByteArray.data.toList.length=1:=by decide+kernel
 unfold tV
 rw[ByteArray.data_append,ByteArray.data_append,Array.toList_append,Array.toList_append,List.length_append,List.length_append]
 show "[".toByteArray.data.toList.length+(Lib.join ((a.map tQ).map (·.data.toList)) [32]).length+ "]".toByteArray.data.toList.length≤_
 rw[e1,e2]
 rw[show 2*B+4+1=2*B+5 from rfl]at h1
 omega
theorem GB {r c B:Nat} {a:List Rat} (ha:a.length=r*c) (sa:Sm B a) {l:List Rat} (h:l∈aT r c a):l.length=c∧Sm B l:=by
 obtain⟨i,hi,rfl⟩:=List.mem_map.1 h
 have jx:=List.mem_range.1 hi
 exact⟨c8 jx ha,uC sa ha jx⟩
theorem Om {r c B:Nat} {a:List Rat} (ha:dV r c a) (sa:Sm B a) (hB:B≤1000000):(Lib.join (((aT r c a).map tV).map (·.data.toList)) [32]).length≤140737488355328:=by
 refine Nat.le_trans (mX _ (2+2048*(2*B+5)) ?_) ?_
 ·intro x hx
  obtain⟨s,hs,rfl⟩:=List.mem_map.1 hx
  obtain⟨l,hl,rfl⟩:=List.mem_map.1 hs
  obtain⟨h1,h2⟩:=GB ha.n sa hl
  refine Nat.le_trans (Bv h2) ?_
  have:=Nat.mul_le_mul_right (2*B+5) (show l.length≤2048 by rw[h1];exact ha.c)
  omega
 ·rw[List.length_map,List.length_map,et]
  have:=Nat.mul_le_mul_right (2+2048*(2*B+5)+1) ha.r
  omega
theorem HN {l:List ByteArray} {i:Nat} {d:ByteArray} (h:i<l.length):(⟨9,true,.seq 1 ((l.take (i+1)).map q7)⟩:aF)=⟨9,true,.seq 1 (List.take i ((l.take i).map q7)++List.take 1 (List.drop 0 [q7 (l.getD i d)]))⟩:=by
 have hl:((l.take i).map q7).length=i:=by rw[List.length_map,List.length_take];omega
 have e:l.take (i+1)=l.take i++[l.getD i d]:=by rw[List.take_add_one,List.getD_eq_getElem?_getD,List.getElem?_eq_getElem h];rfl
 rw[e,List.map_append,List.take_of_length_le (l:=(l.take i).map q7) aa];rfl
abbrev KC (l:List ByteArray):aF:=⟨9,true,.seq 1 (l.map q7)⟩
theorem E8 {r c B:Nat} {a:List Rat} (ha:dV r c a) (sa:Sm B a) (hB:B≤1000000):ab Tryz.prog 110 [mA r c a] [] (.val (.string (tM r c a))) [] []:=by
 have k0:=er ha
 have hr:=ha.r
 have la:=et r c a
 have hz:((aT r c a).map tV).length=r:=by rw[List.length_map,et]
 have kj:=Kn ((aT r c a).map tV) aa (Om ha sa hB)
 refine fZ [1] Tryz.func110 ?_
 intro w0 ρ0 hE
 conv=>whnf
 (repeat((first|refine ae rfl rfl ?_|refine aS (by assumption) ?_|rw[bne_self_eq_false]|refine ah Q5 ?_|refine ah Q7 ?_);conv=>whnf))
 refine ct (t:=3) (k:=2001) (s:=1) (blk:=KC []) rfl rfl rfl ?_
 refine dE hE (fun k=>k) [1,3,9,10] [2001] (fun m fr hp=>∃i:Nat,m=r - i∧i≤r∧fr=[(1,bE (mC r c a)),(3,.aO 2001 1 0 i),(9,iv r),(10,iv (i:Nat))]∧hp=[(2001,KC (((aT r c a).map tV).take i))]) r ?_ ?_ ?_
 ·kernel_rfl
 ·exact⟨0,rfl,Nat.zero_le _,rfl,rfl⟩
 rintro m _ _ ⟨i,rfl,hi,rfl,rfl⟩
 have KD:((((aT r c a).map tV).take i).map q7).length=i:=by rw[List.length_map,List.length_take];omega
 by_cases aE:i<r
 ·have t1:=dx aE
  have t2:=br (i:=i) aa
  have o1:=Kw ha aE
  have l1:=c8 aE ha.n
  have o2:=E6 (db a c i) B (by have:=ha.c;omega) (uC sa ha.n aE) aa
  have mJ:((aT r c a).map tV).getD i ByteArray.empty=tV (db a c i):=by rw[pF (d:=[]) (by rw[et];exact aE),iR aE]
  have e1:=HN (l:=(aT r c a).map tV) (d:=ByteArray.empty) (i:=i) aa
  rw[mJ]at e1
  refine ey.of hE ?_
  conv=>whnf
  (repeat((first|refine ag rfl rfl ?_|refine aC Q3 ?_|refine aS (by assumption) ?_|refine ah Q5 ?_|rw[t1]|rw[t2]);conv=>whnf))
  refine⟨r - (i+1),cE [(19,2001)],[1,3,9,10],[19],aa,av,i+1,rfl,aE,rfl, ?_⟩
  rw[KC,e1];rfl
 ·have t1:=dA aE
  obtain rfl:i=r:=aa
  rw[List.take_of_length_le aa]
  refine eA 3 2001 (fun _ h=>h) (fun _=>rfl) rfl rfl hz.symm ?_
  refine ey.of hE ?_
  conv=>whnf
  (repeat(first|(refine ae rfl rfl ?_;conv=>whnf)|(refine aS (by assumption) ?_;conv=>whnf)|(rw[t1];conv=>whnf)));exact Q4
end Go.Proofs.YtfpagioknjjacaaGreatDoor
namespace Go.Sx
set_option linter.unusedSimpArgs false
set_option linter.unusedVariables false
theorem z7 {E:Env} {k:Nat} {blk:aF} {fr:List (Nat×SV)} {hp:List (Nat×aF)} (hk:find hp k=none) (he:blk.data.empty) {a:Act} {w:World} (hR:RR E (fn fr hp) a w):
  RR E (fn fr ((k,blk)::hp)) a w:=by
 obtain⟨ρ,hext,hfx,hR⟩:=hR
 have Pw:ρ.key k=none:=by
  cases hx:ρ.key k with
  |none=>rfl
  |some x=>
   obtain⟨b,hb⟩:=hR.hp.ug k x hx
   simp only[fn,LV.blk,hk]at hb
   cases hb
 have gB:∀j b,(fn fr ((k,blk)::hp) (.k j)).blk=some b→(j=k∧b=blk)∨(j≠k∧(fn fr hp (.k j)).blk=some b):=by
  intro j b hb
  simp only[fn,LV.blk,find]at hb ⊢
  cases hj:Nat.beq k j with
  |true=>rw[hj]at hb;simp only[Option.some.injEq]at hb;exact .inl ⟨(Nat.eq_of_beq_eq_true hj).symm,hb.symm⟩
  |false=>rw[hj]at hb;exact .inr ⟨by rintro rfl;simp[Nat.beq_refl]at hj,hb⟩
 have bW:∀j x,ρ.key j=some x→j≠k:=fun j x hx h=>by rw[h,Pw]at hx;cases hx
 refine⟨ρ,hext,fun j hj=> ?_,{defers:=hR.defers,size:=hR.size,fr:=fun u sv hu=>hR.fr u sv hu,bK:=hR.bK,hp:= ?_}⟩
 ·have:=hfx j hj
  simp only[fn,LV.blk,find]at this ⊢
  cases hb:Nat.beq k j with
  |true=>simp
  |false=>exact this
 ·constructor
  ·intro j b hb
   rcases gB j b hb with⟨rfl,rfl⟩|⟨_,h1⟩
   ·exact .inr (.inr ⟨Pw,he⟩)
   ·exact hR.hp.blk j b h1
  ·intro j j' x x' b b' hx qt hn hxe hb gu
   rcases gB j b hb with⟨h1,_⟩|⟨_,h1⟩
   ·exact absurd h1 (bW j x hx)
   ·rcases gB j' b' gu with⟨h2,_⟩|⟨_,h2⟩
    ·exact absurd h2 (bW j' x' qt)
    ·exact hR.hp.sep j j' x x' b b' hx qt hn hxe h1 h2
  ·intro j b x hb hw hl hx
   rcases gB j b hb with⟨h1,_⟩|⟨_,h1⟩
   ·exact absurd h1 (bW j x hx)
   ·exact hR.hp.own j b x h1 hw hl hx
  ·intro j x hx
   obtain⟨b,hb⟩:=hR.hp.ug j x hx
   have:=bW j x hx
   refine⟨b, ?_⟩
   simp only[fn,LV.blk,find]at hb ⊢
   cases hj:Nat.beq k j with
   |true=>exact absurd (Nat.eq_of_beq_eq_true hj).symm this
   |false=>exact hb
  ·exact hR.hp.bf
  ·intro j b x hb hw hl hx
   rcases gB j b hb with⟨h1,_⟩|⟨_,h1⟩
   ·exact absurd h1 (bW j x hx)
   ·exact hR.hp.eV j b x h1 hw hl hx
theorem na {E:Env} {j:Nat} {ty:TypeId} {wr:Bool} {cs cs':List SV} {fr:List (Nat×SV)} {hp:List (Nat×aF)} (hj:find hp j=some ⟨ty,wr,.one cs⟩) (hd:∀ρ z,aw ρ cs z→aw ρ cs' z) {a:Act} {w:World} (hR:RR E (fn fr hp) a w):
  RR E (fn fr ((j,⟨ty,wr,.one cs'⟩)::hp)) a w:=by
 obtain⟨ρ,hext,hfx,hR⟩:=hR
 have gB:∀i b,(fn fr ((j,⟨ty,wr,.one cs'⟩)::hp) (.k i)).blk=some b→∃b0,(fn fr hp (.k i)).blk=some b0∧b0.wr=b.wr∧b0.data.live=b.data.live∧(b0=b∨(i=j∧b0=⟨ty,wr,.one cs⟩∧b=⟨ty,wr,.one cs'⟩)):=by
  intro i b hb
  simp only[fn,LV.blk,find]at hb ⊢
  cases hi:Nat.beq j i with
  |true=>
   rw[hi]at hb
   simp only[Option.some.injEq]at hb
   obtain rfl:=Nat.eq_of_beq_eq_true hi
   subst hb
   exact⟨_,hj,rfl,rfl,.inr ⟨rfl,rfl,rfl⟩⟩
  |false=>rw[hi]at hb;exact⟨b,hb,rfl,rfl,.inl rfl⟩
 refine⟨ρ,hext,fun i hi=> ?_,{defers:=hR.defers,size:=hR.size,fr:=fun u sv hu=>hR.fr u sv hu,bK:=hR.bK,hp:= ?_}⟩
 ·have:=hfx i hi
  simp only[fn,LV.blk,find]at this ⊢
  cases hb:Nat.beq j i with
  |true=>simp
  |false=>exact this
 ·constructor
  ·intro i b hb
   obtain⟨b0,h1,h2,h3,rfl|⟨rfl,rfl,rfl⟩⟩:=gB i b hb
   ·exact hR.hp.blk i b0 h1
   ·rcases hR.hp.blk i _ h1 with h4|⟨b',t,vs,ex,g1,g2,g3,g4,g5⟩|⟨_,h4⟩
    ·cases h4
    ·refine .inr (.inl ⟨b',t,vs,ex,g1,g2, ?_,g4,g5⟩)
     simp only[da]at g3 ⊢
     obtain⟨z,g6,g7⟩:=g3
     exact⟨z,hd ρ z g6,g7⟩
    ·exact h4.elim
  ·intro i i' x x' b b' hx qt hn hxe hb gu hl ra
   obtain⟨b0,h1,h2,h3,_⟩:=gB i b hb
   obtain⟨b0',h1',h2',h3',_⟩:=gB i' b' gu
   rw[←h2]
   exact hR.hp.sep i i' x x' b0 b0' hx qt hn hxe h1 h1' (h3.trans hl) (h3'.trans ra)
  ·intro i b x hb hw hl hx
   obtain⟨b0,h1,h2,h3,_⟩:=gB i b hb
   exact hR.hp.own i b0 x h1 (h2.trans hw) (h3.trans hl) hx
  ·intro i x hx
   obtain⟨b,hb⟩:=hR.hp.ug i x hx
   simp only[fn,LV.blk,find]at hb ⊢
   cases hi:Nat.beq j i with
   |true=>exact⟨_,rfl⟩
   |false=>exact⟨b,hb⟩
  ·exact hR.hp.bf
  ·intro i b x hb hw hl hx
   obtain⟨b0,h1,h2,h3,_⟩:=gB i b hb
   exact hR.hp.eV i b0 x h1 (h2.trans hw) (h3.trans hl) hx
theorem xP {ρ:bU} {k s:Nat}:∀{cs:List SV} {p:Nat} {z:List (List Value)},cs[p]? =some (.val (.slice none 0 0))→aw ρ cs z→aw ρ (cs.set p (.aO k s 0 0)) z
 |[],p,z,h,_=>by simp at h
 |c::cs,0,z,h,hz=>by
  simp only[List.getElem?_cons_zero,Option.some.injEq]at h
  subst h
  simp only[aw,List.set_cons_zero]at hz ⊢
  obtain⟨x,r,rfl,h1,h2⟩:=hz
  refine⟨x,r,rfl, ?_,h2⟩
  simp only[aL]at h1 ⊢
  exact .inr ⟨trivial,none,h1.1⟩
 |c::cs,p+1,z,h,hz=>by
  simp only[List.getElem?_cons_succ]at h
  simp only[aw,List.set_cons_succ]at hz ⊢
  obtain⟨x,r,rfl,h1,h2⟩:=hz
  exact⟨x,r,rfl,h1,xP h h2⟩
theorem iS {E:Env} {j k s p:Nat} {ty:TypeId} {wr:Bool} {cs cs':List SV} {c:Code} {K:bI} {blk:aF} {fr:List (Nat×SV)} {hp:List (Nat×aF)} (hj:find hp j=some ⟨ty,wr,.one cs⟩) (cc:cs[p]? =some (.val (.slice none 0 0))) (hk:find hp k=none) (he:blk.data.empty)
  (D9:cs.set p (.aO k s 0 0)=cs') (hs:ey E c K fr ((k,blk)::(j,⟨ty,wr,.one cs'⟩)::hp)):ey E c K fr hp:=⟨fun a w hR=>hs.run a w (by
  subst D9
  refine z7 ?_ he (na hj (fun ρ z hz=>xP cc hz) hR)
  simp only[find]
  cases hb:Nat.beq j k with
  |false=>exact hk
  |true=>rw[Nat.eq_of_beq_eq_true hb,hk]at hj;cases hj)⟩
theorem ao {t:Bool} {A B:Prop} (h:t=true) (k:A):(t=true→A)∧(t=false→B):=⟨fun _=>k,fun h'=>(by rw[h]at h';cases h')⟩
theorem ay {t:Bool} {A B:Prop} (h:t=false) (k:B):(t=true→A)∧(t=false→B):=⟨fun h'=>(by rw[h]at h';cases h'),fun _=>k⟩
def Wk (c d:SV):Prop:=c.bl=d.bl∧∀ρ x,aL ρ c x→aL ρ d x
def NC (l m:List SV):Prop:=(∀z,List.zipWith cQ l z=List.zipWith cQ m z)∧∀ρ z,aw ρ l z→aw ρ m z
theorem Wk.refl {c:SV}:Wk c c:=⟨rfl,fun _ _ h=>h⟩
theorem Wk.nil {w:Nat} {a:Option Addr}:Wk (.val (.slice a 0 0)) (eI w []):=⟨rfl,fun _ _ h=>rW h⟩
theorem NC.nil:NC [] []:=⟨fun _=>rfl,fun _ _ h=>h⟩
theorem NC.cons {c d:SV} {l m:List SV} (h:Wk c d) (k:NC l m):NC (c::l) (d::m):=
 ⟨fun z=>by cases z with
  |nil=>rfl
  |cons x r=>rw[List.zipWith_cons_cons,List.zipWith_cons_cons,k.1 r,EA h.1],fun ρ z hz=>by
  simp only[aw]at hz ⊢
  obtain⟨x,r,rfl,h1,h2⟩:=hz
  exact⟨x,r,rfl,h.2 ρ x h1,k.2 ρ r h2⟩⟩
theorem Wk.agg {l m:List SV} (h:NC l m):Wk (.agg l) (.agg m):=⟨rfl,fun ρ x hx=>by
 simp only[aL]at hx ⊢
 obtain⟨z,h1,h2⟩:=hx
 exact⟨z,h.2 ρ z h1,h2⟩⟩
theorem ab.wk {P:Program} {f:FuncId} {args args':List SV} {fk:List (Nat×aF)} {c:SV} {new upd:List (Nat×aF)} (h:ab P f args' fk c new upd) (hw:NC args args'):ab P f args fk c new upd:=ab.args h hw.2 hw.1
def ag3 {α β γ:Type} (f:α→SV) (g:β→SV) (h:γ→SV) (p:α×β×γ):SV:=.agg [f p.1,g p.2.1,h p.2.2]
end Go.Sx
namespace Go.Proofs.YtfpagioknjjacaaGreatDoor
open Go.Sx
set_option linter.unusedSimpArgs false
set_option linter.unusedVariables false
set_option maxRecDepth 100000
set_option maxHeartbeats 4000000
abbrev MM:=Int×Int×List (Int×Int)
abbrev mQ:MM→SV:=ag3 (jv .u8) (jv .u8) (bF 2 qA)
abbrev Dj:MM:=(0,0,[])
def Eb (m:MM):Prop:=(0≤m.1∧m.1<256)∧(0≤m.2.1∧m.2.1<256)∧m.2.2.length≤maxLen∧∀q∈m.2.2,ue q
def eQ (l:List (Int×Int)) (p:Nat):Rat:=qV (l.getD p (0,0))
def cM (l:List (Int×Int)) (n:Nat):List Rat:=(List.range n).map (eQ l)
theorem eu (l:List (Int×Int)) (n:Nat):(cM l n).length=n:=by simp[cM]
theorem pJ {l:List (Int×Int)} {n p:Nat} (h:p<n):(cM l n).getD p 0=eQ l p:=by simp[cM,List.getD_eq_getElem?_getD,h]
theorem kO {l:List (Int×Int)} (h:∀q∈l,ue q) (p:Nat):ue (l.getD p (0,0)):=by
 by_cases hp:p<l.length
 ·exact h _ (eK hp)
 ·rw[List.getD_eq_getElem?_getD,List.getElem?_eq_none aa];exact⟨⟨aI,aI⟩,aI,aI⟩
theorem eT {l:List (Int×Int)} (h:∀q∈l,ue q) (n:Nat):Sm 130 (cM l n):=by
 intro p hp
 rw[eu]at hp
 rw[pJ hp];exact Dc (kO h p)
theorem fB (l:List (Int×Int)) {r c:Nat} (hr:r≤2048) (hc:c≤2048):dV r c (cM l (r*c)):=⟨hr,hc,eu ..⟩
theorem wrap_u8 {n:Int} (h0:0≤n) (h:n<256):IntKind.u8.wrap n=n:=by
 simp[IntKind.wrap,IntKind.bits,IntKind.signed];omega
theorem On (m:MM) (h:Eb m):ab Tryz.prog 62 [mQ m] [] (.ck [iv ((m.1 % 7).toNat:Nat),iv ((m.2.1 % 7).toNat:Nat)]) [] []:=by
 obtain⟨h1,h2,_⟩:=h
 have e1:IntKind.i64.wrap (m.1.tmod 7)=((m.1 % 7).toNat:Nat):=by rw[Int.tmod_eq_emod_of_nonneg h1.1,wrap_i64 aa aa];omega
 have e2:IntKind.i64.wrap (m.2.1.tmod 7)=((m.2.1 % 7).toNat:Nat):=by rw[Int.tmod_eq_emod_of_nonneg h2.1,wrap_i64 aa aa];omega
 have e3:IntKind.u8.wrap (m.1.tmod 7)=m.1.tmod 7:=by rw[Int.tmod_eq_emod_of_nonneg h1.1,wrap_u8 aa aa]
 have e4:IntKind.u8.wrap (m.2.1.tmod 7)=m.2.1.tmod 7:=by rw[Int.tmod_eq_emod_of_nonneg h2.1,wrap_u8 aa aa]
 refine bT [] Tryz.func62 ?_
 intro W0 w0 ρ0 hE
 conv=>whnf
 (repeat((first|refine aq av ?_|refine bX Q3 ?_|rw[e1]|rw[e2]);conv=>whnf));exact Q4
theorem Oo {α:Type} {l:List α} {i:Nat} {d:α} (h:i<l.length):l.take (i+1)=(l.take i).take i++(([l.getD i d]:List α).drop 0).take 1:=(Ko h).symm
theorem oT (m:MM) (hm:Eb m) {r c:Nat} (hr:r≤12) (hc:c≤12):ab Tryz.prog 63 [mQ m,iv r,iv c] [] (mA r c (cM m.2.2 (r*c))) [] []:=by
 obtain⟨A,B,l⟩:=m
 obtain⟨_,_,hl,hq⟩:=hm
 replace hl:l.length≤maxLen:=hl
 have hz:=eu l (r*c)
 have hN:r*c≤12*12:=Nat.mul_le_mul hr hc
 have t0:IntKind.i64.wrap ((r:Int)*(c:Int))=((r*c:Nat):Int):=by rw[←Int.natCast_mul,wrap_i64 aa aa]
 generalize r*c=N at*
 refine fZ [3] Tryz.func63 ?_
 intro w0 ρ0 hE
 conv=>whnf
 skip
 refine iS (j:=7) (k:=2001) (s:=5) (p:=2) (blk:=cP []) rfl rfl rfl rfl rfl ?_
 refine dE hE (fun k=>k) [1,2,3,6,7,8] [6,7,2001] (fun m fr hp=>∃i:Nat,m=N - i∧i≤N∧fr=[(1,iv r),(2,iv c),(3,bE [jv .u8 A,jv .u8 B,bF 2 qA l]),(6,.ptr 6 0 0 0),(7,.ptr 7 0 0 0),(8,iv (i:Nat))]∧
  hp=[(6,zM),(7,⟨38,true,.one [iv r,iv c,.aO 2001 5 0 i]⟩),(2001,cP ((cM l N).take i))]) N ?_ ?_ ?_
 ·kernel_rfl
 ·exact⟨0,rfl,Nat.zero_le _,rfl,rfl⟩
 rintro m _ _ ⟨i,rfl,hi,rfl,rfl⟩
 have KD:((cM l N).take i).length=i:=by rw[List.length_take];omega
 by_cases aE:i<N
 ·have t1:=dx aE
  have t2:=br (i:=i) aa
  have o1:=zV (l.getD i (0,0)) (kO hq i)
  rw[show qV (l.getD i (0,0))=(cM l N).getD i 0 from(pJ aE).symm]at o1
  have e1:=Oo (d:=(0:Rat)) (show i<(cM l N).length by omega)
  refine ey.of hE ?_
  conv=>whnf
  by_cases lJ:i<l.length
  ·have t3:=dx lJ
   (repeat((first|refine ag rfl rfl ?_|refine aq av ?_|refine aC Q3 ?_|refine aS (by assumption) ?_|refine ah Q8 ?_|refine ah Q5 ?_|refine ah X8 ?_|refine ah Q7 ?_|rw[t0]|rw[t1]|rw[t3]|rw[t2]|rw[Nat.zero_add]);conv=>whnf))
   refine⟨N - (i+1),cE [(36,2001)],[1,2,3,6,7,8],[6,7,36],aa,av,i+1,rfl,aE,rfl, ?_⟩
   rw[e1];rfl
  ·have t3:=dA lJ
   rw[show l.getD i (0,0)=(0,0)from by rw[List.getD_eq_getElem?_getD,List.getElem?_eq_none aa];rfl]at o1
   (repeat((first|refine ag rfl rfl ?_|refine ae rfl rfl ?_|refine aq av ?_|refine aC Q3 ?_|refine aS (by assumption) ?_|refine ah Q8 ?_|refine ah Q5 ?_|refine ah Q7 ?_|rw[t0]|rw[t1]|rw[t3]|rw[t2]|rw[Nat.zero_add]);conv=>whnf))
   refine⟨N - (i+1),cE [(36,2001)],[1,2,3,6,7,8],[6,7,36],aa,av,i+1,rfl,aE,rfl, ?_⟩
   rw[e1];rfl
 ·have t1:=dA aE
  obtain rfl:i=N:=aa
  rw[List.take_of_length_le aa]
  refine ey.of hE ?_
  conv=>whnf
  (repeat(first|(refine ae rfl rfl ?_;conv=>whnf)|(rw[t0];conv=>whnf)|(rw[t1];conv=>whnf)))
  exact Q34
theorem E9 {l:List (Int×Int)} {n i:Nat} (h:l.length≤i):cM l n=(cM l n).take i++List.replicate (n - i) 0:=by
 apply List.ext_getElem
 ·rw[List.length_append,List.length_take,eu,List.length_replicate];omega
 ·intro j h1 h2
  rw[eu]at h1
  rw[List.getElem_append]
  split
  ·simp
  ·rename_i h3
   rw[List.length_take,eu]at h3
   simp only[List.getElem_replicate,cM,List.getElem_map,List.getElem_range,eQ]
   rw[List.getD_eq_getElem?_getD,List.getElem?_eq_none aa];decide+kernel
def MP:Nat→Nat→List Nat
 |0,_=>[]
 |f+1,n=>if n=0 then[]else n % 10000::MP f (n/10000)
def tdW (n:Nat):List Nat:=MP n n
theorem KF:∀(f n w:Nat),w∈MP f n→w<10000
 |0,_,w,h=>by cases h
 |f+1,n,w,h=>by
  rw[MP]at h
  split at h
  ·cases h
  ·rcases List.mem_cons.1 h with rfl|h
   ·omega
   ·exact KF f _ w h
theorem YJ {n w:Nat} (h:w∈tdW n):w<10000:=KF n n w h
def bq (xs:List Int):Nat→Int
 |0=>0
 |k+1=>bq xs k+xs.getD k 0*10000^k
def W4 (xs:List Int):Prop:=∀i,0≤xs.getD i 0∧xs.getD i 0<10000
theorem W4.set {xs:List Int} (h:W4 xs) {i:Nat} {v:Int} (h0:0≤v) (h1:v<10000):W4 (xs.set i v):=by
 intro j
 rw[aZ]
 split
 ·exact⟨h0,h1⟩
 ·exact h j
theorem GC {xs:List Int} (h:∀x∈xs,0≤x∧x<10000):W4 xs:=by
 intro i
 rw[List.getD_eq_getElem?_getD]
 cases hx:xs[i]? with
 |none=>simp
 |some v=>simpa using h v (List.mem_of_getElem? hx)
theorem W4.mem {xs:List Int} (h:W4 xs):∀x∈xs,0≤x∧x<10000:=by
 intro x hx
 obtain⟨i,hi⟩:=List.getElem?_of_mem hx
 have:=h i
 rw[List.getD_eq_getElem?_getD,hi]at this
 exact this
theorem nM {xs ys:List Int}:∀{k:Nat},(∀i,i<k→xs.getD i 0=ys.getD i 0)→bq xs k=bq ys k
 |0,_=>rfl
 |k+1,h=>by rw[bq,bq,nM (fun i hi=>h i aa),h k aa]
theorem Dk {xs:List Int} {i k:Nat} {v:Int} (h:k≤i):bq (xs.set i v) k=bq xs k:=
 nM fun j hj=>by rw[aZ,if_neg aa]
theorem eB {xs:List Int} (h:W4 xs):∀k,0≤bq xs k
 |0=>Int.le_refl _
 |k+1=>by
  have:=eB h k
  have h1:0≤xs.getD k 0*10000^k:=Int.mul_nonneg (h k).1 (Int.pow_nonneg aI)
  rw[bq];omega
theorem kU (k:Nat):(0:Int)<10000^k:=Int.pow_pos aI
theorem nO {xs:List Int} (h:W4 xs):∀k,bq xs k<10000^k
 |0=>by simp[bq]
 |k+1=>by
  have h1:=nO h k
  have h2:xs.getD k 0*10000^k≤9999*10000^k:=Int.mul_le_mul_of_nonneg_right (by have:=(h k).2;omega) (Int.le_of_lt (kU k))
  rw[bq,Int.pow_succ];omega
theorem kW {xs:List Int} {k:Nat}:∀{n:Nat},(∀i,k≤i→i<n→xs.getD i 0=0)→k≤n→bq xs n=bq xs k
 |0,_,hk=>by obtain rfl:k=0:=aa
             rfl
 |n+1,h,hk=>by
  by_cases he:k=n+1
  ·subst he;rfl
  ·rw[bq,h n aa aa,kW (n:=n) (fun i h1 h2=>h i h1 aa) aa,Int.zero_mul,Int.add_zero]
theorem Bw {xs:List Int} (h:W4 xs) {k:Nat} (ht:xs.getD k 0≠0):10000^k≤bq xs (k+1):=by
 have h1:=eB h k
 have h2:1*10000^k≤xs.getD k 0*10000^k:=Int.mul_le_mul_of_nonneg_right (by have:=(h k).1;omega) (Int.le_of_lt (kU k))
 rw[bq];omega
theorem KG:∀(f g n:Nat),n≤f→n≤g→MP f n=MP g n
 |0,0,_,_,_=>rfl
 |0,g+1,n,h,_=>by obtain rfl:n=0:=aa
                  simp[MP]
 |f+1,0,n,_,h=>by obtain rfl:n=0:=aa
                  simp[MP]
 |f+1,g+1,n,h,h'=>by
  unfold MP
  split
  ·rfl
  ·rw[KG f g (n/10000) aa aa]
theorem KH {n:Nat} (h:n≠0):tdW n=n % 10000::tdW (n/10000):=by
 unfold tdW
 obtain⟨m,rfl⟩:∃m,n=m+1:=⟨n - 1,aa⟩
 rw[MP,if_neg h,KG m ((m+1)/10000) _ aa (Nat.le_refl _)]
def td (n:Nat):List Int:=(tdW n).map Int.ofNat
theorem sj:td 0=[]:=rfl
theorem pK {n:Nat} (h:n≠0):td n=((n % 10000:Nat):Int)::td (n/10000):=by
 rw[td,KH h];rfl
theorem uD (x:Int) (xs:List Int):∀k,bq (x::xs) (k+1)=x+10000*bq xs k
 |0=>by simp[bq]
 |k+1=>by
  rw[bq,uD x xs k,bq,List.getD_cons_succ,Int.pow_succ]
  grind
theorem xQ (n:Nat):bq (td n) (td n).length=n:=by
 induction n using Nat.strongRecOn with
 |_ n ih=>
  by_cases h:n=0
  ·subst h;rfl
  ·rw[pK h,List.length_cons,uD,ih _ aa];omega
theorem iT (n:Nat):W4 (td n):=by
 refine GC fun x hx=> ?_
 obtain⟨w,hw,rfl⟩:=List.mem_map.1 hx
 have:=YJ hw
 exact⟨Int.natCast_nonneg _,by show(w:Int)<_;omega⟩
theorem Bx {n:Nat} (h:n≠0):(td n).length≠0∧(td n).getD ((td n).length - 1) 0≠0:=by
 induction n using Nat.strongRecOn with
 |_ n ih=>
  rw[pK h]
  refine⟨by simp, ?_⟩
  by_cases h1:n/10000=0
  ·rw[h1,sj]
   simp only[List.length_singleton,Nat.sub_self,List.getD_cons_zero]
   omega
  ·obtain⟨h2,h3⟩:=ih _ aa h1
   obtain⟨l,hl⟩:∃l,(td (n/10000)).length=l+1:=⟨(td (n/10000)).length - 1,aa⟩
   simp only[List.length_cons,hl,Nat.add_sub_cancel,List.getD_cons_succ]
   rw[hl]at h3
   simpa using h3
theorem QI:∀(k:Nat) (xs:List Int),W4 xs→k≤xs.length→(k=0∨xs.getD (k - 1) 0≠0)→td (bq xs k).toNat=xs.take k
 |0,xs,_,_,_=>by simp[bq,sj]
 |k+1,[],_,h,_=>by simp at h
 |k+1,x::xs,hw,h,ht=>by
  have hx:=hw 0
  simp only[List.getD_cons_zero]at hx
  have F9:W4 xs:=fun i=>by have:=hw (i+1);simpa using this
  have hv:=eB F9 k
  have Sc:=QI k xs F9 (by simpa using h) (by
   cases k with
   |zero=>exact .inl rfl
   |succ k=>right;have:=ht.resolve_left aa;simpa using this)
  have hn:(bq (x::xs) (k+1)).toNat≠0:=by
   have Nn:=ht.resolve_left aa
   have:=Bw hw (k:=k) (by simpa using Nn)
   have:=kU k
   omega
  rw[pK hn,uD,List.take_succ_cons]
  have e1:(x+10000*bq xs k).toNat % 10000=x.toNat:=aa
  have e2:(x+10000*bq xs k).toNat/10000=(bq xs k).toNat:=aa
  rw[e1,e2,Sc]
  congr 1
  omega
theorem jQ (k:Nat):(((10000^k:Nat)):Int)=(10000:Int)^k:=by rw[Int.natCast_pow];rfl
theorem fP {n k:Nat} (h:n<10000^k):(td n).length≤k:=by
 by_cases hn:n=0
 ·subst hn;simp[sj]
 ·obtain⟨h1,h2⟩:=Bx hn
  obtain⟨l,hl⟩:∃l,(td n).length=l+1:=⟨(td n).length - 1,aa⟩
  rw[hl]at h2
  have h3:=Bw (iT n) (k:=l) (by simpa using h2)
  rw[←hl,xQ]at h3
  refine Nat.le_of_not_lt fun aE=> ?_
  have h4:(10000:Int)^k≤10000^l:=by
   have:(10000:Nat)^k≤10000^l:=Nat.pow_le_pow_right aI aa
   rw[←jQ,←jQ];exact Int.ofNat_le.2 this
  have h5:(n:Int)<10000^k:=by rw[←jQ];exact Int.ofNat_lt.2 h
  omega
theorem eU (n:Nat):n<10000^(td n).length:=by
 have:=nO (iT n) (td n).length
 rw[xQ,←jQ]at this
 exact Int.ofNat_lt.1 this
theorem KI {xs:List Int} (hx:W4 xs) {n:Nat}:∀{k:Nat},k≤n→bq xs n % 10000^k=bq xs k:=by
 intro k hk
 induction n with
 |zero=>
  obtain rfl:k=0:=aa
  simp[bq]
 |succ n ih=>
  by_cases he:k=n+1
  ·subst he
   exact Int.emod_eq_of_lt (eB hx _) (nO hx _)
  ·rw[bq,show n=k+(n - k)from aa,Int.pow_add,←show n=k+(n - k)from aa,Int.mul_left_comm,Int.add_mul_emod_self_left]
   exact ih aa
theorem KJ {xs:List Int} (hx:W4 xs) {i n:Nat} (h:i<n):bq xs n/10000^i % 10000=xs.getD i 0:=by
 have h1:=KI hx (n:=n) (k:=i+1) aa
 have hp:=kU i
 have e:bq xs n=bq xs (i+1)+10000^(i+1)*(bq xs n/10000^(i+1)):=by
  rw[←h1];exact(Int.emod_add_mul_ediv _ _).symm
 have h0:=eB hx i
 have hl:=nO hx i
 have e2:bq xs n=bq xs i+10000^i*(xs.getD i 0+10000*(bq xs n/10000^(i+1))):=by
  conv=>lhs;rw[e]
  rw[bq,Int.pow_succ]
  grind
 rw[e2,Int.add_mul_ediv_left _ _ aa,Int.ediv_eq_zero_of_lt h0 hl,Int.zero_add,Int.add_mul_emod_self_left]
 exact Int.emod_eq_of_lt (hx i).1 (hx i).2
theorem xR {xs:List Int} {i:Nat} {v:Int}:∀{n:Nat},i<n→i<xs.length→bq (xs.set i v) n=bq xs n+(v - xs.getD i 0)*10000^i
 |0,h,_=>aa
 |n+1,h,hl=>by
  by_cases he:i=n
  ·subst he
   rw[bq,bq,Dk (Nat.le_refl _),aZ,if_pos ⟨rfl,hl⟩];grind
  ·rw[bq,bq,xR (n:=n) aa hl,aZ,if_neg aa];grind
abbrev nN (n:Nat):SV:=cO .i64 (td n)
theorem QJ {x:List Int} (hw:W4 x) (h:x.length=0∨x.getD (x.length - 1) 0≠0):td (bq x x.length).toNat=x:=by
 rw[QI x.length x hw (Nat.le_refl _) h,List.take_length]
theorem mc (n k:Nat) (h:(td n).length≤k):bq (td n) k=n:=by
 rw[kW (k:=(td n).length) (fun i h1 _=>dY h1) h,xQ]
theorem HO {x:List Int} {k j:Nat} (h:j≤k):bq (x.take k) j=bq x j:=nM fun i hi=>by rw[getD_take,if_pos aa]
theorem Oq {x:List Int} (h:W4 x) (k:Nat):W4 (x.take k):=by
 intro i;rw[getD_take];split
 ·exact h i
 ·omega
theorem HP {x:List Int} (h0:0<x.length) (hz:x.getD (x.length - 1) 0=0):bq (x.take (x.length - 1)) (x.take (x.length - 1)).length=bq x x.length:=by
 have hl:(x.take (x.length - 1)).length=x.length - 1:=by simp
 rw[hl,HO (Nat.le_refl _)]
 exact(kW (k:=x.length - 1) (n:=x.length) (fun i h1 h2=>by
  have:i=x.length - 1:=aa
  rw[this];exact hz) aa).symm
theorem By {x:List Int} (h:W4 x) {d:Int} (h0:0≤d) (h1:d<10000):W4 (x++[d]):=GC fun y hy=>by
 rcases List.mem_append.1 hy with hy|hy
 ·exact h.mem y hy
 ·rw[List.mem_singleton.1 hy];exact⟨h0,h1⟩
theorem z8 (x:List Int) (d:Int):bq (x++[d]) (x.length+1)=bq x x.length+d*10000^x.length:=by
 rw[bq,jo,if_neg aa,Nat.sub_self,nM (ys:=x) (k:=x.length) (fun i hi=>by rw[jo,if_pos hi])]
 rfl
theorem gP {n k:Nat} (h:(td n).length≤k):n<10000^k:=Nat.lt_of_lt_of_le (eU n) (Nat.pow_le_pow_right aI h)
theorem uE {n:Nat} (h:n≠0):10000^((td n).length - 1)≤n:=by
 obtain⟨h1,h2⟩:=Bx h
 have h3:=Bw (iT n) h2
 rw[show(td n).length - 1+1=(td n).length by omega,xQ,←jQ]at h3
 omega
theorem fC {a b:Nat} (h:a≤b):(td a).length≤(td b).length:=fP (Nat.lt_of_le_of_lt h (eU b))
theorem Aa {a b:Nat} (h:(td a).length<(td b).length):a<b:=by
 rcases Nat.lt_or_ge a b with g|g
 ·exact g
 ·have:=fC g;omega
theorem gQ {n:Nat}:(td n).length=0↔n=0:=by
 constructor
 ·intro h
  rcases Nat.eq_zero_or_pos n with g|g
  ·exact g
  ·exact absurd h (Bx aa).1
 ·rintro rfl;rfl
theorem Bz (n i:Nat):(td n).getD i 0=((n/10000^i % 10000:Nat):Int):=by
 have h:=iT n
 rcases Nat.lt_or_ge i (td n).length with hi|hi
 ·rw[←KJ h hi,xQ,Int.natCast_emod,Int.natCast_ediv,jQ];rfl
 ·rw[dY hi,Nat.div_eq_of_lt (gP hi)];rfl
theorem oU {E:Env} (t k:Nat) {c:Code} {K:bI} {fr:List (Nat×SV)} {hp:List (Nat×aF)} {ty:TypeId} {n:Nat} {kd:IntKind} {xs:List Int} (hW:∀b,¬E.W0 b) (ht:lk fr t=some (.aO k 1 0 n)) (hk:find hp k=some ⟨ty,true,.ints kd xs⟩)
  (hn:n=xs.length) (hs:ey E c K ((t,cO kd xs)::fr) (ff hp k ⟨ty,true,.dead⟩)):ey E c K fr hp:=by
 refine kG t k (xs:=xs.map (jv kd)) hW ht hk rfl rfl (bN (fun _=>rfl) xs) (by simp;omega) ?_
 rw[gi (by simp;omega)]
 exact hs
theorem xT {L:List Int} {i:Nat} {d:Int} (h:L.length=i):List.take i L++List.take 1 (List.drop 0 [d])=L++[d]:=by
 rw[List.take_of_length_le aa];rfl
abbrev y7 (l:List Int):aF:=⟨3,true,.ints .i64 l⟩
theorem BA (l:List Int) (hl:l.length<1099511627776) (h:W4 l):ab Tryz.prog 326 [cO .i64 l] [] (nN (bq l l.length).toNat) [] []:=by
 refine bT [] Tryz.func326 ?_
 intro W0 w0 ρ0 hE
 conv=>whnf
 skip
 refine aj hE (fun k=>k) [0] [] (fun m fr hp=>∃x:List Int,m=x.length∧x.length≤l.length∧W4 x∧bq x x.length=bq l l.length∧fr=[(0,cO .i64 x)]∧hp=[]) l.length ?_ ?_ ?_
 ·kernel_rfl
 ·exact⟨l,rfl,Nat.le_refl _,h,rfl,rfl,rfl⟩
 rintro m _ _ ⟨x,rfl,hx,hw,hv,rfl,rfl⟩
 conv=>whnf
 by_cases h0:0<x.length
 ·have t1:decide ((x.length:Int)>0)=true:=decide_eq_true aa
  have e1:IntKind.i64.wrap ((x.length:Int) - 1)=((x.length - 1:Nat):Int):=by rw[wrap_i64 aa aa];omega
  by_cases hz:x.getD (x.length - 1) 0=0
  ·have t2:(x.getD (x.length - 1) 0==0)=true:=beq_iff_eq.2 hz
   (repeat((first|refine ag rfl rfl ?_|refine ah dO ?_|refine ah Q8 ?_|refine ah Q5 ?_|refine ah Q32 ?_|refine ah Ga ?_|rw[t1]|rw[e1]|rw[t2]|rw[Int.toNat_natCast]);conv=>whnf))
   have ra:(x.take (x.length - 1)).length=x.length - 1:=by simp
   exact⟨x.length - 1,fun k=>k,[0],[],aa,av,x.take (x.length - 1),ra.symm,aa,Oq hw _,(HP h0 hz).trans hv,rfl,rfl⟩
  ·have t2:(x.getD (x.length - 1) 0==0)=false:=beq_false_of_ne hz
   have e:nN (bq l l.length).toNat=cO .i64 x:=by rw[nN,←hv,QJ hw (.inr hz)]
   rw[e]
   (repeat((first|refine ag rfl rfl ?_|refine ae rfl rfl ?_|refine ah dO ?_|refine ah Q8 ?_|refine ah Q5 ?_|refine ah Q32 ?_|rw[t1]|rw[e1]|rw[t2]|rw[Int.toNat_natCast]);conv=>whnf));exact Q4
 ·have t1:decide ((x.length:Int)>0)=false:=decide_eq_false aa
  have e:nN (bq l l.length).toNat=cO .i64 x:=by rw[nN,←hv,QJ hw (.inl aa)]
  rw[e]
  (repeat((first|refine ae rfl rfl ?_|refine ah dP ?_|refine ah Q8 ?_|rw[t1]);conv=>whnf));exact Q4
theorem Ot (n:Nat) (hn:n<18446744073709551616):ab Tryz.prog 327 [.val (.int .u64 (n:Nat))] [] (nN n) [] []:=by
 refine fZ [] Tryz.func327 ?_
 intro w0 ρ0 hE
 conv=>whnf
 skip
 refine ct (t:=3) (k:=2001) (s:=1) (blk:=y7 []) rfl rfl rfl ?_
 refine dE hE (fun k=>k) [0,3] [2001] (fun m fr hp=>∃(v:Nat) (L:List Int),m=v∧v≤n∧td n=L++td v∧L.length≤n∧L.length+v≤n∧fr=[(0,.val (.int .u64 (v:Nat))),(3,.aO 2001 1 0 L.length)]∧hp=[(2001,y7 L)]) n ?_ ?_ ?_
 ·kernel_rfl
 ·exact⟨n,[],rfl,Nat.le_refl _,rfl,Nat.zero_le _,by simp,rfl,rfl⟩
 rintro m _ _ ⟨v,L,rfl,hv,hL,hl,iC,rfl,rfl⟩
 by_cases h0:0<m
 ·have hlen:L.length<1099511627776:=by
   have:=congrArg List.length hL
   rw[List.length_append]at this
   have h5:(td n).length≤5:=fP aa
   omega
  have t1:decide ((m:Int)>0)=true:=decide_eq_true aa
  have e0:(m:Int).tmod 10000=((m % 10000:Nat):Int):=by rw[Int.tmod_eq_emod_of_nonneg aa];omega
  have e1:IntKind.i64.wrap ((m:Int).tmod 10000)=((m % 10000:Nat):Int):=by rw[e0,wrap_i64 aa aa]
  have e2:(m:Int).tdiv 10000=((m/10000:Nat):Int):=by rw[Int.tdiv_eq_ediv_of_nonneg aa];omega
  have e3:IntKind.u64.wrap ((m:Int).tdiv 10000)=((m/10000:Nat):Int):=by rw[e2,wrap_u64 aa aa]
  refine ey.of hE ?_
  conv=>whnf
  (repeat((first|refine ag rfl rfl ?_|refine And.intro Q6 ?_|rw[t1]|rw[e1]|rw[e3]);conv=>whnf))
  refine⟨m/10000,cE [(11,2001)],[0,3],[11],Nat.div_lt_self h0 aI,av,m/10000,L++[((m % 10000:Nat):Int)],rfl,aa, ?_, ?_, ?_, ?_, ?_⟩
  ·rw[hL,pK aa,List.append_assoc];rfl
  ·rw[List.length_append];simp;omega
  ·rw[List.length_append];simp;omega
  ·rw[List.length_append];rfl
  ·rw[←xT rfl];rfl
 ·have t1:decide ((m:Int)>0)=false:=decide_eq_false aa
  have hm:m=0:=aa
  subst hm
  rw[sj,List.append_nil]at hL
  refine oU 3 2001 (fun _ h=>h) rfl rfl rfl ?_
  refine ey.of hE ?_
  conv=>whnf
  have e:nN n=cO .i64 L:=by rw[nN,hL]
  rw[e]
  (repeat(first|(refine ae rfl rfl ?_;conv=>whnf)));exact Q4
theorem Ou (n i:Nat) (hn:(td n).length<1099511627776):ab Tryz.prog 325 [nN n,.val (.int .i64 (i:Nat))] [] (.val (.int .i64 ((td n).getD i 0))) [] []:=by
 refine bT [] Tryz.func325 ?_
 intro W0 w0 ρ0 hE
 conv=>whnf
 by_cases h:i<(td n).length
 ·have t1:decide ((i:Int)<((td n).length:Int))=true:=decide_eq_true aa
  (repeat((first|refine ag rfl rfl ?_|refine ah Q8 ?_|refine ah Q5 ?_|refine ah jw ?_|rw[t1]);conv=>whnf));exact Q4
 ·have t1:decide ((i:Int)<((td n).length:Int))=false:=decide_eq_false aa
  rw[dY aa]
  (repeat(first|(refine ae rfl rfl ?_;conv=>whnf)|(refine ah Q8 ?_;conv=>whnf)|(rw[t1];conv=>whnf)));exact Q4
theorem Ab {xs ys:List Int} {j:Nat}:∀{n:Nat},j≤n→(∀i,j≤i→i<n→xs.getD i 0=ys.getD i 0)→bq xs n - bq ys n=bq xs j - bq ys j
 |0,h,_=>by obtain rfl:j=0:=aa
            rfl
 |n+1,h,he=>by
  by_cases hj:j=n+1
  ·rw[hj]
  ·have:=Ab (n:=n) aa (fun i h1 h2=>he i h1 aa)
   rw[bq,bq,he n aa aa];omega
theorem xU {xs ys:List Int} (hx:W4 xs) (hy:W4 ys) {j:Nat} (h:xs.getD j 0<ys.getD j 0):bq xs (j+1)<bq ys (j+1):=by
 have h1:=nO hx j
 have h2:=eB hy j
 have h3:(xs.getD j 0+1)*10000^j≤ys.getD j 0*10000^j:=Int.mul_le_mul_of_nonneg_right aa (Int.le_of_lt (kU j))
 rw[Int.add_mul,Int.one_mul]at h3
 rw[bq,bq];omega
theorem KK (a b:Nat) (ha:(td a).length<1099511627776) (hb:(td b).length<1099511627776):ab Tryz.prog 324 [nN a,nN b] [] (.val (.int .i64 ((a:Int) - b).sign)) [] []:=by
 refine bT [] Tryz.func324 ?_
 intro W0 w0 ρ0 hE
 conv=>whnf
 by_cases h1:(td a).length<(td b).length
 ·have t1:decide (((td a).length:Int)<((td b).length:Int))=true:=decide_eq_true aa
  have:=Aa h1
  rw[Int.sign_eq_neg_one_of_neg (show(a:Int) - b<0 by omega)]
  (repeat(first|(refine ag rfl rfl ?_;conv=>whnf)|(refine ah Q8 ?_;conv=>whnf)|(rw[t1];conv=>whnf)));exact Q4
 have t1:decide (((td a).length:Int)<((td b).length:Int))=false:=decide_eq_false aa
 by_cases h2:(td b).length<(td a).length
 ·have t2:decide (((td a).length:Int)>((td b).length:Int))=true:=decide_eq_true aa
  have:=Aa h2
  rw[Int.sign_eq_one_of_pos (show 0<(a:Int) - b by omega)]
  (repeat((first|refine ag rfl rfl ?_|refine ae rfl rfl ?_|refine ah Q8 ?_|rw[t1]|rw[t2]);conv=>whnf));exact Q4
 have t2:decide (((td a).length:Int)>((td b).length:Int))=false:=decide_eq_false aa
 have e0:IntKind.i64.wrap (((td a).length:Int) - 1)=((td a).length:Int) - 1:=wrap_i64 aa aa
 have va:=mc a (td a).length (Nat.le_refl _)
 have vb:=mc b (td a).length aa
 have wa:=iT a
 have wb:=iT b
 (repeat((first|refine ae rfl rfl ?_|refine ah Q8 ?_|rw[t1]|rw[t2]|rw[e0]);conv=>whnf))
 refine aj hE (fun k=>k) [0,1,5] [] (fun m fr hp=>m≤(td a).length∧(∀i,m≤i→i<(td a).length→(td a).getD i 0=(td b).getD i 0)∧fr=[(0,nN a),(1,nN b),(5,.val (.int .i64 ((m:Int) - 1)))]∧hp=[]) (td a).length ?_ ?_ ?_
 ·kernel_rfl
 ·exact⟨Nat.le_refl _,(fun i h1 h2=>aa),rfl,rfl⟩
 rintro j _ _ ⟨hj,heq,rfl,rfl⟩
 have hd:=Ab hj heq
 rw[va,vb]at hd
 conv=>whnf
 by_cases h0:j=0
 ·subst h0
  have t3:decide (((0:Nat):Int) - 1≥0)=false:=rfl
  have e:((a:Int) - b).sign=0:=by rw[hd];rfl
  rw[e]
  (repeat(first|(refine ae rfl rfl ?_;conv=>whnf)));exact Q4
 ·obtain⟨i,rfl⟩:∃i,j=i+1:=⟨j - 1,aa⟩
  have ei:(((i+1:Nat):Int) - 1)=(i:Int):=aa
  rw[ei]
  have Zo:i<(td b).length:=aa
  have t3:decide ((i:Int)≥0)=true:=decide_eq_true aa
  have e2:IntKind.i64.wrap ((i:Int) - 1)=(i:Int) - 1:=wrap_i64 aa aa
  by_cases aE:(td a).getD i 0<(td b).getD i 0
  ·have t4:decide ((td a).getD i 0<(td b).getD i 0)=true:=decide_eq_true aE
   have:=xU wa wb aE
   rw[Int.sign_eq_neg_one_of_neg (show(a:Int) - b<0 by omega)]
   (repeat((first|refine ag rfl rfl ?_|refine aq av ?_|refine ah Q5 ?_|refine ah jw ?_|rw[t3]|rw[t4]);conv=>whnf));exact Q4
  ·have t4:decide ((td a).getD i 0<(td b).getD i 0)=false:=decide_eq_false aE
   by_cases Px:(td b).getD i 0<(td a).getD i 0
   ·have t5:decide ((td a).getD i 0>(td b).getD i 0)=true:=decide_eq_true Px
    have:=xU wb wa Px
    rw[Int.sign_eq_one_of_pos (show 0<(a:Int) - b by omega)]
    (repeat((first|refine ag rfl rfl ?_|refine ae rfl rfl ?_|refine aq av ?_|refine ah Q5 ?_|refine ah jw ?_|rw[t3]|rw[t4]|rw[t5]);conv=>whnf));exact Q4
   ·have t5:decide ((td a).getD i 0>(td b).getD i 0)=false:=decide_eq_false Px
    (repeat((first|refine ag rfl rfl ?_|refine ae rfl rfl ?_|refine aq av ?_|refine ah Q5 ?_|refine ah jw ?_|rw[t3]|rw[t4]|rw[t5]|rw[e2]);conv=>whnf))
    exact⟨i,fun k=>k,[0,1,5],[],aa,av,aa,(fun q h1 h2=>by
     by_cases hq:q=i
     ·rw[hq];omega
     ·exact heq q aa h2),rfl,rfl⟩
theorem HQ {P vL va vb c x y D C:Int} (h:vL+c*P=va+vb) (hD:x+y+c=D+10000*C):vL+D*P+C*(P*10000)=va+x*P+(vb+y*P):=by
 have h2:(x+y+c)*P=(D+10000*C)*P:=by rw[hD]
 grind
theorem QK (a b:Nat) (ha:(td a).length<1073741824) (hb:(td b).length<1073741824):ab Tryz.prog 323 [nN a,nN b] [] (nN (a+b)) [] []:=by
 have wa:=iT a
 have wb:=iT b
 refine fZ [] Tryz.func323 ?_
 intro w0 ρ0 hE
 conv=>whnf
 skip
 generalize hM:max (td a).length (td b).length=M
 refine ct (t:=5) (k:=2001) (s:=1) (blk:=y7 []) rfl rfl rfl ?_
 refine dE hE (fun k=>k) [0,1,5,6,7] [2001] (fun m fr hp=>∃(i:Nat) (L:List Int) (c:Int),m=M+2 - i∧i≤M+1∧L.length=i∧W4 L∧0≤c∧c≤1∧(M<i→c=0)∧bq L i+c*10000^i=bq (td a) i+bq (td b) i∧
  fr=[(0,nN a),(1,nN b),(5,.aO 2001 1 0 i),(6,.val (.int .i64 c)),(7,.val (.int .i64 (i:Nat)))]∧hp=[(2001,y7 L)]) (M+2) ?_ ?_ ?_
 ·kernel_rfl
 ·exact⟨0,[],0,rfl,aa,rfl,(fun i=>by simp),aa,aa,(fun _=>rfl),rfl,rfl,rfl⟩
 rintro m _ _ ⟨i,L,c,rfl,hi,hl,hw,hc0,RG,hcM,hv,rfl,rfl⟩
 by_cases hgo:i<(td a).length∨i<(td b).length∨0<c
 ·have hiM:i≤M:=by
   rcases hgo with h|h|h
   ·omega
   ·omega
   ·rcases Nat.lt_or_ge M i with g|g
    ·have:=hcM g;omega
    ·exact g
  have k1:=Ou a i aa
  have k2:=Ou b i aa
  have hx:=wa i
  have hy:=wb i
  have hxz:(td a).length≤i→(td a).getD i 0=0:=fun h=>dY h
  have hyz:(td b).length≤i→(td b).getD i 0=0:=fun h=>dY h
  generalize hxe:(td a).getD i 0=x at*
  generalize hye:(td b).getD i 0=y at*
  have e1:IntKind.i64.wrap (x+y)=x+y:=wrap_i64 aa aa
  have e2:IntKind.i64.wrap (x+y+c)=x+y+c:=wrap_i64 aa aa
  have e3:(x+y+c).tmod 10000=(x+y+c) % 10000:=Int.tmod_eq_emod_of_nonneg aa
  have e4:IntKind.i64.wrap ((x+y+c).tdiv 10000)=(x+y+c)/10000:=by rw[Int.tdiv_eq_ediv_of_nonneg aa];exact wrap_i64 aa aa
  have e5:(x+y+c).tdiv 10000=(x+y+c)/10000:=Int.tdiv_eq_ediv_of_nonneg aa
  have e6:=br (i:=i) aa
  have YK:M<i+1→(x+y+c)/10000=0:=fun h=>by
   have:=hxz aa;have:=hyz aa;omega
  have hiA:i<1099511627776:=aa
  clear hxz hyz
  have ca:bq (L++[(x+y+c) % 10000]) (i+1)+(x+y+c)/10000*10000^(i+1)=bq (td a) (i+1)+bq (td b) (i+1):=by
   have h1:=z8 L ((x+y+c) % 10000)
   rw[hl]at h1
   rw[h1,bq,bq,Int.pow_succ,hxe,hye]
   exact HQ hv aa
  have nv:W4 (L++[(x+y+c) % 10000]):=By hw aa aa
  have iC:(L++[(x+y+c) % 10000]).length=i+1:=by rw[List.length_append,hl];rfl
  have Zw:=xT (d:=(x+y+c) % 10000) hl
  refine ey.of hE ?_
  conv=>whnf
  by_cases g1:i<(td a).length
  ·have t1:decide ((i:Int)<((td a).length:Int))=true:=decide_eq_true aa
   (repeat((first|refine ag rfl rfl ?_|refine ae rfl rfl ?_|refine aC Q3 ?_|refine bX Q3 ?_|refine aS (by assumption) ?_|refine ah dO ?_|refine ah Q8 ?_|rw[t1]|rw[e1]|rw[e2]|rw[e3]|rw[e4]|rw[e6]);conv=>whnf))
   exact⟨M+2 - (i+1),cE [(38,2001)],[0,1,5,6,7],[38],aa,av,i+1,_,_,rfl,aa,iC,nv,aa,aa,YK,ca,rfl,by rw[←Zw];rfl⟩
  ·have t1:decide ((i:Int)<((td a).length:Int))=false:=decide_eq_false aa
   by_cases g2:i<(td b).length
   ·have t2:decide ((i:Int)<((td b).length:Int))=true:=decide_eq_true aa
    (repeat((first|refine ag rfl rfl ?_|refine ae rfl rfl ?_|refine aC Q3 ?_|refine bX Q3 ?_|refine aS (by assumption) ?_|refine ah dO ?_|refine ah dP ?_|refine ah Q8 ?_|rw[t1]|rw[t2]|rw[e1]|rw[e2]|rw[e3]|rw[e4]|rw[e6]);conv=>whnf))
    exact⟨M+2 - (i+1),cE [(38,2001)],[0,1,5,6,7],[38],aa,av,i+1,_,_,rfl,aa,iC,nv,aa,aa,YK,ca,rfl,by rw[←Zw];rfl⟩
   ·have t2:decide ((i:Int)<((td b).length:Int))=false:=decide_eq_false aa
    have t3:decide (c>0)=true:=decide_eq_true aa
    (repeat((first|refine ag rfl rfl ?_|refine aC Q3 ?_|refine bX Q3 ?_|refine aS (by assumption) ?_|refine ah dP ?_|refine ah Q8 ?_|rw[t1]|rw[t2]|rw[t3]|rw[e1]|rw[e2]|rw[e3]|rw[e4]|rw[e6]);conv=>whnf))
    exact⟨M+2 - (i+1),cE [(38,2001)],[0,1,5,6,7],[38],aa,av,i+1,_,_,rfl,aa,iC,nv,aa,aa,YK,ca,rfl,by rw[←Zw];rfl⟩
 ·have t1:decide ((i:Int)<((td a).length:Int))=false:=decide_eq_false aa
  have t2:decide ((i:Int)<((td b).length:Int))=false:=decide_eq_false aa
  have t3:decide (c>0)=false:=decide_eq_false aa
  have hc:c=0:=aa
  subst hc
  rw[mc a i aa,mc b i aa]at hv
  have k1:=BA L aa hw
  rw[show(bq L L.length).toNat=a+b by rw[hl];omega]at k1
  refine oU 5 2001 (fun _ h=>h) rfl rfl hl.symm ?_
  refine ey.of hE ?_
  conv=>whnf
  (repeat((first|refine ag rfl rfl ?_|refine ae rfl rfl ?_|refine aS (by assumption) ?_|refine ah dP ?_|refine ah Q8 ?_|rw[t1]|rw[t2]);conv=>whnf));exact Q4
theorem KM {P vL va vb c x y D C:Int} (h:vL - c*P=va - vb) (hD:x - y - c=D - 10000*C):vL+D*P - C*(P*10000)=va+x*P - (vb+y*P):=by
 have h2:(x - y - c)*P=(D - 10000*C)*P:=by rw[hD]
 grind
theorem GD (a b:Nat) (rY:b≤a) (ha:(td a).length<1073741824):ab Tryz.prog 321 [nN a,nN b] [] (nN (a - b)) [] []:=by
 have wa:=iT a
 have wb:=iT b
 have Qx:=fC rY
 refine fZ [] Tryz.func321 ?_
 intro w0 ρ0 hE
 conv=>whnf
 skip
 refine ct (t:=5) (k:=2001) (s:=1) (blk:=y7 []) rfl rfl rfl ?_
 refine dE hE (fun k=>k) [0,1,5,6,7] [2001] (fun m fr hp=>∃(i:Nat) (L:List Int) (c:Int),m=(td a).length - i∧i≤(td a).length∧L.length=i∧W4 L∧0≤c∧c≤1∧bq L i - c*10000^i=bq (td a) i - bq (td b) i∧
  fr=[(0,nN a),(1,nN b),(5,.aO 2001 1 0 i),(6,.val (.int .i64 c)),(7,.val (.int .i64 (i:Nat)))]∧hp=[(2001,y7 L)]) (td a).length ?_ ?_ ?_
 ·kernel_rfl
 ·exact⟨0,[],0,rfl,aa,rfl,(fun i=>by simp),aa,aa,rfl,rfl,rfl⟩
 rintro m _ _ ⟨i,L,c,rfl,hi,hl,hw,hc0,RG,hv,rfl,rfl⟩
 by_cases aE:i<(td a).length
 ·have t1:decide ((i:Int)<((td a).length:Int))=true:=decide_eq_true aa
  have k2:=Ou b i aa
  have hx:=wa i
  have hy:=wb i
  generalize hxe:(td a).getD i 0=x at*
  generalize hye:(td b).getD i 0=y at*
  have e1:IntKind.i64.wrap (x - y)=x - y:=wrap_i64 aa aa
  have e2:IntKind.i64.wrap (x - y - c)=x - y - c:=wrap_i64 aa aa
  have e6:=br (i:=i) aa
  have ud:∀D C,x - y - c=D - 10000*C→bq (L++[D]) (i+1) - C*10000^(i+1)=bq (td a) (i+1) - bq (td b) (i+1):=fun D C hD=>by
   have h1:=z8 L D
   rw[hl]at h1
   rw[h1,bq,bq,Int.pow_succ,hxe,hye]
   exact KM hv hD
  have iC:∀D:Int,(L++[D]).length=i+1:=fun D=>by rw[List.length_append,hl];rfl
  have Zw:=fun D=>xT (d:=D) hl
  refine ey.of hE ?_
  conv=>whnf
  by_cases hn:x - y - c<0
  ·have t2:decide (x - y - c<0)=true:=decide_eq_true hn
   have e3:IntKind.i64.wrap (x - y - c+10000)=x - y - c+10000:=wrap_i64 aa aa
   (repeat((first|refine ag rfl rfl ?_|refine aq av ?_|refine aC Q3 ?_|refine aS (by assumption) ?_|refine ah Q8 ?_|refine ah Q5 ?_|refine ah jw ?_|rw[t1]|rw[hxe]|rw[e1]|rw[e2]|rw[t2]|rw[e3]|rw[e6]);conv=>whnf))
   exact⟨(td a).length - (i+1),cE [(32,2001)],[0,1,5,6,7],[32],aa,av,i+1,_,1,rfl,aa,iC _,By hw (show 0≤x - y - c+10000 by omega) aa,aa,aa,ud _ _ aa,rfl,by rw[←Zw];rfl⟩
  ·have t2:decide (x - y - c<0)=false:=decide_eq_false hn
   (repeat((first|refine ag rfl rfl ?_|refine ae rfl rfl ?_|refine aq av ?_|refine aC Q3 ?_|refine aS (by assumption) ?_|refine ah Q8 ?_|refine ah Q5 ?_|refine ah jw ?_|rw[t1]|rw[hxe]|rw[e1]|rw[e2]|rw[t2]|rw[e6]);conv=>whnf))
   exact⟨(td a).length - (i+1),cE [(32,2001)],[0,1,5,6,7],[32],aa,av,i+1,_,0,rfl,aa,iC _,By hw (show 0≤x - y - c by omega) aa,aa,aa,ud _ _ aa,rfl,by rw[←Zw];rfl⟩
 ·have t1:decide ((i:Int)<((td a).length:Int))=false:=decide_eq_false aa
  rw[mc a i aa,mc b i aa]at hv
  have h1:=nO hw i
  have hc:c=0:=by
   rcases(show c=0∨c=1 by omega)with h|h
   ·exact h
   ·subst h;omega
  subst hc
  have k1:=BA L aa hw
  rw[show(bq L L.length).toNat=a - b by rw[hl];omega]at k1
  refine oU 5 2001 (fun _ h=>h) rfl rfl hl.symm ?_
  refine ey.of hE ?_
  conv=>whnf
  (repeat((first|refine ae rfl rfl ?_|refine aS (by assumption) ?_|refine ah Q8 ?_|rw[t1]);conv=>whnf));exact Q4
theorem HR {V P c x y o D C R:Int} (hV:V+c*P=R) (hD:o+x*y+c=D+10000*C):V+(D - o)*P+C*(P*10000)=R+x*y*P:=by
 have h2:(o+x*y+c)*P=(D+10000*C)*P:=by rw[hD]
 grind
theorem HS {i k l:Nat} (h:(10000:Int)^i<10000^k):i<k:=by
 rcases Nat.lt_or_ge i k with g|g
 ·exact g
 ·have:(10000:Nat)^k≤10000^i:=Nat.pow_le_pow_right aI g
  have h2:((10000^k:Nat):Int)≤((10000^i:Nat):Int):=Int.ofNat_le.2 this
  rw[jQ,jQ]at h2
  omega
theorem Dl (a b:Nat) (ha:(td a).length<536870912) (hb:(td b).length<536870912):ab Tryz.prog 245 [nN a,nN b] [] (nN (a*b)) [] []:=by
 have wa:=iT a
 have wb:=iT b
 have ela:IntKind.i64.wrap (((td a).length:Int)+((td b).length:Int))=(((td a).length+(td b).length:Nat):Int):=by rw[wrap_i64 aa aa];omega
 refine fZ [] Tryz.func245 ?_
 intro w0 ρ0 hE
 conv=>whnf
 (repeat((first|refine aC Q3 ?_|refine ah Q8 ?_|rw[ela]|rw[Int.toNat_natCast]);conv=>whnf))
 generalize hla:(td a).length=la at*
 generalize Qx:(td b).length=lb at*
 refine dE hE (fun k=>k) [0,1,5,6] [15] (fun m fr hp=>∃(i:Nat) (out:List Int),m=la - i∧i≤la∧out.length=la+lb∧W4 out∧bq out (la+lb)=bq (td a) i*b∧
  fr=[(0,nN a),(1,nN b),(5,.aO 15 1 0 (la+lb)),(6,.val (.int .i64 (i:Nat)))]∧hp=[(15,y7 out)]) la ?_ ?_ ?_
 ·kernel_rfl
 ·refine⟨0,List.replicate (la+lb) 0,rfl,Nat.zero_le _,List.length_replicate,GC (fun x hx=>by rw[(List.mem_replicate.1 hx).2];omega), ?_,rfl,rfl⟩
  rw[kW (k:=0) (fun i _ _=>bB) (Nat.zero_le _)];simp[bq]
 rintro m _ _ ⟨i,out,rfl,hi,MN,J0,hov,rfl,rfl⟩
 by_cases aE:i<la
 ·have t1:decide ((i:Int)<(la:Int))=true:=decide_eq_true aa
  have e9:=br (i:=i) aa
  have hx:=wa i
  have agl:bq (td a) (i+1)*b<10000^(i+1+lb):=by
   have h1:=nO wa (i+1)
   have h2:(b:Int)<10000^lb:=by rw[←jQ];exact Int.ofNat_lt.2 (gP aa)
   have h3:=eB wa (i+1)
   have h4:bq (td a) (i+1)*b≤bq (td a) (i+1)*10000^lb:=Int.mul_le_mul_of_nonneg_left aa h3
   have h5:bq (td a) (i+1)*10000^lb<10000^(i+1)*10000^lb:=Int.mul_lt_mul_of_pos_right h1 (kU lb)
   rw[Int.pow_add];omega
  have ad3:bq (td a) (i+1)=bq (td a) i+(td a).getD i 0*10000^i:=rfl
  have agm:i<(td a).length:=aa
  generalize hxe:(td a).getD i 0=x at*
  refine ey.of hE ?_
  conv=>whnf
  (repeat((first|refine ag rfl rfl ?_|refine ah Q8 ?_|rw[hla]|rw[t1]);conv=>whnf))
  refine aj hE (fun k=>k) [0,1,5,6,7,8] [15] (fun m fr hp=>∃(k:Nat) (out:List Int) (c:Int),m=lb+2 - k∧k≤lb+1∧out.length=la+lb∧W4 out∧0≤c∧c≤9999∧bq out (la+lb)+c*10000^(i+k)=bq (td a) i*b+x*bq (td b) k*10000^i∧
   fr=[(0,nN a),(1,nN b),(5,.aO 15 1 0 (la+lb)),(6,.val (.int .i64 (i:Nat))),(7,.val (.int .i64 c)),(8,.val (.int .i64 (k:Nat)))]∧hp=[(15,y7 out)]) (lb+2) ?_ ?_ ?_
  ·kernel_rfl
  ·exact⟨0,out,0,rfl,aa,MN,J0,aa,aa,by rw[hov];simp[bq],rfl,rfl⟩
  clear hov J0 MN out
  rintro m _ _ ⟨k,out,c,rfl,hk,MN,J0,hc0,RG,hov,rfl,rfl⟩
  have YL:lb≤k→bq out (la+lb)+c*10000^(i+k)=bq (td a) (i+1)*b:=fun h=>by
   rw[hov,mc b k aa,ad3];grind
  have Zx:0<c→k≤lb:=fun h=>by
   rcases Nat.lt_or_ge lb k with g|g
   ·have h1:=YL aa
    have h2:=eB J0 (la+lb)
    have h3:1*(10000:Int)^(i+k)≤c*10000^(i+k):=Int.mul_le_mul_of_nonneg_right aa (Int.le_of_lt (kU _))
    have h4:(10000:Int)^(i+k)<10000^(i+1+lb):=aa
    have:=HS (l:=0) h4
    omega
   ·exact g
  by_cases hgo:k<lb∨0<c
  ·have Ci:k≤lb:=by
    rcases hgo with h|h
    ·omega
    ·exact Zx h
   have RM:i+k<out.length:=aa
   have k2:=Ou b k aa
   have hy:=wb k
   have ho:=J0 (i+k)
   generalize hye:(td b).getD k 0=y at*
   generalize hoe:out.getD (i+k) 0=o at*
   have EP:0≤x*y:=Int.mul_nonneg hx.1 hy.1
   have ad4:x*y≤9999*9999:=by
    have h1:x*y≤9999*y:=Int.mul_le_mul_of_nonneg_right aa hy.1
    omega
   have e1:IntKind.i64.wrap ((i:Int)+(k:Int))=((i+k:Nat):Int):=by rw[wrap_i64 aa aa];omega
   have e2:IntKind.i64.wrap (x*y)=x*y:=wrap_i64 aa aa
   have e3:IntKind.i64.wrap (o+x*y)=o+x*y:=wrap_i64 aa aa
   have e4:IntKind.i64.wrap (o+x*y+c)=o+x*y+c:=wrap_i64 aa aa
   have e5:(o+x*y+c).tmod 10000=(o+x*y+c) % 10000:=Int.tmod_eq_emod_of_nonneg aa
   have e6:IntKind.i64.wrap ((o+x*y+c).tdiv 10000)=(o+x*y+c)/10000:=by rw[Int.tdiv_eq_ediv_of_nonneg aa];exact wrap_i64 aa aa
   have e7:(o+x*y+c).tdiv 10000=(o+x*y+c)/10000:=Int.tdiv_eq_ediv_of_nonneg aa
   have e8:=br (i:=k) aa
   have hD:o+x*y+c=(o+x*y+c) % 10000+10000*((o+x*y+c)/10000):=(Int.emod_add_mul_ediv _ _).symm
   have hC0:0≤(o+x*y+c)/10000:=aa
   have hC1:(o+x*y+c)/10000≤9999:=aa
   have hD0:0≤(o+x*y+c) % 10000:=aa
   have Nk:(o+x*y+c) % 10000<10000:=aa
   have eX:bq (out.set (i+k) ((o+x*y+c) % 10000)) (la+lb)+(o+x*y+c)/10000*10000^(i+(k+1))=bq (td a) i*b+x*bq (td b) (k+1)*10000^i:=by
    rw[xR aa RM,hoe,show i+(k+1)=i+k+1 from rfl,Int.pow_succ,bq,hye]
    have:=HR hov hD
    have e:x*(bq (td b) k+y*10000^k)*10000^i=x*bq (td b) k*10000^i+x*y*10000^(i+k):=by rw[Int.pow_add];grind
    rw[e];omega
   have iC:(out.set (i+k) ((o+x*y+c) % 10000)).length=la+lb:=by rw[List.length_set];exact MN
   have nv:=J0.set (i:=i+k) hD0 Nk
   clear YL Zx hov EP ad4 hD
   conv=>whnf
   by_cases g1:k<lb
   ·have t2:decide ((k:Int)<(lb:Int))=true:=decide_eq_true aa
    (repeat((first|refine ag rfl rfl ?_|refine ae rfl rfl ?_|refine aq av ?_|refine bg Q3 ?_|refine aC Q3 ?_|refine bX Q3 ?_|refine aS (by assumption) ?_|refine ah dO ?_|refine ah Q8 ?_|refine ah Q5 ?_|refine ah jw ?_|rw[Qx]|rw[t2]|rw[hxe]|rw[e1]|rw[hoe]|rw[e2]|rw[e3]|rw[e4]|rw[e5]|rw[e6]|rw[e8]|rw[Int.toNat_natCast]|rw[Nat.zero_add]);conv=>whnf))
    exact⟨lb+2 - (k+1),fun k=>k,[0,1,5,6,7,8],[15],aa,av,k+1,_,_,rfl,aa,iC,nv,hC0,hC1,eX,rfl,rfl⟩
   ·have t2:decide ((k:Int)<(lb:Int))=false:=decide_eq_false aa
    have t3:decide (c>0)=true:=decide_eq_true aa
    (repeat((first|refine ag rfl rfl ?_|refine aq av ?_|refine bg Q3 ?_|refine aC Q3 ?_|refine bX Q3 ?_|refine aS (by assumption) ?_|refine ah dP ?_|refine ah Q8 ?_|refine ah Q5 ?_|refine ah jw ?_|rw[Qx]|rw[t2]|rw[t3]|rw[hxe]|rw[e1]|rw[hoe]|rw[e2]|rw[e3]|rw[e4]|rw[e5]|rw[e6]|rw[e8]|rw[Int.toNat_natCast]|rw[Nat.zero_add]);conv=>whnf))
    exact⟨lb+2 - (k+1),fun k=>k,[0,1,5,6,7,8],[15],aa,av,k+1,_,_,rfl,aa,iC,nv,hC0,hC1,eX,rfl,rfl⟩
  ·have t2:decide ((k:Int)<(lb:Int))=false:=decide_eq_false aa
   have t3:decide (c>0)=false:=decide_eq_false aa
   have hc:c=0:=aa
   have hv:=YL aa
   rw[hc,Int.zero_mul,Int.add_zero]at hv
   conv=>whnf
   (repeat((first|refine ag rfl rfl ?_|refine ae rfl rfl ?_|refine ah dP ?_|refine ah Q8 ?_|rw[Qx]|rw[t2]|rw[t3]|rw[e9]);conv=>whnf))
   exact⟨la - (i+1),fun k=>k,[0,1,5,6],[15],aa,av,i+1,out,rfl,aa,MN,J0,hv,rfl,rfl⟩
 ·have t1:decide ((i:Int)<(la:Int))=false:=decide_eq_false aa
  have hI:i=la:=aa
  subst hI
  rw[mc a i aa]at hov
  have k1:=BA out aa J0
  rw[show(bq out out.length).toNat=a*b by rw[MN,hov,←Int.natCast_mul];exact Int.toNat_natCast _]at k1
  refine oU 5 15 (fun _ h=>h) rfl rfl MN.symm ?_
  refine ey.of hE ?_
  conv=>whnf
  (repeat((first|refine ae rfl rfl ?_|refine aS (by assumption) ?_|refine ah Q8 ?_|rw[hla]|rw[t1]);conv=>whnf));exact Q4
end Go.Proofs.YtfpagioknjjacaaGreatDoor
