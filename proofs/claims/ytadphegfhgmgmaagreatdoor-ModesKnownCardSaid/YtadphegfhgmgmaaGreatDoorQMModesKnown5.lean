/- The texts Ek, Em, Ga, Gb, Gc, Gd, Ge, Shelf, Ha, Hb, Pa, Hd, Ja, Na, Nb, Nc, Nd, Ne, Nf, Ng, Nh, Nk, Nl, Ma, Mb, Mc, Mi, Nn, Np, Ab, Ac, Jb, Ta, Tb. -/
import Derived.Shelf.Strings.Builder1
import Derived.Shelf.Strings.Builder2
import Derived.Shelf.Strings.OnBuilder
import Derived.Shelf.Small.Bits
import Derived.Shelf.Strings.BuilderF
import Derived.Shelf.Strings.Builder2Cap
import Derived.Shelf.Strconv.Itoa0
import Derived.Shelf.Strconv.Itoa1
import Derived.Shelf.LaysM
import Derived.Shelf.Strconv.Itoa2
import Derived.Shelf.Strconv.Itoa3
import Derived.Shelf.Strings.Prefix
import Derived.Shelf.Bits.Mul64
import Derived.Shelf.Strings.Repeat
import Derived.Ground.Names2Prog
import Derived.Shelf.Slices.ReverseS
import Derived.Shelf.Slices.Cells
import Derived.Test.YtadphegfhgmgmaaGreatDoorProg
import Derived.Lib.Walk
import Derived.Lib.ItoaMem
import Derived.Lib.AppendIntMem
import Derived.WalkKit
import Derived.BigCall
import Derived.BigGuard
import Derived.Test.YtadphegfhgmgmaaGreatDoorQMModesKnown4
import Derived.Test.YtadphegfhgmgmaaGreatDoorQMModesKnown2
import Derived.Test.YtadphegfhgmgmaaGreatDoorQMModesKnown3
set_option linter.unusedSimpArgs false
set_option linter.unusedVariables false
set_option maxHeartbeats 8000000
set_option maxRecDepth 100000
open And renaming intro->Ξ
open Array renaming size_replicate->agp
open Bool renaming and_true->aiX,false_and->alJ,false_ne_true->afV,true_and->alQ
open ByteArray renaming empty->ajo
open Classical renaming byContradiction->Ο
open Go.IntKind renaming i64->ε,u64->Ζ
open Go.Lib renaming TabIs->ags,below_grow->alT,decDigits->ώ,decDigits_length->akJ,join->aeO,nDigits->af9,pow10Tab->aha,repeatL->akH,zeros24->aiH
open Go.Lit renaming int->Ϸ
open Go.Program renaming arrayLen->akI
open Go.Proofs.Lays renaming n105->al1,n156->alY,n283->alZ,n285->al0
open Go.Proofs.LaysM renaming n171->alS,n284->alR
open Go.RowKit renaming Below->aeR
open Go.RowKit.Below renaming refl->afO
open Go.Shelf renaming Ren->agt
open Go.Value renaming int->adt
open Int renaming mul_ediv_cancel_left->ajX,sign_eq_one_of_pos->ϰ,sign_mul->amc,toNat_natCast->ι
open List renaming append_assoc->abA,countP_cons->alk,count_cons->alv,count_eq_zero->akW,ext_getElem->aju,filter_append->akU,foldl_append->ala,getD_eq_getElem?_getD->δ,getElem?_append_left->ϳ,getElem?_eq_getElem->φ,getElem?_set->aiZ,getElem?_set_ne->agO,getElem_mem->ajg,getElem_of_mem->akB,length_append->ξ,length_cons->ϊ,length_map->Χ,length_set->ϒ,length_zipWith->ahj,map_cons->ϲ,map_nil->af6,map_set->agu,mem_cons->Λ,mem_cons_of_mem->Δ,mem_cons_self->η,mem_filter->ajB,mem_range->af4,mem_singleton->μ,nodup_cons->aiA,pairwise_iff_getElem->ahz,pairwise_lt_range->aj4,range->Η,range_succ->ahb,replicate->θ,take_add_one->aij,zipWith->ω
open List.Pairwise renaming filter->ajm
open Nat renaming add_comm->afk,add_zero->abC,beq->ϋ,div_eq_of_lt->Ϯ,eq_zero_or_pos->acX,gcd->ac2,gcd_comm->ak9,le_of_not_lt->agK,le_refl->ζ,le_trans->Ι,lt_irrefl->afU,lt_of_le_of_lt->ϓ,lt_of_lt_of_le->Ϟ,lt_of_not_le->ajO,lt_or_gt_of_ne->ahw,lt_succ_self->gq,lt_trans->ai7,lt_trichotomy->ai1,mod_eq_of_lt->Υ,mod_lt->ab8,mul_comm->Ϣ,mul_le_mul_right->ο,mul_ne_zero->agI,pow_succ->ϙ,succ_mul->ϯ,zero_add->υ,zero_le->Γ
open Ne renaming symm->ahf
open Option renaming getD_some->aiY
open Option.some renaming inj->abU
open Prod.mk renaming injEq->ς
open Rat renaming div_def->Ϡ,intCast_add->alF,intCast_le_intCast->ago,intCast_mul->ail,intCast_neg->alH,intCast_sub->alI,inv_mul_rev->alK,le_refl->Ϥ,mul_comm->afY,mul_eq_zero->acO,mul_inv_cancel->Ν,mul_nonneg->π,mul_pos->ϡ,natCast_inj->alG,not_lt->agi
open UInt8 renaming ofNat->aal
namespace Go.Proofs.YtadphegfhgmgmaaGreatDoor
open Go.Sx
theorem PI (a b:Nat) (ha:(af a).length<274877906944) (hb:(af b).length<274877906944) (h0:b≠0):
  C0 148 [.nat a,.nat b] (.bQ [.nat (a/b),.nat (a % b),.val (.bool true)]):=by
 by_cases hs:a<18446744073709551616/\b<18446744073709551616
 ·exact aet a b hs.1 hs.2 h0
 have kz:=yM b;rw[decide_eq_false h0]at kz;have kc:=GC a b aa aa;have kb:=jt b 1002 aa;have ka:=jt a 1001 aa;by_cases aE:a<b
 ·have t1:Hid (decide (((a:Int) - b).sign<0)=true):=show decide (((a:Int) - b).sign<0)=true from decide_eq_true (Int.sign_neg_iff.2 aa)
  rw[Ϯ aE,Υ aE];refine bB [] Tryz.func148 ?_;intro W0 w0 ρ0 hE;conv=>whnf
  (repeat((first|refine ag rfl rfl ?_|refine ae rfl rfl ?_|refine aq aD ?_|refine aN aJ ?_|rw[t1.out]);conv=>whnf));exact au.refl _
 have t1:Hid (decide (((a:Int) - b).sign<0)=false):=show decide (((a:Int) - b).sign<0)=false from decide_eq_false Q33
 have q9:¬a<18446744073709551616:=aa;have hlen:(af b).length<=(af a).length:=iX (ϓ (agK aE) (cp a));have hA:cC a=af a:=if_neg q9;rw[hA]at ka;have uI:=Jj b;have hb0:(af b).length≠0:=(oH h0).1;have b7:=fJ a;have hvb:=AF b;have hbl:=cN b;have ag9:(cC b).length<549755813888:=by
  have:=xi b (M:=274877906944) aa aa;omega
 by_cases w9:(af b).length=1
 ·rw[w9]at kb hvb uI;obtain⟨y,hy⟩:=Int.eq_ofNat_of_zero_le (oM b 0).1;have YR:=(oM b 0).2;have hyb:y=b:=by
   rw[aA,aA,Int.pow_zero,hy]at hvb;omega
  subst hyb;have ks:=K4 (af a) (af a).length (ζ _) aa (aY a) y h0 aa 1001 2001 ax true a b7;have hq:(aA (bK (a/y) (af a).length) (af a).length).toNat=a/y:=by
   rw[iY,Υ (ϓ (Nat.div_le_self _ _) (cp a))];exact ι _
  have ko:=xg (bK (a/y) (af a).length) (af a).length (by rw[dj];exact ζ _) (by rw[dj];omega) (iq _ _) 2001 true;rw[hq]at ko;have hr:a % y<y:=ab8 _ aa;have i1:Hid (Ζ.wrap ((a % y:Nat):Int)=((a % y:Nat):Int)):=show Ζ.wrap ((a % y:Nat):Int)=((a % y:Nat):Int)from eY aa
  have i2:Hid ((cC y).getD (0+Int.toNat 0) 0=(y:Int)):=show(cC y).getD (0+Int.toNat 0) 0=(y:Int)from hy
  refine bB [] Tryz.func148 ?_;intro W0 w0 ρ0 hE;conv=>whnf
  (repeat(first|(refine ae rfl rfl ?_;conv=>whnf)|(refine aN aJ ?_;conv=>whnf)|(rw[t1.out];conv=>whnf)))
  rw[dO,decide_eq_false q9]
  (repeat((first|refine ag rfl rfl ?_|refine ae rfl rfl ?_|refine aq aD ?_|refine aX Q3 ?_|refine ao Q3 ?_|refine oe aJ rfl ?_|refine od aJ rfl ?_|refine KN aJ rfl rfl ?_|rw[i2.out]|rw[i1.out]);conv=>whnf))
  refine xZ (λ_ _ h=>h) rfl (vO ?_ rfl aa) rfl (λ_ _ h=>h) rfl;rfl
 ·have PJ:2<=(af b).length:=aa;have YT:(cC b).getD ((af b).length - 1) 0≠0:=uI.resolve_left hb0;have hbg:4294967296^((af b).length - 1)<=b:=by
   have:=vI (oM b) YT;rw[show(af b).length - 1+1=(af b).length from aa,hvb,<-db]at this;omega
  have Z1:a/b<4294967296^((af a).length+1 - (af b).length):=by
   refine Nat.div_lt_of_lt_mul (Ϟ (cp a) ?_);have e:4294967296^(af a).length=4294967296^((af b).length - 1)*4294967296^((af a).length+1 - (af b).length):=by rw[<-Nat.pow_add];congr 1;omega
   rw[e];exact ο _ hbg
  have hrb:a % b<4294967296^((af a).length+1):=ϓ (Nat.mod_le _ _) (Ϟ (cp a) (Nat.pow_le_pow_right ax aa));have kl:=aL.vF (abk (af a) (cC b) (af a).length (af b).length a b (ζ _) hbl aa ag9 (aY a) (oM b) b7 hvb PJ YT hlen 1001 1002 2001 2002 ax ax ax) (fk:=[(1001,⟨23,true,.ints .u32 (af a)⟩),(1002,⟨23,true,.ints .u32 (cC b)⟩)]);have ko1:=xg (bK (a/b) ((af a).length+1 - (af b).length)) ((af a).length+1 - (af b).length) (by rw[dj];exact ζ _) (by rw[dj];omega) (iq _ _) 2001 true;have ko2:=xg (bK (a % b) ((af a).length+1)) ((af a).length+1) (by rw[dj];exact ζ _) (by rw[dj];omega) (iq _ _) 2002 true;rw[iY,Υ Z1,ι]at ko1;rw[iY,Υ hrb,ι]at ko2;have t2:Hid ((((af b).length:Int)==1)=false):=show(((af b).length:Int)==1)=false from by simp;omega
  have t3:Hid (decide (((af b).length:Int)=1)=false):=show decide (((af b).length:Int)=1)=false from by simp;omega
  refine bB [] Tryz.func148 ?_;intro W0 w0 ρ0 hE;conv=>whnf
  (repeat(first|(refine ae rfl rfl ?_;conv=>whnf)|(refine aN aJ ?_;conv=>whnf)|(rw[t1.out];conv=>whnf)))
  rw[dO,decide_eq_false q9]
  (repeat((first|refine ae rfl rfl ?_|refine oe aJ rfl ?_|refine od aJ rfl ?_|refine⟨[_,_],_,[_,_],[],aJ,gC rfl rfl,VC rfl rfl,ar, ?_⟩|rw[t2.out]);conv=>whnf))
  exact au.refl _
theorem YU (a b:Nat) (ha:(af a).length<274877906944) (hb:(af b).length<274877906944):
  C0 147 [.nat a,.nat b] (.nat (ac2 a b)):=by
 refine bB [] Tryz.func147 ?_;intro W0 w0 ρ0 hE;conv=>whnf
 refine av hE (λk=>k) [2,3,4] [2,3,4] (λm fr hp=>∃x,(af x).length<274877906944/\(af m).length<274877906944/\ac2 x m=ac2 a b/\fr=[(2,.ptr 2 0 0 0),(3,.ptr 3 0 0 0),(4,.ptr 4 0 0 0)]/\hp=[(2,⟨43,true,.one [.nat x]⟩),(3,⟨43,true,.one [.nat m]⟩),(4,⟨43,true,.one [.nat 0]⟩)]) b ?_ ?_ ?_
 ·kernel_rfl
 ·exact⟨a,ha,hb,rfl,rfl,rfl⟩
 rintro m _ _ ⟨x,hx,hm,hg,rfl,rfl⟩;have kz:=yM m;by_cases h0:m=0
 ·rw[decide_eq_true h0]at kz;subst h0;rw[<-hg,Nat.gcd_zero_right];conv=>whnf
  (repeat(first|(refine ae rfl rfl ?_;conv=>whnf)|(refine aN aJ ?_;conv=>whnf)));exact au.refl _
 ·rw[decide_eq_false h0]at kz;have kd:=PI x m hx hm h0;have aE:=ab8 x (Nat.pos_of_ne_zero h0);conv=>whnf
  (repeat(first|(refine ag rfl rfl ?_;conv=>whnf)|(refine aq aD ?_;conv=>whnf)|(refine aN aJ ?_;conv=>whnf)))
  refine⟨x % m,λk=>k,[2,3,4],[2,3,4],aE,aD,m,hm, ?_, ?_,rfl,rfl⟩
  ·exact ϓ (iX (ai7 aE (cp m))) hm
  ·rw[<-hg,ak9 m,<-Nat.gcd_rec,ak9]
theorem jQ {n:Nat} (h:sz n<=1073741824):(af n).length<274877906944:=by
 have:=KZ (n:=n) (M:=33554432) aa;omega
theorem pN:lh 1073741824 where
 sQ:=ax
 cmp a b ha hb:=GC a b (by have:=jQ ha;omega) (by have:=jQ hb;omega)
 add a b h:=YL a b (by have:=jQ (n:=a) (Ι (fY aa) h);omega) (by have:=jQ (n:=b) (Ι (fY aa) h);omega)
 sub a b ha h:=YM a b (by have:=jQ ha;omega) h
 aa4 a b hb h:=Px a b (by have:=jQ hb;have:=iX (ai7 h (cp b));omega) (by have:=jQ hb;omega) h
 mul a b h:=YN a b (jQ aa) (jQ aa)
 div a b ha hb h0:=PI a b (jQ ha) (jQ hb) h0
 aa5 a:=Pq a
 gcd a b ha hb:=YU a b (jQ ha) (jQ hb)
def fs (q:Rat):Nat:=ui q+1
theorem fW (a b:Rat):fs (a+b)<=fs a+fs b:=by have:=@KU a b;unfold fs;omega
theorem rh (a b:Rat):fs (a - b)<=fs a+fs b:=by have:=@Vs a b;unfold fs;omega
theorem cH (a b:Rat):fs (a*b)<=fs a+fs b:=by have:=@Vr a b;unfold fs;omega
theorem ju (a:Rat):fs (-a)=fs a:=by unfold fs;rw[KV]
theorem PK (a:Rat):fs a⁻¹<=fs a:=by have:=KW a;unfold fs;omega
theorem rl (a b:Rat):fs (a/b)<=fs a+fs b:=by rw[Ϡ];have h1:=cH a b⁻¹;have h2:=PK b;omega
theorem et:fs 0=2:=by decide+kernel
theorem jv:fs 1=2:=by decide+kernel
theorem PM (q:Rat):2<=fs q:=by have:=dG q;have:=xf q.den q.den_nz;unfold fs;omega
theorem pO {n:Int} (h0: -9223372036854775808<=n) (h1:n<9223372036854775808):fs (n:Rat)<=65:=by
 have:=yN (n:=n) (k:=64) (aa8 h0 h1) ax;unfold fs;omega
def jC (q:Rat):Rat:=if q.num<0 then -q else q
theorem PO (q:Rat):(jC q).num=(q.num.natAbs:Int):=by
 unfold jC;split
 ·rw[Rat.neg_num];omega
 ·omega
theorem PQ (q:Rat):(jC q).den=q.den:=by unfold jC;split<;>simp
theorem PR (q:Rat):fs (jC q)=fs q:=by
 unfold jC;split
 ·exact ju q
 ·rfl
theorem K7 (a b:Rat) (h:fs a+fs b<=1073741824):C0 33 [.frac a,.frac b] (.frac (a+b)):=PF pN a b (by unfold fs at h;omega)
theorem K8 (a b:Rat) (h:fs a+fs b<=1073741824):C0 37 [.frac a,.frac b] (.frac (a*b)):=Jg pN a b (by unfold fs at h;omega)
theorem aeH (a b:Rat) (h:fs a+fs b<=1073741824):C0 43 [.frac a,.frac b] (.frac (a - b)):=by
 have k1:=pK b;have k2:=K7 a (-b) (by rw[ju];exact h);rw[<-Rat.sub_eq_add_neg]at k2;refine bB [] Tryz.func43 ?_;intro W0 w0 ρ0 hE;conv=>whnf
 (repeat(first|(refine aq aD ?_;conv=>whnf)|(refine aN aJ ?_;conv=>whnf)));exact Q4
theorem YV (q:Rat):C0 34 [.frac q] (.frac (jC q)):=by
 have k1:=Gx q.num;have k2:=iN false q.num.natAbs;rw[show signed false q.num.natAbs=(q.num.natAbs:Int)from rfl]at k2;refine bB [] Tryz.func34 ?_;intro W0 w0 ρ0 hE;conv=>whnf
 (repeat(first|(refine aq aD ?_;conv=>whnf)|(refine aN aJ ?_;conv=>whnf)))
 exact nO (PO q).symm (by rw[PQ])
theorem Ju (a b:Int) (ha:sz a.natAbs<1073741824) (hb:sz b.natAbs<1073741824):C0 105 [.int a,.int b] (.val (.int .i64 (a - b).sign)):=by
 have k1:=Pn pN a b ha hb;have k2:=En (a - b);refine bB [] Tryz.func105 ?_;intro W0 w0 ρ0 hE;conv=>whnf
 (repeat(first|(refine aN aJ ?_;conv=>whnf)));exact Q4
theorem Ev (a b:Rat):(a - b).num.sign=(a.num*b.den - b.num*a.den).sign:=by
 rw[Rat.sub_def',num_mkRat (agI a.den_nz b.den_nz)];have hg:ac2 (a.num*b.den - b.num*a.den).natAbs (a.den*b.den)≠0:=λh=>agI a.den_nz b.den_nz (Nat.gcd_eq_zero_iff.1 h).2
 have hd:((ac2 (a.num*b.den - b.num*a.den).natAbs (a.den*b.den):Nat):Int) ∣ (a.num*b.den - b.num*a.den):=Int.ofNat_dvd_left.2 (Nat.gcd_dvd_left _ _);generalize ac2 (a.num*b.den - b.num*a.den).natAbs (a.den*b.den)=g at*;obtain⟨c,hc⟩:=hd;rw[hc,ajX _ aa,amc,ϰ (show(0:Int)<g by omega),Int.one_mul]
theorem yc (a b:Rat) (h:fs a+fs b<=1073741824):C0 42 [.frac a,.frac b] (.val (.int .i64 (a - b).num.sign)):=by
 have ok:=pN;have h':ui a+ui b+2<=1073741824:=by unfold fs at h;omega
 have ha:=dJ a;have ha':=dG a;have hb:=dJ b;have ie:=dG b;have s1:sz a.den<=1073741824:=aa;have s2:sz b.den<=1073741824:=aa;have e:=Ev a b;refine bB [] Tryz.func42 ?_;intro W0 w0 ρ0 hE;conv=>whnf
 (repeat(first|(rw[υ];conv=>whnf)))
 refine⟨_,bV aH cd rfl (ai rfl) (ai rfl) rfl rfl rfl rfl (oK (a.den - 1) (b.den - 1)) mu, ?_⟩;rw[Eu];by_cases hd:a.den=b.den
 ·rw[decide_eq_true hd];have k1:=Ju a.num b.num aa aa;rw[hd,<-Int.sub_mul,amc,ϰ (show(0:Int)<b.den by have:=b.den_pos;omega),Int.mul_one]at e;rw[<-e]at k1;conv=>whnf
  (repeat(first|(refine ag rfl rfl ?_;conv=>whnf)|(refine aN aJ ?_;conv=>whnf)));exact Q4
 ·rw[decide_eq_false hd];have p1:=fU a.num.natAbs b.den;have p2:=fU b.num.natAbs a.den;have r1:=oL ok a s1;have r2:=oL ok b s2;have r3:=uH ok a.num b.den Vo;have r4:=uH ok b.num a.den Vo;have k1:=Ju (a.num*b.den) (b.num*a.den) Q32 Q32;rw[<-e]at k1;conv=>whnf
  (repeat(first|(refine ae rfl rfl ?_;conv=>whnf)|(refine aq aD ?_;conv=>whnf)|(refine aN aJ ?_;conv=>whnf)));exact Q4
def PS (n:Int):Int:=if n<0 then 1 else if n>2048 then 3 else 0
theorem abu (n:Int):C0 221 [.val (.int .i64 n)] (.val (.int .i64 (PS n))):=by
 refine bB [] Tryz.func221 ?_;intro W0 w0 ρ0 hE;conv=>whnf
 unfold PS;by_cases h1:n<0
 ·have t1:decide (n<0)=true:=decide_eq_true h1;rw[if_pos h1]
  (repeat(first|(refine ag rfl rfl ?_;conv=>whnf)|(rw[t1];conv=>whnf)));exact Q4
 ·have t1:decide (n<0)=false:=decide_eq_false h1;rw[if_neg h1];by_cases h2:n>2048
  ·have t2:decide (n>2048)=true:=decide_eq_true h2;rw[if_pos h2]
   (repeat((first|refine ag rfl rfl ?_|refine ae rfl rfl ?_|rw[t1]|rw[t2]);conv=>whnf));exact Q4
  ·have t2:decide (n>2048)=false:=decide_eq_false h2;rw[if_neg h2]
   (repeat(first|(refine ae rfl rfl ?_;conv=>whnf)|(rw[t1];conv=>whnf)|(rw[t2];conv=>whnf)));exact Q4
def pP (ls:List (List Rat)):Int:=if ls.any (λv=>decide (2048<v.length))then 3 else if ls.all (λv=>v.length==(ls.headD []).length)then 0 else 1
theorem K9 (ls:List (List Rat)) (hn:ls.length<1099511627776) (hl:∀v∈ls,v.length<1099511627776):C0 161 [bN 1 bx ls] (.val (.int .i64 (pP ls))):=by
 refine bB [] Tryz.func161 ?_;intro W0 w0 ρ0 hE;conv=>whnf
 (repeat(first|(refine an Q8 ?_;conv=>whnf)))
 refine av hE (λk=>k) [0,2,7,8,9] [] (λm fr hp=>∃i,m=ls.length - i/\i<=ls.length/\(∀j,j<i->decide (2048<(ls.getD j []).length)=false)/\fr=[(0,bN 1 bx ls),(2,.val (.int .i64 0)),(7,bN 1 bx ls),(8,.val (.int .i64 (ls.length:Nat))),(9,.val (.int .i64 (i:Nat)))]/\hp=[]) ls.length ?_ ?_ ?_
 ·kernel_rfl
 ·exact⟨0,rfl,Γ _,(λj hj=>aa),rfl,rfl⟩
 rintro m _ _ ⟨i,rfl,hi,hs,rfl,rfl⟩;conv=>whnf
 by_cases aE:i<ls.length
 ·have t1:=gZ aE;have t2:=bW (i:=i) aa;by_cases hL:2048<(ls.getD i []).length
  ·have t3:decide (((ls.getD i []).length:Int)>2048)=true:=decide_eq_true aa;have e:pP ls=3:=by rw[pP,if_pos (I8 (d:=[]) aE (decide_eq_true hL))]
   rw[e]
   (repeat((first|refine ag rfl rfl ?_|refine an Q8 ?_|refine an Q6 ?_|refine an IG ?_|rw[t1]|rw[t3]);conv=>whnf));exact Q4
  ·have t3:decide (((ls.getD i []).length:Int)>2048)=false:=decide_eq_false aa
   (repeat((first|refine ag rfl rfl ?_|refine ae rfl rfl ?_|refine an Q8 ?_|refine an Q6 ?_|refine an IG ?_|rw[t1]|rw[t3]|rw[t2]);conv=>whnf))
   refine⟨ls.length - (i+1),λk=>k,[0,2,7,8,9],[],aa,aD,i+1,rfl,aE, ?_,rfl,rfl⟩;intro j hj;by_cases w6:j=i
   ·rw[w6];exact decide_eq_false hL
   ·exact hs j aa
 ·have t1:=iH aE;have hI:i=ls.length:=aa;subst hI;have PT:ls.any (λv=>decide (2048<v.length))=false:=Ao [] hs
  (repeat(first|(refine ae rfl rfl ?_;conv=>whnf)|(refine an Q8 ?_;conv=>whnf)|(rw[t1];conv=>whnf)))
  refine av hE (λk=>k) [0,2,17,18,19] [] (λm fr hp=>∃i,m=ls.length - i/\i<=ls.length/\(∀j,j<i->((ls.getD j []).length==(ls.headD []).length)=true)/\fr=[(0,bN 1 bx ls),(2,.val (.int .i64 0)),(17,bN 1 bx ls),(18,.val (.int .i64 (ls.length:Nat))),(19,.val (.int .i64 (i:Nat)))]/\hp=[]) ls.length ?_ ?_ ?_
  ·kernel_rfl
  ·exact⟨0,rfl,Γ _,(λj hj=>aa),rfl,rfl⟩
  rintro m _ _ ⟨i,rfl,hi,hs,rfl,rfl⟩;conv=>whnf
  by_cases aE:i<ls.length
  ·have t1:=gZ aE;have t2:=bW (i:=i) aa;have h0:0<ls.length:=aa;have hh:ls.getD 0 []=ls.headD []:=by cases ls<;>rfl
   by_cases hL:(ls.getD i []).length=(ls.getD 0 []).length
   ·have t3:(((ls.getD i []).length:Int) != ((ls.getD 0 []).length:Int))=false:=by rw[hL];exact bne_self_eq_false _
    (repeat((first|refine ag rfl rfl ?_|refine ae rfl rfl ?_|refine an Q8 ?_|refine an Q6 ?_|refine an IG ?_|rw[t1]|rw[t3]|rw[t2]);conv=>whnf))
    refine⟨ls.length - (i+1),λk=>k,[0,2,17,18,19],[],aa,aD,i+1,rfl,aE, ?_,rfl,rfl⟩;intro j hj;by_cases w6:j=i
    ·rw[w6,hL,hh];exact beq_self_eq_true _
    ·exact hs j aa
   ·have t3:(((ls.getD i []).length:Int) != ((ls.getD 0 []).length:Int))=true:=bne_iff_ne.2 aa;have e:pP ls=1:=by
     rw[pP,if_neg (by rw[PT];exact afV),if_neg];rw[Pd (d:=[]) aE (by rw[<-hh];exact beq_false_of_ne hL)];exact afV
    rw[e]
    (repeat((first|refine ag rfl rfl ?_|refine an Q8 ?_|refine an Q6 ?_|refine an IG ?_|rw[t1]|rw[t3]);conv=>whnf));exact Q4
  ·have t1:=iH aE;have hI:i=ls.length:=aa;subst hI;have e:pP ls=0:=by
    rw[pP,if_neg (by rw[PT];exact afV),if_pos (Pc [] hs)]
   rw[e]
   (repeat(first|(refine ae rfl rfl ?_;conv=>whnf)|(rw[t1];conv=>whnf)));exact Q4
theorem C2 (a b:List Rat):pP [a,b]=if 2048<a.length\/2048<b.length then 3 else if a.length=b.length then 0 else 1:=by
 simp only[pP,List.any_cons,List.any_nil,Bool.or_false,Bool.or_eq_true,decide_eq_true_eq,List.all_cons,List.all_nil,aiX,List.headD_cons,beq_self_eq_true,alQ,beq_iff_eq];split
 ·rfl
 ·split
  ·rename_i h;rw[if_pos h.symm]
  ·rename_i h;rw[if_neg (λh'=>h h'.symm)]
theorem VD (F:Rat->Rat->Rat) (g:FuncId) (a b:List Rat) (At:a.length=b.length) (hl:a.length<=2048)
  (hf:∀i,i<a.length->C0 g ([]++([.frac (a.getD i 0),.frac (b.getD i 0)]++[])) (.frac (F (a.getD i 0) (b.getD i 0)))):
  C0 107 [bx a,bx b,.clo g [] []] (.bQ [bx (ω F a b),.val (.int .i64 0)]):=by
 have k1:=K9 [a,b] (by simp) (by simp;omega);rw[C2,if_neg aa,if_pos At]at k1;refine kg [13] Tryz.func107 ?_;intro w0 ρ0 hE;conv=>whnf
 (repeat((first|refine ae rfl rfl ?_|refine Ξ Q5 ?_|refine aN aJ ?_|rw[bne_self_eq_false]|refine an Q8 ?_|rw[ι]);conv=>whnf))
 have hz:=fw (f:=F) rfl At.symm
 refine av hE (λk=>k) [0,1,2,6,7,9,22,23] [20] (λm fr hp=>∃i,m=a.length - i/\i<=a.length/\fr=[(0,bx a),(1,bx b),(2,.clo g [] []),(6,.val (.slice none 0 0)),(7,.val (.int .i64 0)),(9,.aM 20 5 0 a.length),(22,.val (.int .i64 (a.length:Nat))),(23,.val (.int .i64 (i:Nat)))]/\
  hp=[(20,⟨49,true,.cf ((ω F a b).take i++θ (a.length - i) 0)⟩)]) a.length ?_ ?_ ?_
 ·kernel_rfl
 ·exact⟨0,rfl,Γ _,rfl,rfl⟩
 rintro m _ _ ⟨i,rfl,hi,rfl,rfl⟩;conv=>whnf
 have hlen:=dW (d:=(0:Rat)) hi hz;by_cases aE:i<a.length
 ·have t1:=gZ aE;have t2:=bW (i:=i) aa;have k2:=hf i aE;rw[<-ma (f:=F) (d3:=0) aE aa]at k2
  (repeat((first|refine ag rfl rfl ?_|refine aq aD ?_|refine Ξ Q5 ?_|refine aN aJ ?_|refine an Ar ?_|refine an Q6 ?_|rw[t1]|rw[t2]|rw[ι]|rw[υ]);conv=>whnf))
  refine⟨a.length - (i+1),λk=>k,[0,1,2,6,7,9,22,23],[20],aa,aD,i+1,rfl,aE,rfl, ?_⟩;rw[<-fG (e:=0) aE hz];rfl
 ·have t1:=iH aE;have hI:i=a.length:=aa;subst hI;rw[gD hz]
  (repeat(first|(refine ae rfl rfl ?_;conv=>whnf)|(rw[t1];conv=>whnf)))
  exact Q17
theorem VE (F:Rat->Rat->Rat) (g:FuncId) (p:Pred) (a b:List Rat) (At:a.length=b.length) (hl:a.length<=2048)
  (hf:∀i,i<a.length->C0 g ([]++([.frac (a.getD i 0),.frac (b.getD i 0)]++[.atom p])) (.frac (F (a.getD i 0) (b.getD i 0)))):
  C0 107 [bx a,bx b,.clo g [] [.atom p]] (.bQ [bx (ω F a b),.val (.int .i64 0)]):=by
 have k1:=K9 [a,b] (by simp) (by simp;omega);rw[C2,if_neg aa,if_pos At]at k1;refine kg [13] Tryz.func107 ?_;intro w0 ρ0 hE;conv=>whnf
 (repeat((first|refine ae rfl rfl ?_|refine Ξ Q5 ?_|refine aN aJ ?_|rw[bne_self_eq_false]|refine an Q8 ?_|rw[ι]);conv=>whnf))
 have hz:=fw (f:=F) rfl At.symm
 refine av hE (λk=>k) [0,1,2,6,7,9,22,23] [20] (λm fr hp=>∃i,m=a.length - i/\i<=a.length/\fr=[(0,bx a),(1,bx b),(2,.clo g [] [.atom p]),(6,.val (.slice none 0 0)),(7,.val (.int .i64 0)),(9,.aM 20 5 0 a.length),(22,.val (.int .i64 (a.length:Nat))),(23,.val (.int .i64 (i:Nat)))]/\
  hp=[(20,⟨49,true,.cf ((ω F a b).take i++θ (a.length - i) 0)⟩)]) a.length ?_ ?_ ?_
 ·kernel_rfl
 ·exact⟨0,rfl,Γ _,rfl,rfl⟩
 rintro m _ _ ⟨i,rfl,hi,rfl,rfl⟩;conv=>whnf
 have hlen:=dW (d:=(0:Rat)) hi hz;by_cases aE:i<a.length
 ·have t1:=gZ aE;have t2:=bW (i:=i) aa;have k2:=hf i aE;rw[<-ma (f:=F) (d3:=0) aE aa]at k2
  (repeat((first|refine ag rfl rfl ?_|refine aq aD ?_|refine Ξ Q5 ?_|refine aN aJ ?_|refine an Ar ?_|refine an Q6 ?_|rw[t1]|rw[t2]|rw[ι]|rw[υ]);conv=>whnf))
  refine⟨a.length - (i+1),λk=>k,[0,1,2,6,7,9,22,23],[20],aa,aD,i+1,rfl,aE,rfl, ?_⟩;rw[<-fG (e:=0) aE hz];rfl
 ·have t1:=iH aE;have hI:i=a.length:=aa;subst hI;rw[gD hz]
  (repeat(first|(refine ae rfl rfl ?_;conv=>whnf)|(rw[t1];conv=>whnf)))
  exact Q17
def yd (l:List Rat):Nat:=(l.map fs).sum
theorem PU (l:List Rat) (s:Rat):fs (l.foldl (·+·) s)<=fs s+yd l:=by
 induction l generalizing s with
 |nil=>simp[yd]
 |cons q l ih=>
  have:=ih (s+q);have:=fW s q;simp only[List.foldl_cons,yd,ϲ,List.sum_cons]at*;omega
theorem Jv (s q:Rat) (h:fs s+fs q<=1073741824) (K:Nat):
  aL Tryz.prog 205 [.ptr K 0 0 0,.frac q] [(K,⟨261,true,.one [.frac s]⟩)] (.bQ []) [] [(K,⟨261,true,.one [.frac (s+q)]⟩)]:=by
 have k1:=K7 s q h;refine gY (Z:=[]) aH bC Tryz.func205 rfl aD (args:=[.ptr 0 0 0 0,.frac q]) (fk:=[(0,⟨261,true,.one [.frac s]⟩)]) (c:=.bQ []) (new:=[]) (upd:=[(0,⟨261,true,.one [.frac (s+q)]⟩)]) (cb.of rfl rfl rfl rfl rfl rfl rfl rfl rfl rfl rfl) rfl (λ_=>K) bl.upd ?_;intro W0 w0 ρ0 hE;conv=>whnf
 (repeat(first|(refine aq aD ?_;conv=>whnf)|(refine aN aJ ?_;conv=>whnf)))
 exact⟨au.refl _,(λ_ _ h=>by cases h),λk b hm=>by simp only[μ,ς]at hm;obtain⟨rfl,rfl⟩:=hm;rfl⟩
theorem oQ (l:List Rat) (i:Nat) (hi:i<l.length):l.take (i+1)=l.take i++[l.getD i 0]:=by rw[aij,δ,φ hi];rfl
theorem AK (l:List Rat) (i:Nat) (hi:i<l.length) (s:Rat):(l.take (i+1)).foldl (·+·) s=(l.take i).foldl (·+·) s+l.getD i 0:=by
 rw[oQ l i hi,ala];rfl
theorem AL (a b:List Rat):yd (a++b)=yd a+yd b:=by unfold yd;rw[List.map_append,List.sum_append]
theorem VF (q:Rat):yd [q]=fs q:=by simp[yd]
theorem PV (l:List Rat) (i:Nat) (hi:i<l.length):yd (l.take i)+fs (l.getD i 0)<=yd l:=by
 have h1:yd (l.take (i+1))=yd (l.take i)+fs (l.getD i 0):=by rw[oQ l i hi,AL,VF]
 have h3:yd l=yd (l.take (i+1))+yd (l.drop (i+1)):=by rw[<-AL,List.take_append_drop]
 rw[h3,h1];exact Nat.le_add_right _ _
theorem abv (l:List Rat) (s:Rat) (hn:l.length<1099511627776) (h:fs s+yd l<=1073741824) (K:Nat):
  aL Tryz.prog 204 [.clo 205 [.ptr K 0 0 0] [],bx l] [(K,⟨261,true,.one [.frac s]⟩)] (.bQ []) [] [(K,⟨261,true,.one [.frac (l.foldl (·+·) s)]⟩)]:=by
 refine gY (Z:=[]) aH bC Tryz.func204 rfl aD (args:=[.clo 205 [.ptr 1001 0 0 0] [],bx l]) (fk:=[(1001,⟨261,true,.one [.frac s]⟩)]) (c:=.bQ []) (new:=[]) (upd:=[(1001,⟨261,true,.one [.frac (l.foldl (·+·) s)]⟩)]) (cb.of rfl rfl rfl rfl rfl rfl rfl rfl rfl rfl rfl) rfl (λ_=>K) bl.upd ?_;intro W0 w0 ρ0 hE;conv=>whnf
 (repeat(first|(refine an Q8 ?_;conv=>whnf)))
 refine av hE (λk=>k) [0,1,6,7,8] [1001] (λm fr hp=>∃i,m=l.length - i/\i<=l.length/\fr=[(0,.clo 205 [.ptr 1001 0 0 0] []),(1,bx l),(6,bx l),(7,.val (.int .i64 (l.length:Nat))),(8,.val (.int .i64 (i:Nat)))]/\
  hp=[(1001,⟨261,true,.one [.frac ((l.take i).foldl (·+·) s)]⟩)]) l.length ?_ ?_ ?_
 ·kernel_rfl
 ·exact⟨0,rfl,Γ _,rfl,rfl⟩
 rintro m _ _ ⟨i,rfl,hi,rfl,rfl⟩;conv=>whnf
 by_cases aE:i<l.length
 ·have t1:=gZ aE;have t2:=bW (i:=i) aa;have hs:=PU (l.take i) s;have La:=PV l i aE;have k1:=Jv ((l.take i).foldl (·+·) s) (l.getD i 0) aa 1001;rw[<-AK l i aE s]at k1
  (repeat((first|refine ag rfl rfl ?_|refine x0 aJ rfl rfl ?_|refine an Ar ?_|refine an Q6 ?_|rw[t1]|rw[t2]);conv=>whnf))
  exact⟨l.length - (i+1),λk=>k,[0,1,6,7,8],[1001],aa,aD,i+1,rfl,aE,rfl,rfl⟩
 ·have t1:=iH aE;have hI:i=l.length:=aa;subst hI;rw[List.take_length]
  (repeat(first|(refine ae rfl rfl ?_;conv=>whnf)|(rw[t1];conv=>whnf)))
  exact⟨au.refl _,(λ_ _ h=>by cases h),λk b hm=>by simp only[μ,ς]at hm;obtain⟨rfl,rfl⟩:=hm;rfl⟩
theorem aeI (l:List Rat) (hn:l.length<1099511627776) (h:yd l+2<=1073741824):C0 169 [bx l] (.frac (l.foldl (·+·) 0)):=by
 have k1:=abv l 0 hn (by rw[et];omega) 3;refine bB [] Tryz.func169 ?_;intro W0 w0 ρ0 hE;conv=>whnf
 (repeat(first|(refine x0 aJ rfl rfl ?_;conv=>whnf)|(refine an Gv ?_;conv=>whnf)));exact Q4
def Fit (a b:List Rat):Prop:=∀i,i<a.length->fs (a.getD i 0)+fs (b.getD i 0)<=1073741824
abbrev Jw (a b:List Rat):List Rat:=ω (·+·) a b
abbrev jk (a b:List Rat):List Rat:=ω (· - ·) a b
abbrev Ew (a b:List Rat):List Rat:=ω (·*·) a b
abbrev a7 (c:Rat) (a:List Rat):List Rat:=ω (λx _=>c*x) a a
theorem PW (c x y:Rat) (h:fs c+fs x<=1073741824):C0 108 ([]++([.frac x,.frac y]++[b9 [.frac c]])) (.frac (c*x)):=by
 have k1:=K8 c x h;refine bB [] Tryz.func108 ?_;intro W0 w0 ρ0 hE;conv=>whnf
 (repeat(first|(refine aN aJ ?_;conv=>whnf)|(refine an Q6 ?_;conv=>whnf)));exact Q4
theorem VG (c:Rat) (a:List Rat) (hl:a.length<=2048) (h:∀i,i<a.length->fs c+fs (a.getD i 0)<=1073741824):C0 47 [.frac c,bx a] (.bQ [bx (a7 c a),.val (.int .i64 0)]):=by
 have k1:=VE (λx _=>c*x) 108 (lY [.frac c]) a a rfl hl (λi hi=>PW _ _ _ (h i hi));refine bB [2] Tryz.func47 ?_;intro W0 w0 ρ0 hE;conv=>whnf
 (repeat(first|(refine aN aJ ?_;conv=>whnf)|(refine an Gv ?_;conv=>whnf)));exact Q4
def GL (a b:List Rat):Rat:=(Ew a b).foldl (·+·) 0
theorem YW (a b:List Rat) (At:a.length=b.length) (hl:a.length<=2048) (h:Fit a b) (hs:yd (Ew a b)+2<=1073741824):C0 125 [bx a,bx b] (.bQ [.frac (GL a b),.val (.int .i64 0)]):=by
 have k1:=VD (·*·) 37 a b At hl (λi hi=>K8 _ _ (h i hi));have k2:=aeI (Ew a b) (by simp;omega) hs;refine bB [] Tryz.func125 ?_;intro W0 w0 ρ0 hE;conv=>whnf
 (repeat(first|(refine aN aJ ?_;conv=>whnf)));exact Q4
theorem VH (n:Nat) (hn:n<=2048) (K:Nat):aL Tryz.prog 203 [.val (.int .i64 (n:Nat))] [] (.bQ [.aM K 5 0 n,.val (.int .i64 0)]) [(K,⟨49,true,.cf (θ n 0)⟩)] []:=by
 have k1:=abu n;rw[PS,if_neg aa,if_neg aa]at k1;refine gY (Z:=[]) aH bC Tryz.func203 rfl aD (args:=[.val (.int .i64 (n:Nat))]) (fk:=[]) (c:=.bQ [.aM 11 5 0 n,.val (.int .i64 0)]) (new:=[(11,⟨49,true,.cf (θ n 0)⟩)]) (upd:=[]) (cb.of rfl rfl rfl rfl rfl rfl rfl rfl rfl rfl rfl) rfl (λ_=>K) bl.one ?_;intro W0 w0 ρ0 hE;conv=>whnf
 (repeat((first|refine ae rfl rfl ?_|refine Ξ Q5 ?_|refine aN aJ ?_|rw[ι]);conv=>whnf))
 exact⟨au.refl _,(λk b hm=>by simp only[μ,ς]at hm;obtain⟨rfl,rfl⟩:=hm;rfl),(λ_ _ h=>by cases h)⟩
theorem b8:Tryz.prog.eqGuardType Tryz.prog.depth 49=false:=aD
theorem cQ (a b:Rat):Ae FK fu 10 49 (bL a) (bL b)=some (decide (a=b)):=by
 have e:Ae FK fu 10 49 (bL a) (bL b)=some (((((low a.num.natAbs==low b.num.natAbs)&&(((sQ a.num.natAbs).toList==(sQ b.num.natAbs).toList)&&true))&&true)&&((decide (a.num<0)==decide (b.num<0))&&true))&&
  (((low (a.den - 1)==low (b.den - 1))&&(((sQ (a.den - 1)).toList==(sQ (b.den - 1)).toList)&&true))&&true)):=rfl
 rw[e];simp only[aiX];rw[pA,pA];congr 1;rw[Bool.eq_iff_iff];simp only[Bool.and_eq_true,decide_eq_true_eq,beq_iff_eq,decide_eq_decide];have h1:=a.den_pos;have h2:=b.den_pos;constructor
 ·rintro⟨⟨h3,h4⟩,h5⟩;exact Rat.ext aa aa
 ·rintro rfl;exact⟨⟨rfl,Iff.rfl⟩,rfl⟩
def dp (l:List Int):List Rat:=l.map λ(n:Int)=>((n:Int):Rat)
theorem nQ {α β:Type} {f:α->β} {l:List α} {i:Nat} {d:α} {e:β} (h:i<l.length):(l.map f).getD i e=f (l.getD i d):=by
 simp[δ,φ h]
theorem abw (l:List Int) (hl:l.length<1099511627776) (h:∀i,i<l.length-> -9223372036854775808<=l.getD i 0/\l.getD i 0<9223372036854775808):C0 54 [gP .i64 l] (bx (dp l)):=by
 refine kg [] Tryz.func54 ?_;intro w0 ρ0 hE;conv=>whnf
 (repeat(first|(refine Ξ Q5 ?_;conv=>whnf)|(refine an Q8 ?_;conv=>whnf)|(rw[ι];conv=>whnf)))
 have hz:(dp l).length=l.length:=by simp[dp]
 refine av hE (λk=>k) [0,2,3,9,10] [7] (λm fr hp=>∃i,m=l.length - i/\i<=l.length/\fr=[(0,gP .i64 l),(2,.val (.slice none 0 0)),(3,.aM 7 5 0 l.length),(9,.val (.int .i64 (l.length:Nat))),(10,.val (.int .i64 (i:Nat)))]/\
  hp=[(7,⟨49,true,.cf ((dp l).take i++θ (l.length - i) 0)⟩)]) l.length ?_ ?_ ?_
 ·kernel_rfl
 ·exact⟨0,rfl,Γ _,rfl,rfl⟩
 rintro m _ _ ⟨i,rfl,hi,rfl,rfl⟩;conv=>whnf
 have hlen:=dW (d:=(0:Rat)) hi hz;by_cases aE:i<l.length
 ·have t1:=gZ aE;have t2:=bW (i:=i) aa;obtain⟨b1,b2⟩:=h i aE;have k1:=dH (l.getD i 0) b1 b2;rw[<-nQ (f:=λ(n:Int)=>((n:Int):Rat)) (e:=0) aE]at k1
  (repeat((first|refine ag rfl rfl ?_|refine Ξ Q5 ?_|refine aN aJ ?_|refine an Q6 ?_|refine an As ?_|rw[t1]|rw[t2]|rw[ι]|rw[υ]);conv=>whnf))
  refine⟨l.length - (i+1),λk=>k,[0,2,3,9,10],[7],aa,aD,i+1,rfl,aE,rfl, ?_⟩;rw[<-fG (e:=0) aE hz];rfl
 ·have t1:=iH aE;have hI:i=l.length:=aa;subst hI;rw[gD hz]
  (repeat(first|(refine ae rfl rfl ?_;conv=>whnf)|(rw[t1];conv=>whnf)));(first|exact au.refl _|exact qF.pC (au.refl _) rfl|(refine qF.one rfl rfl ?_;(repeat(first|(refine eO.cf rfl ?_;(first|rfl|omega|(simp<;>fail)|(simp<;>omega))))))|(refine qF.bQ ?_;skip))
end Go.Proofs.YtadphegfhgmgmaaGreatDoor
namespace Go.Proofs
open Go.Shelf
def Tryz.ye:agt:=⟨λ|156=>126|165=>170|166=>171|169=>172|240=>206|241=>207|276=>222|277=>223|n=>n,λ|31=>176|9=>9|3=>3|4=>4|0=>0|20=>20|72=>223|76=>227|70=>220|37=>221|75=>226|127=>264|164=>276|5=>5|80=>229|n=>n,λ|n=>n⟩
theorem Tryz.Lb:alY Tryz.prog Tryz.ye:={
 mixed:=by kernel_rfl
 f156:=Tryz.func126.trans (congrArg some (by kernel_rfl))
 f165:=Tryz.func170.trans (congrArg some (by kernel_rfl))
 f166:=Tryz.func171.trans (congrArg some (by kernel_rfl))
 f169:=Tryz.func172.trans (congrArg some (by kernel_rfl))
 f240:=Tryz.func206.trans (congrArg some (by kernel_rfl))
 f241:=Tryz.func207.trans (congrArg some (by kernel_rfl))
 f276:=Tryz.func222.trans (congrArg some (by kernel_rfl))
 f277:=Tryz.func223.trans (congrArg some (by kernel_rfl))
 t0:=Tryz.underlying0
 a0:=Tryz.isAgg0
 z0:=Tryz.sizeOf0
 v0:=Tryz.zeroValue0
 t3:=Tryz.underlying3
 a3:=Tryz.isAgg3
 z3:=Tryz.sizeOf3
 v3:=Tryz.zeroValue3
 t4:=Tryz.underlying4
 a4:=Tryz.isAgg4
 z4:=Tryz.sizeOf4
 v4:=Tryz.zeroValue4
 t9:=Tryz.underlying9
 a9:=Tryz.isAgg9
 z9:=Tryz.sizeOf9
 v9:=Tryz.zeroValue9
 t20:=Tryz.underlying20
 a20:=Tryz.isAgg20
 z20:=Tryz.sizeOf20
 v20:=Tryz.zeroValue20
 t31:=Tryz.underlying176
 a31:=Tryz.isAgg176
 z31:=Tryz.sizeOf176
 v31:=Tryz.zeroValue176
 t37:=Tryz.underlying221
 a37:=Tryz.isAgg221
 z37:=Tryz.sizeOf221
 v37:=Tryz.zeroValue221
 t70:=Tryz.underlying220
 a70:=Tryz.isAgg220
 z70:=Tryz.sizeOf220
 v70:=Tryz.zeroValue220
 t72:=Tryz.underlying223
 a72:=Tryz.isAgg223
 z72:=Tryz.sizeOf223
 v72:=Tryz.zeroValue223
 t75:=Tryz.underlying226
 a75:=Tryz.isAgg226
 z75:=Tryz.sizeOf226
 v75:=Tryz.zeroValue226
 t76:=Tryz.underlying227
 a76:=Tryz.isAgg227
 z76:=Tryz.sizeOf227
 v76:=Tryz.zeroValue227
 t127:=Tryz.underlying264
 a127:=Tryz.isAgg264
 z127:=Tryz.sizeOf264
 v127:=Tryz.zeroValue264
 t164:=Tryz.underlying276
 a164:=Tryz.isAgg276
 z164:=Tryz.sizeOf276
 v164:=Tryz.zeroValue276}
theorem Tryz.nR:Builder.Extra Tryz.prog Tryz.ye:={
 sizeBuilder:=by kernel_rfl
 liesBuilder:=by kernel_rfl
 t5:=Tryz.underlying5
 a5:=Tryz.isAgg5
 z5:=Tryz.sizeOf5
 v5:=Tryz.zeroValue5
 infoByte:=by kernel_rfl
 cellsByte:=by kernel_rfl
 sizeByte:=by kernel_rfl
 neB5:=by decide}
open Go.RowKit in
theorem Tryz.strings_Join_none (a:Option Addr) (c:Nat) (sep:ByteArray) (w:World):
  Calls Tryz.prog 126 #[.slice a 0 c,.string sep] w λe w'=>e= .returned (.string ⟨#[]⟩)/\w'=w:=Any.strings_Join_none Tryz.Lb Tryz.nR a c sep w
open Go.RowKit in
/-- strings.Join: "Join concatenates the elements of its first argument to create a single string. The separator string sep is placed between elements in the resulting string.": HOWEVER MANY ELEMENTS. Below the heap's end the world is as it was. (LAID: no walk: one application.) -/
theorem Tryz.strings_Join (bk o c:Nat) (xs:List ByteArray) (sep:ByteArray) (w:World) (fP:∀(j:Nat) x,xs[j]? =some x->w.cell? ⟨bk,o+j,none⟩=some (.string x)) (hbk:bk<w.heap.size) (hN:xs.length<=140737488355328) (hcap:xs.length<=c) (hlen:(aeO (xs.map (·.data.toList)) sep.data.toList).length<=140737488355328):
  Calls Tryz.prog 126 #[.slice (some ⟨bk,o,none⟩) xs.length c,.string sep] w λe w'=>e= .returned (.string ⟨(aeO (xs.map (·.data.toList)) sep.data.toList).toArray⟩)/\Below w.heap.size w w':=Any.strings_Join Tryz.Lb Tryz.nR bk o c xs sep w fP hbk hN hcap hlen
def Tryz.GM:agt:=⟨λ|283=>224|n=>n,λ|3=>3|9=>9|4=>4|n=>n,λ|n=>n⟩
theorem Tryz.VI:alZ Tryz.prog Tryz.GM:={
 mixed:=by kernel_rfl
 f283:=Tryz.func224.trans (congrArg some (by kernel_rfl))
 t3:=Tryz.underlying3
 a3:=Tryz.isAgg3
 z3:=Tryz.sizeOf3
 v3:=Tryz.zeroValue3
 t4:=Tryz.underlying4
 a4:=Tryz.isAgg4
 z4:=Tryz.sizeOf4
 v4:=Tryz.zeroValue4
 t9:=Tryz.underlying9
 a9:=Tryz.isAgg9
 z9:=Tryz.sizeOf9
 v9:=Tryz.zeroValue9}
open Go.Lib in
/-- internal/strconv.small: "small returns the string for an i with 0 <= i < nSmalls.": i's decimal numeral. The world is as it was. (LAID: no walk: one application.) -/
theorem Tryz.internal_strconv_small (i:Nat) (h:i<100) (w:World):
  Calls Tryz.prog 224 #[.int .i64 i] w λe w'=>e= .returned (.string ⟨(ώ i).toArray⟩)/\w'=w:=Any.internal_strconv_small Tryz.VI i h w
def Tryz.Ex:agt:=⟨λ|284=>225|129=>233|317=>232|318=>234|n=>n,λ|53=>41|3=>3|212=>288|0=>0|4=>4|46=>206|5=>5|9=>9|n=>n,λ|17=>2|n=>n⟩
theorem Tryz.PX:alR Tryz.prog Tryz.Ex:={
 mixed:=by kernel_rfl
 f129:=Tryz.func233.trans (congrArg some (by kernel_rfl))
 f284:=Tryz.func225.trans (congrArg some (by kernel_rfl))
 f317:=Tryz.func232.trans (congrArg some (by kernel_rfl))
 f318:=Tryz.func234.trans (congrArg some (by kernel_rfl))
 t0:=Tryz.underlying0
 a0:=Tryz.isAgg0
 z0:=Tryz.sizeOf0
 v0:=Tryz.zeroValue0
 t3:=Tryz.underlying3
 a3:=Tryz.isAgg3
 z3:=Tryz.sizeOf3
 v3:=Tryz.zeroValue3
 t4:=Tryz.underlying4
 a4:=Tryz.isAgg4
 z4:=Tryz.sizeOf4
 v4:=Tryz.zeroValue4
 t5:=Tryz.underlying5
 a5:=Tryz.isAgg5
 z5:=Tryz.sizeOf5
 v5:=Tryz.zeroValue5
 t9:=Tryz.underlying9
 a9:=Tryz.isAgg9
 z9:=Tryz.sizeOf9
 v9:=Tryz.zeroValue9
 t46:=Tryz.underlying206
 a46:=Tryz.isAgg206
 z46:=Tryz.sizeOf206
 v46:=Tryz.zeroValue206
 t53:=Tryz.underlying41
 a53:=Tryz.isAgg41
 z53:=Tryz.sizeOf41
 v53:=Tryz.zeroValue41
 t212:=Tryz.underlying288
 a212:=Tryz.isAgg288
 z212:=Tryz.sizeOf288
 v212:=Tryz.zeroValue288
 g17:=by kernel_rfl
 i0:=by kernel_rfl
 i3:=by kernel_rfl
 i4:=by kernel_rfl
 i5:=by kernel_rfl
 i9:=by kernel_rfl
 i46:=by kernel_rfl
 i53:=by kernel_rfl
 i212:=by kernel_rfl
 m17:=by kernel_rfl}
open Go.Lib in
theorem Tryz.internal_strconv_numDigits (u:Nat) (h1:1<=u) (h2:u<18446744073709551616) (w:World) (htab:ags Tryz.prog w "internal/strconv.uint64pow10" .u64 aha):
  Calls Tryz.prog 225 #[.int .u64 u] w λe w'=>e= .returned (.int .i64 (af9 u))/\w'=w:=Any.internal_strconv_numDigits Tryz.PX u h1 h2 w htab
def Tryz.GN:agt:=⟨λ|285=>226|n=>n,λ|37=>221|53=>41|3=>3|4=>4|51=>23|9=>9|5=>5|0=>0|n=>n,λ|n=>n⟩
theorem Tryz.VJ:al0 Tryz.prog Tryz.GN:={
 mixed:=by kernel_rfl
 f285:=Tryz.func226.trans (congrArg some (by kernel_rfl))
 t0:=Tryz.underlying0
 a0:=Tryz.isAgg0
 z0:=Tryz.sizeOf0
 v0:=Tryz.zeroValue0
 t3:=Tryz.underlying3
 a3:=Tryz.isAgg3
 z3:=Tryz.sizeOf3
 v3:=Tryz.zeroValue3
 t4:=Tryz.underlying4
 a4:=Tryz.isAgg4
 z4:=Tryz.sizeOf4
 v4:=Tryz.zeroValue4
 t5:=Tryz.underlying5
 a5:=Tryz.isAgg5
 z5:=Tryz.sizeOf5
 v5:=Tryz.zeroValue5
 t9:=Tryz.underlying9
 a9:=Tryz.isAgg9
 z9:=Tryz.sizeOf9
 v9:=Tryz.zeroValue9
 t37:=Tryz.underlying221
 a37:=Tryz.isAgg221
 z37:=Tryz.sizeOf221
 v37:=Tryz.zeroValue221
 t51:=Tryz.underlying23
 a51:=Tryz.isAgg23
 z51:=Tryz.sizeOf23
 v51:=Tryz.zeroValue23
 t53:=Tryz.underlying41
 a53:=Tryz.isAgg41
 z53:=Tryz.sizeOf41
 v53:=Tryz.zeroValue41}
open Go.RowKit Go.Sort Go.Lib in
/-- internal/strconv.formatBase10: "formatBase10 formats the decimal representation of u into a. The caller is responsible for ensuring that a is big enough to hold u. If a is too big, leading zeros will be filled in as needed.": THE ROW HOLDS u's DIGITS ('FmtInv .. 0 ..': every place t holds 'dg u (len - 1 - t)'); all else is as it was but for the count of draws. (LAID: no walk: one application.) -/
theorem Tryz.internal_strconv_formatBase10 (blk off cap:Nat) (u:Nat) (d:Array UInt8) (w:World) (hH:Holds (λ(b:UInt8)=>adt .u8 (b.toNat:Int)) w blk off d) (hu:u<10^d.size) (hu64:u<18446744073709551616) (gM:d.size<4611686018427387904):
  Calls Tryz.prog 226 #[.slice (some ⟨blk,off,none⟩) d.size cap,.int .u64 u] w λe w'=>
   e= .returned (.tuple #[])/\∃(n v':Nat) (dk:Array UInt8),w'=(putRow (λ(b:UInt8)=>adt .u8 (b.toNat:Int)) w blk off dk).drewN n/\FmtInv d.size u 0 v' dk:=Any.internal_strconv_formatBase10 Tryz.VJ blk off cap u d w hH hu hu64 gM
def Tryz.Ey:agt:=⟨λ|171=>178|243=>210|246=>228|283=>224|284=>225|285=>226|286=>227|129=>233|317=>232|318=>234|319=>235|320=>236|337=>237|338=>238|n=>n,λ|3=>3|9=>9|2=>2|4=>4|171=>279|0=>0|53=>41|37=>221|5=>5|173=>282|212=>288|51=>23|20=>20|213=>289|46=>206|232=>291|233=>292|n=>n,λ|17=>2|18=>3|19=>4|n=>n⟩
theorem Tryz.PY:alS Tryz.prog Tryz.Ey:={
 mixed:=by kernel_rfl
 f129:=Tryz.func233.trans (congrArg some (by kernel_rfl))
 f171:=Tryz.func178.trans (congrArg some (by kernel_rfl))
 f243:=Tryz.func210.trans (congrArg some (by kernel_rfl))
 f246:=Tryz.func228.trans (congrArg some (by kernel_rfl))
 f283:=Tryz.func224.trans (congrArg some (by kernel_rfl))
 f284:=Tryz.func225.trans (congrArg some (by kernel_rfl))
 f285:=Tryz.func226.trans (congrArg some (by kernel_rfl))
 f286:=Tryz.func227.trans (congrArg some (by kernel_rfl))
 f317:=Tryz.func232.trans (congrArg some (by kernel_rfl))
 f318:=Tryz.func234.trans (congrArg some (by kernel_rfl))
 f319:=Tryz.func235.trans (congrArg some (by kernel_rfl))
 f320:=Tryz.func236.trans (congrArg some (by kernel_rfl))
 f337:=Tryz.func237.trans (congrArg some (by kernel_rfl))
 f338:=Tryz.func238.trans (congrArg some (by kernel_rfl))
 t0:=Tryz.underlying0
 a0:=Tryz.isAgg0
 z0:=Tryz.sizeOf0
 v0:=Tryz.zeroValue0
 t2:=Tryz.underlying2
 a2:=Tryz.isAgg2
 z2:=Tryz.sizeOf2
 v2:=Tryz.zeroValue2
 t3:=Tryz.underlying3
 a3:=Tryz.isAgg3
 z3:=Tryz.sizeOf3
 v3:=Tryz.zeroValue3
 t4:=Tryz.underlying4
 a4:=Tryz.isAgg4
 z4:=Tryz.sizeOf4
 v4:=Tryz.zeroValue4
 t5:=Tryz.underlying5
 a5:=Tryz.isAgg5
 z5:=Tryz.sizeOf5
 v5:=Tryz.zeroValue5
 t9:=Tryz.underlying9
 a9:=Tryz.isAgg9
 z9:=Tryz.sizeOf9
 v9:=Tryz.zeroValue9
 t20:=Tryz.underlying20
 a20:=Tryz.isAgg20
 z20:=Tryz.sizeOf20
 v20:=Tryz.zeroValue20
 t37:=Tryz.underlying221
 a37:=Tryz.isAgg221
 z37:=Tryz.sizeOf221
 v37:=Tryz.zeroValue221
 t46:=Tryz.underlying206
 a46:=Tryz.isAgg206
 z46:=Tryz.sizeOf206
 v46:=Tryz.zeroValue206
 t51:=Tryz.underlying23
 a51:=Tryz.isAgg23
 z51:=Tryz.sizeOf23
 v51:=Tryz.zeroValue23
 t53:=Tryz.underlying41
 a53:=Tryz.isAgg41
 z53:=Tryz.sizeOf41
 v53:=Tryz.zeroValue41
 t171:=Tryz.underlying279
 a171:=Tryz.isAgg279
 z171:=Tryz.sizeOf279
 v171:=Tryz.zeroValue279
 t173:=Tryz.underlying282
 a173:=Tryz.isAgg282
 z173:=Tryz.sizeOf282
 v173:=Tryz.zeroValue282
 t212:=Tryz.underlying288
 a212:=Tryz.isAgg288
 z212:=Tryz.sizeOf288
 v212:=Tryz.zeroValue288
 t213:=Tryz.underlying289
 a213:=Tryz.isAgg289
 z213:=Tryz.sizeOf289
 t232:=Tryz.underlying291
 a232:=Tryz.isAgg291
 z232:=Tryz.sizeOf291
 v232:=Tryz.zeroValue291
 t233:=Tryz.underlying292
 a233:=Tryz.isAgg292
 z233:=Tryz.sizeOf292
 v233:=Tryz.zeroValue292
 g17:=by kernel_rfl
 g18:=by kernel_rfl
 g19:=by kernel_rfl
 i0:=by kernel_rfl
 i2:=by kernel_rfl
 i3:=by kernel_rfl
 i4:=by kernel_rfl
 i5:=by kernel_rfl
 i9:=by kernel_rfl
 i20:=by kernel_rfl
 i37:=by kernel_rfl
 i46:=by kernel_rfl
 i51:=by kernel_rfl
 i53:=by kernel_rfl
 i171:=by kernel_rfl
 i173:=by kernel_rfl
 i212:=by kernel_rfl
 i232:=by kernel_rfl
 i233:=by kernel_rfl
 m17:=by kernel_rfl
 m18:=by kernel_rfl
 m19:=by kernel_rfl}
open Go.RowKit Go.Sort Go.Lib in
/-- strconv.Itoa: "Itoa is equivalent to FormatInt(int64(i), 10).": i's DECIMAL NUMERAL ('Lib.itoa': a '-' where i is negative, then the digits), FOR EVERY int. The world behind the call: the world before it, new blocks behind the heap (the library's 'var a [24]byte'), draws. (LAID: no walk: one application.) -/
theorem Tryz.strconv_Itoa (n:Int) (h0: -9223372036854775808<=n) (h1:n<=9223372036854775807) (w:World) (htab:ags Tryz.prog w "internal/strconv.uint64pow10" .u64 aha):
  Calls Tryz.prog 178 #[.int .i64 n] w λe w'=>e= .returned (.string ⟨(Lib.itoa n).toArray⟩)/\∃k os,w'=grow (w.drewN k) os:=Any.strconv_Itoa Tryz.PY n h0 h1 w htab
def Tryz.yf:agt:=⟨λ|105=>179|212=>211|99=>212|165=>170|166=>171|170=>213|169=>172|263=>229|264=>153|206=>230|240=>206|241=>207|276=>222|277=>223|n=>n,λ|9=>9|3=>3|4=>4|20=>20|0=>0|46=>206|109=>265|5=>5|72=>223|76=>227|51=>23|146=>252|53=>41|148=>203|70=>220|37=>221|75=>226|127=>264|164=>276|80=>229|n=>n,λ|n=>n⟩
theorem Tryz.VK:al1 Tryz.prog Tryz.yf:={
 mixed:=by kernel_rfl
 f99:=Tryz.func212.trans (congrArg some (by kernel_rfl))
 f105:=Tryz.func179.trans (congrArg some (by kernel_rfl))
 f165:=Tryz.func170.trans (congrArg some (by kernel_rfl))
 f166:=Tryz.func171.trans (congrArg some (by kernel_rfl))
 f169:=Tryz.func172.trans (congrArg some (by kernel_rfl))
 f170:=Tryz.func213.trans (congrArg some (by kernel_rfl))
 f206:=Tryz.func230.trans (congrArg some (by kernel_rfl))
 f212:=Tryz.func211.trans (congrArg some (by kernel_rfl))
 f240:=Tryz.func206.trans (congrArg some (by kernel_rfl))
 f241:=Tryz.func207.trans (congrArg some (by kernel_rfl))
 f263:=Tryz.func229.trans (congrArg some (by kernel_rfl))
 f264:=Tryz.func153.trans (congrArg some (by kernel_rfl))
 f276:=Tryz.func222.trans (congrArg some (by kernel_rfl))
 f277:=Tryz.func223.trans (congrArg some (by kernel_rfl))
 t0:=Tryz.underlying0
 a0:=Tryz.isAgg0
 z0:=Tryz.sizeOf0
 v0:=Tryz.zeroValue0
 t3:=Tryz.underlying3
 a3:=Tryz.isAgg3
 z3:=Tryz.sizeOf3
 v3:=Tryz.zeroValue3
 t4:=Tryz.underlying4
 a4:=Tryz.isAgg4
 z4:=Tryz.sizeOf4
 v4:=Tryz.zeroValue4
 t5:=Tryz.underlying5
 a5:=Tryz.isAgg5
 z5:=Tryz.sizeOf5
 v5:=Tryz.zeroValue5
 t9:=Tryz.underlying9
 a9:=Tryz.isAgg9
 z9:=Tryz.sizeOf9
 v9:=Tryz.zeroValue9
 t20:=Tryz.underlying20
 a20:=Tryz.isAgg20
 z20:=Tryz.sizeOf20
 v20:=Tryz.zeroValue20
 t37:=Tryz.underlying221
 a37:=Tryz.isAgg221
 z37:=Tryz.sizeOf221
 v37:=Tryz.zeroValue221
 t46:=Tryz.underlying206
 a46:=Tryz.isAgg206
 z46:=Tryz.sizeOf206
 v46:=Tryz.zeroValue206
 t51:=Tryz.underlying23
 a51:=Tryz.isAgg23
 z51:=Tryz.sizeOf23
 v51:=Tryz.zeroValue23
 t53:=Tryz.underlying41
 a53:=Tryz.isAgg41
 z53:=Tryz.sizeOf41
 v53:=Tryz.zeroValue41
 t70:=Tryz.underlying220
 a70:=Tryz.isAgg220
 z70:=Tryz.sizeOf220
 v70:=Tryz.zeroValue220
 t72:=Tryz.underlying223
 a72:=Tryz.isAgg223
 z72:=Tryz.sizeOf223
 v72:=Tryz.zeroValue223
 t75:=Tryz.underlying226
 a75:=Tryz.isAgg226
 z75:=Tryz.sizeOf226
 v75:=Tryz.zeroValue226
 t76:=Tryz.underlying227
 a76:=Tryz.isAgg227
 z76:=Tryz.sizeOf227
 v76:=Tryz.zeroValue227
 t109:=Tryz.underlying265
 a109:=Tryz.isAgg265
 z109:=Tryz.sizeOf265
 v109:=Tryz.zeroValue265
 t127:=Tryz.underlying264
 a127:=Tryz.isAgg264
 z127:=Tryz.sizeOf264
 v127:=Tryz.zeroValue264
 t146:=Tryz.underlying252
 a146:=Tryz.isAgg252
 z146:=Tryz.sizeOf252
 v146:=Tryz.zeroValue252
 t148:=Tryz.underlying203
 a148:=Tryz.isAgg203
 z148:=Tryz.sizeOf203
 v148:=Tryz.zeroValue203
 t164:=Tryz.underlying276
 a164:=Tryz.isAgg276
 z164:=Tryz.sizeOf276
 v164:=Tryz.zeroValue276}
theorem Tryz.vS:Builder.Extra Tryz.prog Tryz.yf:={
 sizeBuilder:=by kernel_rfl
 liesBuilder:=by kernel_rfl
 t5:=Tryz.underlying5
 a5:=Tryz.isAgg5
 z5:=Tryz.sizeOf5
 v5:=Tryz.zeroValue5
 infoByte:=by kernel_rfl
 cellsByte:=by kernel_rfl
 sizeByte:=by kernel_rfl
 neB5:=by decide}
open Go.RowKit Go.Lib in
theorem Tryz.strings_Repeat (s:ByteArray) (c:Nat) (w:World) (hc:c<=9223372036854775807) (hlen:s.size*c<=140737488355328):
  Calls Tryz.prog 179 #[.string s,.int .i64 c] w λe w'=>e= .returned (.string ⟨(akH s.data.toList c).toArray⟩)/\Below w.heap.size w w':=Any.strings_Repeat Tryz.VK Tryz.vS s c w hc hlen
end Go.Proofs
namespace Go.Proofs.YtadphegfhgmgmaaGreatDoor
open Go.Sx
def VL:Nat->Nat->List UInt8
 |0,_=>[]
 |f+1,n=>if n<10 then[aal (48+n)]else VL f (n/10)++[aal (48+n % 10)]
theorem Lc:∀f n,n<f->VL f n=ώ n
 |0,n,h=>aa
 |f+1,n,h=>by
  rw[VL,ώ];by_cases h1:n<10
  ·rw[if_pos h1,dif_pos h1]
  ·rw[if_neg h1,dif_neg h1,Lc f (n/10) aa]
def tN (n:Nat):ByteArray:=⟨(VL (n+1) n).toArray⟩
theorem qo (n:Nat):tN n=⟨(ώ n).toArray⟩:=by rw[tN,Lc _ _ (gq n)]
def tZ (z:Int):ByteArray:=if z<0 then "-".toUTF8++tN z.natAbs else tN z.natAbs
def tQ (q:Rat):ByteArray:=if q.den=1 then tZ q.num else tZ q.num++ "/".toUTF8++tN q.den
theorem VM (i:Nat) (h:i<100):C0 224 [.val (.int .i64 (i:Nat))] (.val (.string (tN i))):=
 I9 (vs:=[.int .i64 (i:Nat)]) ⟨Tryz.f224,Tryz.func224,rfl,aD⟩ rfl (λw=>by rw[qo];exact Tryz.internal_strconv_small i h w)
theorem Nh (n:Nat) (h:n<100):C0 208 [.val (.int .u64 (n:Nat)),.val (.int .i64 10)] (.val (.string (tN n))):=by
 have k1:=VM n h;have t1:decide ((n:Int)<100)=true:=decide_eq_true aa;have t2:ε.wrap (n:Int)=n:=wrap_i64 aa aa;refine bB [] Tryz.func208 ?_;intro W0 w0 ρ0 hE;conv=>whnf
 (repeat((first|refine ag rfl rfl ?_|refine aN aJ ?_|rw[beq_self_eq_true]|rw[t1]|rw[t2]);conv=>whnf));exact Q4
theorem PZ (n:Nat) (h:n<100):C0 175 [.val (.int .u64 (n:Nat)),.val (.int .i64 10)] (.val (.string (tN n))):=by
 have k1:=Nh n h;refine bB [] Tryz.func175 ?_;intro W0 w0 ρ0 hE;conv=>whnf
 (repeat(first|(refine aN aJ ?_;conv=>whnf)));exact Q4
def tV (a:List Rat):ByteArray:= "[".toUTF8++⟨(aeO ((a.map tQ).map (·.data.toList)) [32]).toArray⟩++ "]".toUTF8
theorem abx (ss:List ByteArray) (hN:ss.length<=1099511627776) (hlen:(aeO (ss.map (·.data.toList)) [32]).length<=140737488355328):
  C0 126 [bN 1 Aq ss,.val (.string ⟨#[32]⟩)] (.val (.string ⟨(aeO (ss.map (·.data.toList)) [32]).toArray⟩)):=by
 refine M7 ⟨Tryz.f126,Tryz.func126,rfl,aD⟩ rfl ?_ ?_
 ·rintro rfl a w;exact Tryz.strings_Join_none a 0 ⟨#[32]⟩ w
 ·intro bk o c w hc hb hcap;exact Tryz.strings_Join bk o c ss ⟨#[32]⟩ w hc hb aa hcap hlen
abbrev qA:Int×Int->SV:=ag2 (gB .i64) (gB .u32)
def qV (q:Int×Int):Rat:=(q.1:Rat)/((if q.2<1 then 1 else q.2:Int):Rat)
def my (q:Int×Int):Prop:=(-9223372036854775808<=q.1/\q.1<9223372036854775808)/\(0<=q.2/\q.2<4294967296)
theorem oR {q:Int×Int} (h:my q):fs (qV q)<=130:=by
 have h1:=rl (q.1:Rat) ((if q.2<1 then 1 else q.2:Int):Rat);have h2:=pO h.1.1 h.1.2;have h3:fs ((if q.2<1 then 1 else q.2:Int):Rat)<=65:=pO Oa Oa;unfold qV;omega
theorem rn (q:Int×Int) (h:my q):C0 24 [qA q] (.frac (qV q)):=by
 have hd:(if q.2<1 then 1 else q.2)≠0:=by have:=h.2;split<;>omega
 have e1:(if (1:Int)>q.2 then 1 else q.2)=(if q.2<1 then 1 else q.2):=rfl;have e2:ε.wrap (if (1:Int)>q.2 then 1 else q.2)=(if q.2<1 then 1 else q.2):=wrap_i64 Oa Oa;have g2:=pO h.1.1 h.1.2;have g3:fs ((if q.2<1 then 1 else q.2:Int):Rat)<=65:=pO Oa Oa;have k1:=YH pN q.1 (if q.2<1 then 1 else q.2) (by unfold fs at g2 g3;omega) h.1.1 h.1.2 Oa Oa hd;refine bB [] Tryz.func24 ?_;intro W0 w0 ρ0 hE;conv=>whnf
 (repeat(first|(refine aN aJ ?_;conv=>whnf)|(rw[e2];conv=>whnf)));exact Q4
theorem P0 {α:Type} {l:List α} {i:Nat} {d:α} (h:i<l.length):(l.take i).take i++(([l.getD i d]:List α).drop 0).take 1=l.take (i+1):=by
 have e:l.take (i+1)=l.take i++[l.getD i d]:=by rw[aij,δ,φ h];rfl
 rw[List.take_take,Nat.min_self,e];rfl
def aj:Nat->(Nat->Rat)->Rat
 |0,_=>0
 |n+1,f=>aj n f+f n
theorem C3 (l:List Rat):∀n,n<=l.length->(l.take n).foldl (·+·) 0=aj n (λi=>l.getD i 0)
 |0,_=>rfl
 |n+1,h=>by rw[AK l n aa,C3 l n aa,aj]
theorem GO {a b:List Rat} {n:Nat} (ha:a.length=n) (hb:b.length=n):GL a b=aj n (λi=>a.getD i 0*b.getD i 0):=by
 have hz:(Ew a b).length=n:=fw ha hb;have h1:=C3 (Ew a b) n aa;rw[List.take_of_length_le aa]at h1;rw[GL,h1];clear h1;have key:∀m,m<=n->aj m (λi=>(Ew a b).getD i 0)=aj m (λi=>a.getD i 0*b.getD i 0):=by
  intro m;induction m with
  |zero=>intro _;rfl
  |succ m ih=>intro h;rw[aj,aj,ih aa,ma (d1:=0) (d2:=0) aa aa]
 exact key n (ζ _)
section
variable (x y:Nat->Rat)
end
theorem ah {f g:Nat->Rat}:∀n,(∀i,i<n->f i=g i)->aj n f=aj n g
 |0,_=>rfl
 |n+1,h=>by rw[aj,aj,ah n (λi hi=>h i aa),h n aa]
theorem rq:∀n,aj n (λ_=>0)=0
 |0=>rfl
 |n+1=>by rw[aj,rq n];grind
def Sm (B:Nat) (l:List Rat):Prop:=∀i,i<l.length->fs (l.getD i 0)<=B
theorem AM {op:Rat->Rat->Rat} {a b:List Rat} {A B:Nat} (hop:∀x y,fs (op x y)<=fs x+fs y) (ha:Sm A a) (hb:Sm B b) (At:a.length=b.length):Sm (A+B) (ω op a b):=by
 intro i hi;rw[ahj]at hi;rw[ma (d1:=0) (d2:=0) aa aa];have h1:=hop (a.getD i 0) (b.getD i 0);have h2:=ha i aa;have h3:=hb i aa;omega
theorem mO {c:Rat} {a:List Rat} {A C:Nat} (hc:fs c<=C) (ha:Sm A a):Sm (C+A) (a7 c a):=by
 intro i hi;rw[ahj]at hi;rw[ma (d1:=0) (d2:=0) aa aa];have h1:=cH c (a.getD i 0);have h2:=ha i aa;omega
theorem Ez:∀{l:List Rat} {B:Nat},Sm B l->yd l<=l.length*B
 |[],_,_=>by simp[yd]
 |q::l,B,h=>by
  have h1:=h 0 (by simp);have h2:=Ez (l:=l) (B:=B) (λi hi=>h (i+1) (by simpa using hi));have e:yd (q::l)=fs q+yd l:=by simp[yd]
  rw[e,ϊ,ϯ];have:fs q<=B:=h1;omega
theorem P1 {a b:List Rat} {A B:Nat} (ha:Sm A a) (hb:Sm B b) (At:a.length=b.length) (h:A+B<=1073741824):Fit a b:=by
 intro i hi;have h1:=ha i hi;have h2:=hb i aa;omega
theorem VN {a b:List Rat} {A B n:Nat} (ha:Sm A a) (hb:Sm B b) (h1:a.length=n) (h2:b.length=n):fs (GL a b)<=2+n*(A+B):=by
 have h:=Ez (AM cH ha hb (h1.trans h2.symm));rw[fw h1 h2]at h;have h3:=PU (Ew a b) 0;rw[et]at h3;unfold GL;exact Ι h3 (Nat.add_le_add_left h 2)
abbrev yg (l:List (Int×Int)):Prop:=l.length<=maxLen/\∀x∈l,((Ϸ .i64 x.1).wf=true)/\((Ϸ .u32 x.2).wf=true)
theorem gF {l:List (Int×Int)} (w:l.length<=maxLen/\∀x∈l,((Ϸ .i64 x.1).wf=true)/\((Ϸ .u32 x.2).wf=true)):∀q∈l,my q:=λq hq=>⟨wf_i64 (w.2 q hq).1,wf_u32 (w.2 q hq).2⟩
theorem nS {q:Int×Int} (w:((Ϸ .i64 q.1).wf=true)/\((Ϸ .u32 q.2).wf=true)):my q:=⟨wf_i64 w.1,wf_u32 w.2⟩
theorem Ld {A B:Nat} {l:List Rat} (h:A<=B) (ha:Sm A l):Sm B l:=λi hi=>Ι (ha i hi) h
theorem EA (n:Nat):Sm 2 (θ n 0):=by
 intro i hi;rw[List.length_replicate]at hi;simp[δ,hi,et]
section
variable {a b z:List Rat} {n i:Nat} {c:Rat}
theorem EB (ha:a.length=n) (hb:b.length=n) (h:∀i,i<n->a.getD i 0=b.getD i 0):a=b:=by
 refine aju (ha.trans hb.symm) λi h1 h2=> ?_
 have:=h i aa;rwa [δ,δ,φ h1,φ h2]at this
theorem VO (ha:a.length=n) (hb:b.length=n) (hi:i<n):(Jw a b).getD i 0=a.getD i 0+b.getD i 0:=ma aa aa
theorem VP (ha:a.length=n) (hb:b.length=n) (hi:i<n):(jk a b).getD i 0=a.getD i 0 - b.getD i 0:=ma aa aa
theorem mz (ha:a.length=n) (hi:i<n):(a7 c a).getD i 0=c*a.getD i 0:=ma (d2:=0) aa aa
theorem ru (hi:i<n):(θ n (0:Rat)).getD i 0=0:=by simp[δ,hi]
theorem sum_add (f g:Nat->Rat):∀n,aj n (λi=>f i+g i)=aj n f+aj n g
 |0=>by simp only[aj];grind
 |n+1=>by simp only[aj];rw[sum_add f g n];grind
theorem sum_smul (c:Rat) (f:Nat->Rat):∀n,aj n (λi=>c*f i)=c*aj n f
 |0=>by simp only[aj];grind
 |n+1=>by simp only[aj];rw[sum_smul c f n];grind
end
def mk (r c:Nat) (f:Nat->Nat->Rat):List Rat:=(Η (r*c)).map λp=>f (p/c) (p % c)
abbrev el (a:List Rat) (c i k:Nat):Rat:=a.getD (i*c+k) 0
theorem eD (r c:Nat) (f:Nat->Nat->Rat):(mk r c f).length=r*c:=by simp[mk]
theorem dP {r c i k:Nat} (hi:i<r) (hk:k<c):i*c+k<r*c:=by
 have:=ο c (show i+1<=r from hi);rw[ϯ]at this;omega
theorem yR {c i k:Nat} (hk:k<c):(i*c+k)/c=i:=by
 rw[Ϣ,Nat.mul_add_div aa,Ϯ hk,abC]
theorem yS {c i k:Nat} (hk:k<c):(i*c+k) % c=k:=by
 rw[Ϣ,Nat.mul_add_mod,Υ hk]
theorem YX {r c:Nat} {f:Nat->Nat->Rat} {p:Nat} (hp:p<r*c):(mk r c f).getD p 0=f (p/c) (p % c):=by
 simp[mk,δ,hp]
theorem mP {r c i k:Nat} {f:Nat->Nat->Rat} (hi:i<r) (hk:k<c):el (mk r c f) c i k=f i k:=by
 rw[el,YX (dP hi hk),yR hk,yS hk]
theorem se {r c p:Nat} (hp:p<r*c):p/c<r/\p % c<c/\p/c*c+p % c=p:=by
 have hc:0<c:=by rcases acX c with h|h
                 ·subst h;omega
                 ·exact h
 refine⟨(Nat.div_lt_iff_lt_mul hc).2 hp,ab8 _ hc, ?_⟩;rw[Ϣ];exact Nat.div_add_mod p c
theorem VQ {a b:List Rat} {r c:Nat} (ha:a.length=r*c) (hb:b.length=r*c) (h:∀i k,i<r->k<c->el a c i k=el b c i k):a=b:=by
 refine EB ha hb λp hp=> ?_
 obtain⟨h1,h2,h3⟩:=se hp;have:=h _ _ h1 h2;rwa [el,el,h3]at this
theorem Jx {a:List Rat} {r c:Nat} {f:Nat->Nat->Rat} (ha:a.length=r*c) (h:∀i k,i<r->k<c->f i k=el a c i k):mk r c f=a:=
 VQ (eD ..) ha λi k hi hk=>by rw[mP hi hk,h i k hi hk]
theorem mk_congr {r c:Nat} {f g:Nat->Nat->Rat} (h:∀i k,i<r->k<c->f i k=g i k):mk r c f=mk r c g:=
 Jx (eD ..) λi k hi hk=>by rw[mP hi hk,h i k hi hk]
theorem C4 {r c B:Nat} {f:Nat->Nat->Rat} (h:∀i k,i<r->k<c->fs (f i k)<=B):Sm B (mk r c f):=by
 intro p hp;rw[eD]at hp;obtain⟨h1,h2,_⟩:=se hp;rw[YX hp];exact h _ _ h1 h2
theorem eM {a:List Rat} {r c B i k:Nat} (h:Sm B a) (ha:a.length=r*c) (hi:i<r) (hk:k<c):fs (el a c i k)<=B:=h _ (by rw[ha];exact dP hi hk)
theorem dX (f:Nat->Nat->Rat) (m:Nat):∀n,aj n (λi=>aj m (f i))=aj m (λk=>aj n (λi=>f i k))
 |0=>by
  rw[aj]
  have:aj m (λ_=>(0:Rat))=0:=by induction m with
   |zero=>rfl
   |succ m ih=>rw[aj,ih];grind
  exact(show aj m (λk=>aj 0 (λi=>f i k))=0 from this).symm
 |n+1=>by rw[aj,dX f m n,<-sum_add];exact ah m λk _=>rfl
theorem VR (c:Rat) (f:Nat->Rat) (n:Nat):aj n (λi=>f i*c)=aj n f*c:=by
 rw[afY,<-sum_smul];exact ah n λi _=>afY _ _
theorem pQ {f:Nat->Rat} {B:Nat}:∀n,(∀i,i<n->fs (f i)<=B)->fs (aj n f)<=2+n*B
 |0,_=>by rw[aj,et];omega
 |n+1,h=>by
  have h1:=pQ n (λi hi=>h i aa);have h2:=h n aa;have:=fW (aj n f) (f n);rw[aj,ϯ];omega
def delta (i k:Nat):Rat:=if i=k then 1 else 0
theorem eK {f:Nat->Rat} {i:Nat}:∀n,aj n (λj=>delta i j*f j)=if i<n then f i else 0
 |0=>by simp[aj]
 |n+1=>by
  rw[aj,eK n,delta];by_cases h:i=n
  ·subst h;simp;grind
  ·by_cases h2:i<n
   ·simp[h,h2,show i<n+1 by omega];grind
   ·simp[h,h2,show ¬i<n+1 by omega];grind
theorem AN (i k:Nat):delta i k=delta k i:=by unfold delta;by_cases h:i=k<;>simp[h,eq_comm]
theorem mR {f:Nat->Rat} {i n:Nat}:aj n (λj=>f j*delta j i)=if i<n then f i else 0:=by
 rw[<-eK n];exact ah n λj _=>by rw[AN,afY]
abbrev yy (r s t:Nat) (a b:List Rat):List Rat:=mk r t λi k=>aj s λp=>el a s i p*el b t p k
abbrev fZ (r c:Nat) (a:List Rat):List Rat:=mk c r λi k=>el a c k i
abbrev Cj (n:Nat):List Rat:=mk n n delta
abbrev jw (r c:Nat) (a v:List Rat):List Rat:=(Η r).map λi=>aj c λp=>el a c i p*v.getD p 0
theorem mS {r c:Nat} {a v:List Rat}:(jw r c a v).length=r:=by simp
theorem pR {r c i:Nat} {a v:List Rat} (hi:i<r):(jw r c a v).getD i 0=aj c λp=>el a c i p*v.getD p 0:=by
 simp[δ,hi]
theorem bH {f:Nat->Rat} (c:Rat) (n:Nat):c*aj n f=aj n λi=>c*f i:=(sum_smul c f n).symm
theorem ir {f:Nat->Rat} (c:Rat) (n:Nat):aj n f*c=aj n λi=>f i*c:=(VR c f n).symm
theorem C5 (f:Nat->Rat):∀n,aj (n+1) f=f 0+aj n (λi=>f (i+1))
 |0=>by simp only[aj];grind
 |n+1=>by rw[aj,C5 f n,aj];grind
theorem bh {f:Nat->Rat} {n:Nat} (h:∀i,i<n->f i=0):aj n f=0:=by
 rw[ah n h,rq]
theorem eu {f:Nat->Rat} {j:Nat}:∀n,j<n->(∀i,i<n->i≠j->f i=0)->aj n f=f j
 |0,h,_=>aa
 |n+1,hj,h=>by
  rw[aj];by_cases e:j=n
  ·subst e;rw[bh λi hi=>h i aa aa];grind
  ·rw[eu n aa (λi hi hn=>h i aa hn),h n aa (λg=>e g.symm)];grind
theorem VS {f:Nat->Rat} {j:Nat} {n:Nat} (hj:j+1<n) (h:∀i,i<n->i≠j->i≠j+1->f i=0) (h2:f j+f (j+1)=0):aj n f=0:=by
 have e:aj n f=aj n (λi=>(if i=j then f j else 0)+(if i=j+1 then f (j+1)else 0)):=ah n λi hi=>by
  by_cases h1:i=j
  ·subst h1;simp;grind
  ·by_cases h3:i=j+1
   ·subst h3;simp;grind
   ·rw[h i hi h1 h3,if_neg h1,if_neg h3];grind
 rw[e,sum_add,eu (f:=λi=>if i=j then f j else 0) (j:=j) n aa (λi _ hn=>if_neg hn),eu (f:=λi=>if i=j+1 then f (j+1)else 0) (j:=j+1) n hj (λi _ hn=>if_neg hn)];simp[h2]
abbrev Mx:=Nat->Nat->Rat
def sg:Nat->Rat
 |0=>1
 |n+1=> - sg n
theorem AO (m:Nat):∀n,sg (m+n)=sg m*sg n
 |0=>by rw[sg,abC];grind
 |n+1=>by rw[<-Nat.add_assoc,sg,sg,AO m n];grind
theorem GP (n:Nat):sg n*sg n=1:=by
 induction n with
 |zero=>rw[sg];grind
 |succ n ih=>rw[sg];grind
def sk (k j:Nat):Nat:=if j<k then j else j+1
theorem GQ (k j:Nat):sk k j≠k:=by unfold sk;split<;>omega
theorem AP {n k j:Nat} (hj:j<n):sk k j<n+1:=by unfold sk;split<;>omega
theorem nT {k j:Nat} (h:j<k):sk k j=j:=if_pos h
theorem uj {k j:Nat} (h:k<=j):sk k j=j+1:=if_neg aa
theorem aeJ {k l j:Nat} (h:l<=k):sk (k+1) (sk l j)=sk l (sk k j):=by
 unfold sk;by_cases h1:j<l
 ·simp[h1,show j<k by omega,show j<k+1 by omega]
 ·by_cases h2:j<k
  ·simp[h1,h2]
  ·simp[h1,h2,show ¬j+1<l by omega]
def mn (A:Mx) (k:Nat):Mx:=λi j=>A (i+1) (sk k j)
def bz:Nat->Mx->Rat
 |0,_=>1
 |n+1,A=>aj (n+1) λk=>sg k*A 0 k*bz n (mn A k)
theorem ca (n:Nat) (A:Mx):bz (n+1) A=aj (n+1) λk=>sg k*A 0 k*bz n (mn A k):=rfl
theorem bp:∀{n:Nat} {A B:Mx},(∀i k,i<n->k<n->A i k=B i k)->bz n A=bz n B
 |0,_,_,_=>rfl
 |n+1,A,B,h=>by
  rw[ca,ca];refine ah _ λk hk=> ?_
  rw[h 0 k aa hk,bp (n:=n) (A:=mn A k) (B:=mn B k) (λi j hi hj=>h _ _ aa (AP hj))]
def setRow (A:Mx) (i:Nat) (x:Nat->Rat):Mx:=λp q=>if p=i then x q else A p q
theorem aU (A:Mx) (i:Nat) (x:Nat->Rat):setRow A i x i=x:=by funext q;simp[setRow]
theorem aV (A:Mx) {i p:Nat} (x:Nat->Rat) (h:p≠i):setRow A i x p=A p:=by funext q;simp[setRow,h]
theorem setRow_self (A:Mx) (i:Nat):setRow A i (A i)=A:=by
 funext p q;by_cases h:p=i
 ·subst h;rw[aU]
 ·rw[aV _ _ h]
theorem Jy (A:Mx) (i:Nat) (x y:Nat->Rat):setRow (setRow A i x) i y=setRow A i y:=by
 funext p q;unfold setRow;split<;>rfl
theorem ja (A:Mx) {i j:Nat} (x y:Nat->Rat) (h:i≠j):setRow (setRow A i x) j y=setRow (setRow A j y) i x:=by
 funext p q;unfold setRow;by_cases h1:p=i
 ·subst h1;simp[h]
 ·simp[h1]
structure Alt (n:Nat) (F:Mx->Rat):Prop where
 congr:∀A B,(∀i k,i<n->k<n->A i k=B i k)->F A=F B
 wZ:∀A i x c y,i<n->F (setRow A i λk=>x k+c*y k)=F (setRow A i x)+c*F (setRow A i y)
 alt:∀A i,i+1<n->(∀k,k<n->A i k=A (i+1) k)->F A=0
theorem EC (A:Mx) (x:Nat->Rat) (k:Nat):mn (setRow A 0 x) k=mn A k:=by
 funext i j;rw[mn,aV _ _ aa];rfl
theorem Jz (A:Mx) (x:Nat->Rat) (k i:Nat):mn (setRow A (i+1) x) k=setRow (mn A k) i λj=>x (sk k j):=by
 funext p q;by_cases h:p=i
 ·subst h;rw[aU,mn,aU]
 ·rw[aV _ _ h,mn,aV _ _ aa];rfl
theorem ED:∀(n:Nat) (A:Mx) (i:Nat) (x:Nat->Rat) (c:Rat) (y:Nat->Rat),i<n->bz n (setRow A i λk=>x k+c*y k)=bz n (setRow A i x)+c*bz n (setRow A i y)
 |0,_,_,_,_,_,h=>aa
 |n+1,A,0,x,c,y,_=>by
  rw[ca,ca,ca,bH,<-sum_add];refine ah _ λk _=> ?_
  rw[aU,aU,aU,EC,EC,EC];grind
 |n+1,A,i+1,x,c,y,h=>by
  rw[ca,ca,ca,bH,<-sum_add];refine ah _ λk _=> ?_
  rw[aV _ _ aa,aV _ _ aa,aV _ _ aa,Jz,Jz,Jz,ED n _ _ _ _ _ aa];grind
theorem P5 (n:Nat) (T:Nat->Nat->Rat) (h:∀k l,l<=k->k<n->T (k+1) l= - T l k):aj (n+1) (λk=>aj n (T k))=0:=by
 have e1:aj (n+1) (λk=>aj n (T k))=aj (n+1) (λk=>aj n λl=>if l<k then T k l else 0)+aj (n+1) (λk=>aj n λl=>if l<k then 0 else T k l):=by
  rw[<-sum_add];refine ah _ λk _=> ?_
  rw[<-sum_add];exact ah _ λl _=>by split<;>grind
 have e2:aj (n+1) (λk=>aj n λl=>if l<k then T k l else 0)=aj n λk=>aj n λl=>if l<k+1 then T (k+1) l else 0:=by
  rw[C5,bh λl _=>if_neg aa];grind
 have e3:aj (n+1) (λk=>aj n λl=>if l<k then 0 else T k l)=aj n λk=>aj n λl=>if k<l then 0 else T l k:=by
  rw[aj,bh (f:=λl=>if l<n then 0 else T n l) λl hl=>if_pos hl,dX];grind
 rw[e1,e2,e3,<-sum_add];refine bh λk hk=> ?_
 rw[<-sum_add];refine bh λl hl=> ?_
 by_cases h1:l<=k
 ·rw[if_pos aa,if_neg aa,h k l h1 hk];grind
 ·rw[if_neg aa,if_pos aa];grind
theorem AQ:∀(n:Nat) (A:Mx) (i:Nat),i+1<n->(∀k,k<n->A i k=A (i+1) k)->bz n A=0
 |0,_,_,h,_=>aa
 |1,_,_,h,_=>aa
 |n+2,A,0,_,h=>by
  rw[ca];have e:∀k,k<n+2->sg k*A 0 k*bz (n+1) (mn A k)=aj (n+1) λl=>sg k*A 0 k*(sg l*A 1 (sk k l)*bz n (mn (mn A k) l)):=λk _=>by
   rw[ca,bH];rfl
  rw[ah _ e];refine P5 (n+1) (λk l=>sg k*A 0 k*(sg l*A 1 (sk k l)*bz n (mn (mn A k) l))) λk l hl hk=> ?_
  have e1:mn (mn A (k+1)) l=mn (mn A l) k:=by
   funext i j;rw[mn,mn,mn,mn,aeJ hl]
  show sg (k+1)*A 0 (k+1)*(sg l*A 1 (sk (k+1) l)*bz n (mn (mn A (k+1)) l))= - (sg l*A 0 l*(sg k*A 1 (sk l k)*bz n (mn (mn A l) k)));rw[e1,nT aa,uj hl,h (k+1) aa,h l aa,sg];grind
 |n+2,A,i+1,hi,h=>by
  rw[ca];refine bh λk _=> ?_
  rw[AQ (n+1) (mn A k) i aa (λj hj=>h _ (AP hj))];grind
theorem gf (n:Nat):Alt n (bz n):=⟨λ_ _=>bp,λA i x c y=>ED n A i x c y,λA i=>AQ n A i⟩
section
variable {n:Nat} {F:Mx->Rat} (hF:Alt n F)
include hF
theorem Alt.add (A:Mx) {i:Nat} (x y:Nat->Rat) (hi:i<n):F (setRow A i λk=>x k+y k)=F (setRow A i x)+F (setRow A i y):=by
 have:=hF.wZ A i x 1 y hi;rw[show(λk=>x k+1*y k)=λk=>x k+y k from by funext k;grind]at this;rw[this];grind
theorem Alt.zero (A:Mx) {i:Nat} (hi:i<n):F (setRow A i λ_=>0)=0:=by
 have:=hF.add A (λ_=>0) (λ_=>0) hi;rw[show(λ_:Nat=>(0:Rat)+0)=λ_=>0 from by funext k;grind]at this;grind
theorem Alt.smul (A:Mx) {i:Nat} (c:Rat) (x:Nat->Rat) (hi:i<n):F (setRow A i λk=>c*x k)=c*F (setRow A i x):=by
 have:=hF.wZ A i (λ_=>0) c x hi;rw[hF.zero A hi,show(λk=>(0:Rat)+c*x k)=λk=>c*x k from by funext k;grind]at this;rw[this];grind
theorem Alt.sum (A:Mx) {i:Nat} (hi:i<n) (a:Nat->Rat) (e:Nat->Nat->Rat):∀m,F (setRow A i λk=>aj m λp=>a p*e p k)=aj m λp=>a p*F (setRow A i (e p))
 |0=>by simp only[aj];exact hF.zero A hi
 |m+1=>by
  simp only[aj];rw[hF.wZ A i (λk=>aj m λp=>a p*e p k) (a m) (e m) hi,Alt.sum A hi a e m]
def aP (A:Mx) (i j:Nat):Mx:=λp=>if p=i then A j else if p=j then A i else A p
omit hF in
theorem P6 (A:Mx) {i j:Nat} (h:i≠j):aP A i j=setRow (setRow A i (A j)) j (A i):=by
 funext p q;unfold aP;by_cases h1:p=i
 ·subst h1;rw[if_pos rfl,aV _ _ h,aU]
 ·by_cases h2:p=j
  ·subst h2;rw[if_neg h1,if_pos rfl,aU]
  ·rw[if_neg h1,if_neg h2,aV _ _ h2,aV _ _ h1]
theorem Alt.Lf (A:Mx) {i j:Nat} (hi:i<n) (hj:j<n) (a8:i≠j) (h0:∀x,F (setRow (setRow A i x) j x)=0):F (aP A i j)= - F A:=by
 have h1:=h0 (λk=>A i k+A j k)
 rw[hF.add _ _ _ hj,ja _ _ _ a8,hF.add _ _ _ hi,ja _ _ _ a8,hF.add _ _ _ hi,
  ja _ _ _ a8.symm,h0,ja _ _ _ a8.symm,ja _ _ _ a8.symm,ja _ _ _ a8.symm,h0]at h1
 have e1:setRow (setRow A i (A i)) j (A j)=A:=by rw[setRow_self,setRow_self]
 rw[<-P6 A a8]at h1;rw[e1]at h1;grind
theorem Alt.YY (A:Mx) {i:Nat} (hi:i+1<n):F (aP A i (i+1))= - F A:=
 hF.Lf A aa hi aa λx=>hF.alt _ i hi λk _=>by rw[aV _ _ aa,aU,aU]
theorem Alt.same (d:Nat):∀(A:Mx) (i:Nat),i+d+1<n->(∀k,k<n->A i k=A (i+d+1) k)->F A=0:=by
 induction d with
 |zero=>exact λA i hi h=>hF.alt A i hi h
 |succ d ih=>
  intro A i hi h;have h1:=ih (aP A (i+d+1) (i+d+1+1)) i aa λk hk=>by
   unfold aP;rw[if_neg aa,if_neg aa,if_pos rfl];exact h k hk
  rw[hF.YY A aa]at h1;grind
theorem Alt.eq (A:Mx) {i j:Nat} (hi:i<n) (hj:j<n) (a8:i≠j) (h:∀k,k<n->A i k=A j k):F A=0:=by
 rcases ahw a8 with g|g
 ·exact hF.same (j - i - 1) A i aa λk hk=>by rw[show i+(j - i - 1)+1=j by omega];exact h k hk
 ·exact hF.same (i - j - 1) A j aa λk hk=>by rw[show j+(i - j - 1)+1=i by omega];exact(h k hk).symm
theorem Alt.swap (A:Mx) {i j:Nat} (hi:i<n) (hj:j<n) (a8:i≠j):F (aP A i j)= - F A:=
 hF.Lf A hi hj a8 λx=>hF.eq _ hi hj a8 λk _=>by rw[aV _ _ a8,aU,aU]
theorem Alt.JA (A:Mx) {i j:Nat} (c:Rat) (hi:i<n) (hj:j<n) (a8:i≠j):F (setRow A i λk=>A i k+c*A j k)=F A:=by
 rw[hF.wZ A i (A i) c (A j) hi,setRow_self,hF.eq (setRow A i (A j)) hi hj a8 λk _=>by rw[aU,aV _ _ (λh=>a8 h.symm)]];grind
def mT (k:Nat) (A:Mx):Mx:=λi=>if i=0 then A k else if i<=k then A (i - 1)else A i
theorem Alt.top:∀(k:Nat) (A:Mx),k<n->F (mT k A)=sg k*F A
 |0,A,_=>by
  rw[show mT 0 A=A from by
   funext i;unfold mT;by_cases h:i=0
   ·rw[if_pos h,h]
   ·rw[if_neg h,if_neg aa],sg]
  grind
 |k+1,A,h=>by
  have e:mT (k+1) A=mT k (aP A k (k+1)):=by
   funext i;unfold mT aP;by_cases h1:i=0
   ·rw[if_pos h1,if_pos h1,if_pos rfl]
   ·rw[if_neg h1,if_neg h1];by_cases h2:i<=k
    ·rw[if_pos aa,if_pos h2,if_neg aa,if_neg aa]
    ·rw[if_neg h2];by_cases h3:i=k+1
     ·subst h3;rw[if_pos aa,if_neg aa,if_pos rfl];rfl
     ·rw[if_neg aa,if_neg aa,if_neg h3]
  rw[e,Alt.top k _ aa,hF.YY A h,sg];grind
end
def un (k q:Nat):Nat:=if q<k then q else q - 1
theorem GR (k j:Nat):un k (sk k j)=j:=by
 unfold un sk;by_cases h:j<k
 ·rw[if_pos h,if_pos h]
 ·rw[if_neg h,if_neg aa];rfl
theorem YZ {k q:Nat} (h:q≠k):sk k (un k q)=q:=by
 unfold un sk;by_cases h1:q<k
 ·rw[if_pos h1,if_pos h1]
 ·rw[if_neg h1,if_neg aa];omega
theorem P7 {n k q:Nat} (hq:q<n+1) (hk:k<n+1) (h:q≠k):un k q<n:=by unfold un;split<;>omega
def vT (k:Nat) (B:Mx):Mx:=λi q=>if i=0 then delta k q else if q=k then 0 else B (i - 1) (un k q)
theorem AR (k:Nat) (B:Mx) (i:Nat) (x:Nat->Rat):vT k (setRow B i x)=setRow (vT k B) (i+1) λq=>if q=k then 0 else x (un k q):=by
 funext p q;by_cases h:p=i+1
 ·subst h;rw[aU,vT,if_neg aa,show i+1 - 1=i by omega,aU]
 ·rw[aV _ _ h,vT,vT];by_cases h0:p=0
  ·rw[if_pos h0,if_pos h0]
  ·rw[if_neg h0,if_neg h0,aV _ _ aa]
theorem Alt.vT {n:Nat} {F:Mx->Rat} (hF:Alt (n+1) F) {k:Nat} (hk:k<n+1):Alt n λB=>F (vT k B) where
 congr:=λA B h=>hF.congr _ _ λi q hi hq=>by
  unfold Go.Proofs.YtadphegfhgmgmaaGreatDoor.vT;by_cases h0:i=0
  ·rw[if_pos h0,if_pos h0]
  ·rw[if_neg h0,if_neg h0];by_cases h1:q=k
   ·rw[if_pos h1,if_pos h1]
   ·rw[if_neg h1,if_neg h1];exact h _ _ aa (P7 hq hk h1)
 wZ:=λA i x c y hi=>by
  show F _=F _+c*F _;rw[AR,AR,AR,<-hF.wZ _ _ _ _ _ aa];congr 2;funext q;by_cases h:q=k
  ·rw[if_pos h,if_pos h,if_pos h];grind
  ·rw[if_neg h,if_neg h,if_neg h]
 alt:=λA i hi h=>hF.alt _ (i+1) aa λq hq=>by
  unfold Go.Proofs.YtadphegfhgmgmaaGreatDoor.vT;rw[if_neg (show ¬i+1=0 by omega),if_neg (show ¬i+1+1=0 by omega)];by_cases h1:q=k
  ·rw[if_pos h1,if_pos h1]
  ·rw[if_neg h1,if_neg h1];exact h _ (P7 hq hk h1)
theorem pT:∀(n:Nat) (F:Mx->Rat),Alt n F->∀A,F A=F delta*bz n A
 |0,F,hF,A=>by rw[hF.congr A delta λi k hi=>aa,bz];grind
 |n+1,F,hF,A=>by
  have e0:F A=aj (n+1) λk=>A 0 k*F (setRow A 0 (delta k)):=by
   rw[<-hF.sum A aa (A 0) delta (n+1)];refine hF.congr _ _ λi q hi hq=> ?_
   by_cases h:i=0
   ·subst h;rw[aU,mR,if_pos hq]
   ·rw[aV _ _ h]
  rw[e0,ca,bH];refine ah _ λk hk=> ?_
  have e1:∀m,m<=n->F (setRow A 0 (delta k))=F (λi q=>if i=0 then delta k q else if i<=m/\q=k then 0 else A i q):=by
   intro m;induction m with
   |zero=>
    intro _;refine hF.congr _ _ λi q _ _=> ?_
    by_cases h:i=0
    ·subst h;rw[aU,if_pos rfl]
    ·rw[aV _ _ h,if_neg h,if_neg aa]
   |succ m ih=>
    intro hm;rw[ih aa,<-hF.JA (i:=m+1) (j:=0) (λi q=>if i=0 then delta k q else if i<=m/\q=k then 0 else A i q) (- A (m+1) k) aa aa aa];refine hF.congr _ _ λi q _ _=> ?_
    by_cases h:i=m+1
    ·subst h;rw[aU,if_neg aa,if_neg aa,if_pos rfl,if_neg aa];by_cases hq:q=k
     ·subst hq;rw[if_pos ⟨ζ _,rfl⟩];simp[delta];grind
     ·rw[if_neg (λg=>hq g.2),delta,if_neg (λg=>hq g.symm)];grind
    ·rw[aV _ _ h];by_cases h0:i=0
     ·rw[if_pos h0,if_pos h0]
     ·rw[if_neg h0,if_neg h0];by_cases g:i<=m/\q=k
      ·rw[if_pos g,if_pos ⟨aa,g.2⟩]
      ·rw[if_neg g,if_neg (λg2=>g ⟨aa,g2.2⟩)]
  have e2:F (setRow A 0 (delta k))=F (vT k (mn A k)):=by
   rw[e1 n (ζ _)];refine hF.congr _ _ λi q hi _=> ?_
   unfold vT;by_cases h0:i=0
   ·rw[if_pos h0,if_pos h0]
   ·rw[if_neg h0,if_neg h0];by_cases hq:q=k
    ·rw[if_pos ⟨aa,hq⟩,if_pos hq]
    ·rw[if_neg (λg=>hq g.2),if_neg hq,mn,YZ hq,show i - 1+1=i by omega]
  have e3:F (vT k delta)=sg k*F delta:=by
   rw[<-hF.top k delta hk];refine hF.congr _ _ λi q hi _=> ?_
   unfold vT mT;by_cases h0:i=0
   ·rw[if_pos h0,if_pos h0]
   ·rw[if_neg h0,if_neg h0];by_cases hq:q=k
    ·rw[if_pos hq,hq];by_cases h1:i<=k
     ·rw[if_pos h1,delta,if_neg aa]
     ·rw[if_neg h1,delta,if_neg aa]
    ·rw[if_neg hq];unfold un delta;by_cases h1:i<=k
     ·rw[if_pos h1];by_cases h2:q<k
      ·rw[if_pos h2]
      ·rw[if_neg h2,if_neg aa,if_neg aa]
     ·rw[if_neg h1];by_cases h2:q<k
      ·rw[if_pos h2,if_neg aa,if_neg aa]
      ·rw[if_neg h2];by_cases h3:i=q
       ·rw[if_pos aa,if_pos h3]
       ·rw[if_neg aa,if_neg h3]
  rw[e2,pT n _ (hF.vT hk) (mn A k),e3];grind
theorem vU:∀n,bz n delta=1
 |0=>rfl
 |n+1=>by
  rw[ca,eu (j:=0) (n+1) aa λi _ hi=>by rw[delta,if_neg λh=>hi h.symm];grind]
  rw[sg,bp (A:=mn delta 0) (B:=delta) λi k _ _=>by
   show delta (i+1) (sk 0 k)=_;rw[uj aa];unfold delta;by_cases h:i=k
   ·rw[if_pos aa,if_pos h]
   ·rw[if_neg aa,if_neg h],vU n]
  simp[delta]
def pr (n:Nat) (A B:Mx):Mx:=λi k=>aj n λp=>A i p*B p k
theorem yT (n:Nat) (A B:Mx):bz n (pr n A B)=bz n A*bz n B:=by
 have h:Alt n λA=>bz n (pr n A B):={
  congr:=λA A' h=>bp λi k hi hk=>ah n λp hp=>by rw[h i p hi hp]
  wZ:=λA i x c y hi=>by
   have e:∀z,pr n (setRow A i z) B=setRow (pr n A B) i λk=>aj n λp=>z p*B p k:=λz=>by
    funext p q;by_cases h:p=i
    ·subst h;rw[aU,pr];simp only[aU]
    ·rw[aV _ _ h];unfold pr;simp only[aV _ _ h]
   show bz n _=bz n _+c*bz n _;rw[e,e,e,<-ED n _ _ _ _ _ hi];congr 2;funext k;rw[bH,<-sum_add];exact ah n λp _=>by grind
  alt:=λA i hi h=>AQ n _ i hi λk _=>ah n λp hp=>by rw[h p hp]}
 rw[pT n _ h A];show bz n (pr n delta B)*bz n A=_;rw[bp (A:=pr n delta B) (B:=B) λi k hi _=>by rw[pr,eK,if_pos hi]];grind
def og (A:Mx) (j:Nat) (x:Nat->Rat):Mx:=λp q=>if q=j then x p else A p q
theorem pU (A:Mx) (x:Nat->Rat) (k:Nat):mn (og A k x) k=mn A k:=by
 funext i j;rw[mn,og,if_neg (GQ _ _)];rfl
theorem xj (A:Mx) (x:Nat->Rat) {j k:Nat} (h:j≠k):mn (og A j x) k=og (mn A k) (un k j) λp=>x (p+1):=by
 funext p q;unfold mn og;by_cases e:sk k q=j
 ·rw[if_pos e,if_pos (by rw[<-e,GR])]
 ·rw[if_neg e,if_neg λg=>e (by rw[g,YZ h])]
theorem AS:∀(n:Nat) (A:Mx) (j:Nat) (x:Nat->Rat) (c:Rat) (y:Nat->Rat),j<n->bz n (og A j λk=>x k+c*y k)=bz n (og A j x)+c*bz n (og A j y)
 |0,_,_,_,_,_,h=>aa
 |n+1,A,j,x,c,y,hj=>by
  rw[ca,ca,ca,bH,<-sum_add];refine ah _ λk hk=> ?_
  by_cases h:j=k
  ·subst h;rw[pU,pU,pU];simp only[og,if_true];grind
  ·rw[xj _ _ h,xj _ _ h,xj _ _ h,AS n _ _ _ _ _ (P7 hj hk h)];simp only[og,if_neg λg=>h (Eq.symm g)];grind
theorem uJ:∀(n:Nat) (A:Mx) (j:Nat),j+1<n->(∀i,i<n->A i j=A i (j+1))->bz n A=0
 |0,_,_,h,_=>aa
 |n+1,A,j,hj,h=>by
  rw[ca];refine VS hj (λk hk h1 h2=> ?_) ?_
  ·have:bz n (mn A k)=0:=by
    rcases ahw h1 with g|g
    ·refine uJ n _ (j - 1) aa λi hi=> ?_
     show A (i+1) (sk k (j - 1))=A (i+1) (sk k (j - 1+1));rw[uj aa,uj aa,show j - 1+1=j by omega];exact h _ aa
    ·refine uJ n _ j aa λi hi=> ?_
     show A (i+1) (sk k j)=A (i+1) (sk k (j+1));rw[nT aa,nT aa];exact h _ aa
   rw[this];grind
  ·have:bz n (mn A j)=bz n (mn A (j+1)):=bp λi q hi _=>by
    unfold mn;by_cases e:q=j
    ·subst e;rw[uj (ζ _),nT (gq _)];exact(h _ aa).symm
    ·by_cases g:q<j
     ·rw[nT g,nT aa]
     ·rw[uj aa,uj aa]
   rw[this,h 0 aa,sg];grind
def tr (A:Mx):Mx:=λi k=>A k i
theorem oS (n:Nat) (A:Mx):bz n (tr A)=bz n A:=by
 have h:Alt n λA=>bz n (tr A):={
  congr:=λA A' h=>bp λi k hi hk=>h k i hk hi
  wZ:=λA i x c y hi=>AS n (tr A) i x c y hi
  alt:=λA i hi h=>uJ n (tr A) i hi h}
 rw[pT n _ h A];show bz n (tr delta)*bz n A=_;rw[bp (A:=tr delta) (B:=delta) λi k _ _=>AN k i,vU];grind
def IH (A:Mx) (r k:Nat):Mx:=λi j=>A (sk r i) (sk k j)
theorem EE (n:Nat) (A:Mx) {r:Nat} (hr:r<n+1):bz (n+1) A=aj (n+1) λk=>sg (r+k)*A r k*bz n (IH A r k):=by
 have h:=(gf (n+1)).top r A hr;have h2:bz (n+1) A=sg r*bz (n+1) (mT r A):=by rw[h,<-Rat.mul_assoc,GP];grind
 rw[h2,ca,bH];refine ah _ λk _=> ?_
 have e:mn (mT r A) k=IH A r k:=by
  funext i j;unfold mn IH mT;rw[if_neg aa];by_cases g:i<r
  ·rw[if_pos aa,nT g];rfl
  ·rw[if_neg aa,uj (k:=r) aa]
 rw[e,AO,show mT r A 0=A r from rfl];grind
theorem aby (A:Mx) (r k:Nat):IH (tr A) r k=tr (IH A k r):=rfl
def sZ (n:Nat) (A:Mx):Mx:=λi k=>sg (i+k)*bz (n - 1) (IH A k i)
theorem abz (n:Nat) (A:Mx) (i k:Nat):sZ n (tr A) i k=sZ n A k i:=by
 rw[sZ,sZ,aby,oS,afk]
theorem VT (A:Mx) (r k:Nat) (x:Nat->Rat):IH (setRow A r x) r k=IH A r k:=by
 funext i j;rw[IH,aV _ _ (GQ _ _)];rfl
theorem Lg {n:Nat} (A:Mx) {i k:Nat} (hi:i<n) (hk:k<n):pr n A (sZ n A) i k=if i=k then bz n A else 0:=by
 obtain⟨m,rfl⟩:∃m,n=m+1:=⟨n - 1,aa⟩;have h:pr (m+1) A (sZ (m+1) A) i k=bz (m+1) (setRow A k (A i)):=by
  rw[EE m _ hk];refine ah _ λp _=> ?_
  rw[VT,aU,sZ,afk k p,show m+1 - 1=m from rfl];grind
 rw[h];by_cases e:i=k
 ·subst e;rw[setRow_self,if_pos rfl]
 ·rw[if_neg e,(gf (m+1)).eq _ hi hk e λq _=>by rw[aV _ _ e,aU]]
theorem EF {n:Nat} (A:Mx) {i k:Nat} (hi:i<n) (hk:k<n):pr n (sZ n A) A i k=if i=k then bz n A else 0:=by
 have h:=Lg (tr A) hk hi;rw[oS]at h;have e:pr n (sZ n A) A i k=pr n (tr A) (sZ n (tr A)) k i:=ah _ λp _=>by rw[abz,afY];rfl
 rw[e,h];by_cases g:i=k
 ·rw[if_pos g,if_pos g.symm]
 ·rw[if_neg g,if_neg (λh=>g h.symm)]
def cM:List Rat->Rat->Rat
 |[],_=>0
 |a::l,t=>a+t*cM l t
def jR (f:Rat->Rat):Prop:=∃l,∀t,f t=cM l t
theorem jR.const (c:Rat):jR λ_=>c:=⟨[c],λt=>by simp only[cM];grind⟩
theorem jR.id:jR λt=>t:=⟨[0,1],λt=>by simp only[cM];grind⟩
def nA:List Rat->List Rat->List Rat
 |[],l=>l
 |l,[]=>l
 |a::l,b::m=>(a+b)::nA l m
theorem oT:∀(l m:List Rat) (t:Rat),cM (nA l m) t=cM l t+cM m t
 |[],m,t=>by rw[nA,cM];grind
 |a::l,[],t=>by rw[nA];simp only[cM];grind;simp
 |a::l,b::m,t=>by rw[nA];simp only[cM];rw[oT l m t];grind
theorem vV:∀(l m:List Rat) (d:Nat),l.length<=d->m.length<=d->(nA l m).length<=d
 |[],m,d,_,h=>by rw[nA];exact h
 |a::l,[],d,h,_=>by rw[nA];exact h;simp
 |a::l,b::m,0,h,_=>by simp at h
 |a::l,b::m,d+1,h1,h2=>by rw[nA,ϊ];have:=vV l m d (by simpa using h1) (by simpa using h2);omega
theorem mb (c:Rat):∀(l:List Rat) (t:Rat),cM (l.map (c*·)) t=c*cM l t
 |[],t=>by simp only[af6,cM];grind
 |a::l,t=>by simp only[ϲ,cM];rw[mb c l t];grind
theorem jR.add {f g:Rat->Rat} (hf:jR f) (hg:jR g):jR λt=>f t+g t:=by
 obtain⟨l,hl⟩:=hf;obtain⟨m,hm⟩:=hg;exact⟨nA l m,λt=>by show f t+g t=_;rw[oT,hl,hm]⟩
theorem jR.smul {f:Rat->Rat} (c:Rat) (hf:jR f):jR λt=>c*f t:=by
 obtain⟨l,hl⟩:=hf;exact⟨l.map (c*·),λt=>by show c*f t=_;rw[mb,hl]⟩
theorem jR.x {f:Rat->Rat} (hf:jR f):jR λt=>t*f t:=by
 obtain⟨l,hl⟩:=hf;exact⟨0::l,λt=>by show t*f t=_;rw[cM,hl];grind⟩
theorem jR.mul {f g:Rat->Rat} (hf:jR f) (hg:jR g):jR λt=>f t*g t:=by
 obtain⟨l,hl⟩:=hf;have:∀l:List Rat,jR λt=>cM l t*g t:=by
  intro l;induction l with
  |nil=>exact⟨[],λt=>by simp only[cM];grind⟩
  |cons a l ih=>
   obtain⟨m,hm⟩:=(hg.smul a).add ih.x;exact⟨m,λt=>by rw[<-hm t];simp only[cM];grind⟩
 obtain⟨m,hm⟩:=this l;exact⟨m,λt=>by show f t*g t=_;rw[hl];exact hm t⟩
theorem jR.sub {f g:Rat->Rat} (hf:jR f) (hg:jR g):jR λt=>f t - g t:=by
 obtain⟨m,hm⟩:=hf.add (hg.smul (-1));exact⟨m,λt=>by rw[<-hm t];grind⟩
theorem jR.sum {f:Nat->Rat->Rat}:∀n,(∀i,i<n->jR (f i))->jR λt=>aj n λi=>f i t
 |0,_=>⟨[],λt=>by simp only[aj,cM]⟩
 |n+1,h=>(jR.sum n λi hi=>h i aa).add (h n aa)
theorem jR.bz {A:Rat->Mx}:∀n,(∀i k,jR λt=>A t i k)->jR λt=>bz n (A t)
 |0,_=>jR.const 1
 |n+1,h=>jR.sum (n+1) λk _=>((h 0 k).smul (sg k)).mul (jR.bz (A:=λt=>mn (A t) k) n λ_ _=>h _ _)
def qd (s:Rat):List Rat->List Rat
 |[]=>[]
 |_::l=>nA l ((qd s l).map (s*·))
theorem JB (s:Rat):∀(l:List Rat),(qd s l).length<=l.length - 1
 |[]=>by simp[qd]
 |a::l=>by
  rw[qd];refine vV _ _ _ (by simp) ?_;rw[Χ];have:=JB s l;simp;omega
theorem EG (s:Rat):∀(l:List Rat) (t:Rat),cM l t - cM l s=(t - s)*cM (qd s l) t
 |[],t=>by simp only[cM,qd];grind
 |a::l,t=>by
  have:=EG s l t;rw[qd,oT,mb];simp only[cM];grind
theorem GS:∀(d N:Nat) (l:List Rat),l.length<=d->(∀n:Nat,N<=n->cM l n=0)->∀t,cM l t=0
 |0,_,l,hl,_,t=>by
  obtain rfl:l=[]:=List.eq_nil_of_length_eq_zero aa;rfl
 |d+1,N,l,hl,h,t=>by
  have h1:=EG (N:Rat) l;rw[h N (ζ _)]at h1;have h2:=GS d (N+1) (qd N l) (by have:=JB (N:Rat) l;omega) λn hn=>by
   have:=h1 n;rw[h n aa]at this;have a8:(n:Rat) - N≠0:=by
    intro e;have:(n:Rat)=N:=by grind
    have:=alG.1 this;omega
   have h0:((n:Rat) - N)*cM (qd N l) n=0:=by rw[<-this];grind
   rcases acO.1 h0 with g|g
   ·exact absurd g a8
   ·exact g
  have:=h1 t;rw[h2 t]at this;grind
theorem jR.zero {f:Rat->Rat} (hf:jR f) (N:Nat) (h:∀n:Nat,N<=n->f n=0) (t:Rat):f t=0:=by
 obtain⟨l,hl⟩:=hf;rw[hl];exact GS _ N l (ζ _) (λn hn=>by rw[<-hl];exact h n hn) t
theorem jR.wW {f h:Rat->Rat} (hf:jR f) (hh:jR h) (h0:h 0≠0) (H:∀s,h s≠0->f s=0) (t:Rat):f t=0:=by
 have key:∀l:List Rat,(∀t,cM l t*h t=0)->∀t,cM l t=0:=by
  intro l;induction l with
  |nil=>intro _ t;rfl
  |cons a l ih=>
   intro hz t;have h1:=hz 0;simp only[cM]at h1;have ha:a=0:=by
    rcases acO.1 h1 with g|g
    ·grind
    ·exact absurd g h0
   have hp:jR λt=>cM l t*h t:=jR.mul ⟨l,λ_=>rfl⟩ hh
   have h2:=ih λt=>hp.zero 1 (λn hn=>by
    have h3:=hz n;simp only[cM]at h3;rw[ha]at h3;have h4:(n:Rat)*(cM l n*h n)=0:=by grind
    rcases acO.1 h4 with g|g
    ·have:=alG.1 (show(n:Rat)=(0:Nat) by rw[g];rfl);omega
    ·exact g) t
   simp only[cM];rw[ha,h2 t];grind
 obtain⟨l,hl⟩:=hf;rw[hl];refine key l (λt=> ?_) t;by_cases g:h t=0
 ·rw[g];grind
 ·rw[<-hl,H t g];grind
def EH (A:Mx) (s:Rat):Mx:=λi k=>s*A i k+(1 - s)*delta i k
theorem AT (A:Mx) (i k:Nat):jR λs=>EH A s i k:=(jR.id.mul (jR.const _)).add (((jR.const 1).sub jR.id).mul (jR.const _))
theorem P8 (A:Mx):EH A 1=A:=by funext i k;unfold EH;grind
theorem Ni (A:Mx):EH A 0=delta:=by funext i k;unfold EH;grind
theorem generic (s:Nat) (A:Mx) (f:Mx->Rat) (hp:jR λt=>f (EH A t)) (h:∀B,bz s B≠0->f B=0):f A=0:=by
 have:=hp.wW (h:=λt=>bz s (EH A t)) (jR.bz s (AT A)) (by show bz s (EH A 0)≠0;rw[Ni,vU];decide) (λt ht=>h _ ht) 1;rwa [P8]at this
theorem Alt.yU {n:Nat} {F:Mx->Rat} (hF:Alt n F) (A:Mx) {i:Nat} (c:Nat->Rat) (hi:i<n):∀m,m<=i->F (setRow A i λk=>A i k+aj m λp=>c p*A p k)=F A
 |0,_=>by
  simp only[aj];rw[show(λk=>A i k+0)=A i from by funext k;grind,setRow_self]
 |m+1,h=>by
  have h1:=hF.JA (i:=i) (j:=m) (setRow A i λk=>A i k+aj m λp=>c p*A p k) (c m) hi aa aa;rw[aU,Jy,aV _ _ aa,Alt.yU hF A c hi m aa]at h1;rw[<-h1];congr 2;funext k;simp only[aj];grind
theorem GU {n:Nat} {A:Mx} (h:∀k,k<n->A n k=0):bz (n+1) A=A n n*bz n A:=by
 rw[EE n A (r:=n) aa,eu (j:=n) (n+1) aa λk hk a8=>by rw[h k aa];grind,AO,GP];rw[bp (A:=IH A n n) (B:=A) λi j hi hj=>by unfold IH;rw[nT hi,nT hj]];grind
theorem Nj {n:Nat} {A:Mx} (h:∀k,k<n->A (n+1) k=0):bz (n+2) A=A (n+1) (n+1)*bz (n+1) A - A (n+1) n*bz (n+1) (λi j=>A i (if j<n then j else n+1)):=by
 rw[EE (n+1) A (r:=n+1) aa,aj,aj,bh λk hk=>by rw[h k hk];grind]
 rw[bp (A:=IH A (n+1) n) (B:=λi j=>A i (if j<n then j else n+1)) λi j hi hj=>by
  unfold IH;rw[nT hi];by_cases g:j<n
  ·rw[nT g,if_pos g]
  ·rw[uj aa,if_neg g,show j=n by omega]]
 rw[bp (A:=IH A (n+1) (n+1)) (B:=A) λi j hi hj=>by unfold IH;rw[nT hi,nT hj]];rw[show n+1+n=(n+n)+1 by omega,sg,AO,GP,AO,GP];grind
def iw (s i a:Nat):Nat:=if a<s then a else s+i
def bm (s:Nat) (A:Mx) (i k:Nat):Rat:=bz (s+1) λa b=>A (iw s i a) (iw s k b)
theorem aeK (s:Nat) (A:Mx) (i k:Nat):bm s (tr A) i k=bm s A k i:=by
 unfold bm;rw[<-oS];rfl
theorem VU (A:Mx) (i k:Nat):bm 0 A i k=A i k:=by
 unfold bm iw;rw[ca,aj,aj,bz,sg];simp only[Nat.not_lt_zero,if_false,υ];grind
theorem GV (s:Nat) (A:Mx):bm s A 0 0=bz (s+1) A:=bp λa b ha hb=>by
 have e:∀x,x<s+1->iw s 0 x=x:=λx hx=>by unfold iw;split<;>omega
 rw[e a ha,e b hb]
section
variable {s:Nat} {A:Mx} (hd:bz s A≠0)
include hd
def xs (s:Nat) (A:Mx) (r:Nat->Rat) (p:Nat):Rat:=aj s λq=>r q*(sZ s A q p*(bz s A)⁻¹)
theorem JC (r:Nat->Rat) {b:Nat} (hb:b<s):aj s (λp=>xs s A r p*A p b)=r b:=by
 have e1:aj s (λp=>xs s A r p*A p b)=aj s λp=>aj s λq=>r q*(sZ s A q p*(bz s A)⁻¹)*A p b:=
  ah s λp _=>by rw[xs,ir]
 have e2:∀q,q<s->aj s (λp=>r q*(sZ s A q p*(bz s A)⁻¹)*A p b)=r q*delta q b:=λq hq=>by
  have h1:=EF A hq hb;unfold pr at h1;rw[ah s (g:=λp=>(r q*(bz s A)⁻¹)*(sZ s A q p*A p b)) λp _=>by grind,<-bH,h1,delta];split
  ·have:=Ν _ hd;grind
  ·grind
 rw[e1,dX,ah s e2,mR,if_pos hb]
def UC (s:Nat) (A:Mx) (i k:Nat):Rat:=A (s+i) (s+k) - aj s λp=>xs s A (A (s+i)) p*A p (s+k)
theorem uK (i k:Nat):bm s A i k=bz s A*UC s A i k:=by
 have h:=(gf (s+1)).yU (λa b=>A (iw s i a) (iw s k b)) (i:=s) (λp=> - xs s A (A (s+i)) p) aa s (ζ _);rw[bm,<-h];have e:∀b,(A (iw s i s) (iw s k b)+aj s λp=> - xs s A (A (s+i)) p*A (iw s i p) (iw s k b))=A (s+i) (iw s k b) - aj s λp=>xs s A (A (s+i)) p*A p (iw s k b):=λb=>by
  rw[iw,if_neg aa,ah s (g:=λp=>(-1)*(xs s A (A (s+i)) p*A p (iw s k b))) λp hp=>by rw[iw,if_pos hp];grind,<-bH];grind
 rw[GU λb hb=>by rw[aU,e];rw[show iw s k b=b from if_pos hb,JC hd _ hb];grind]
 rw[aU,e,show iw s k s=s+k from if_neg aa,bp (A:=setRow _ s _) (B:=A) λa b ha hb=>by
  rw[aV _ _ aa,show iw s i a=a from if_pos ha,show iw s k b=b from if_pos hb]]
 unfold UC;grind
theorem VV (i k:Nat):bm (s+1) A i k=bz s A*(UC s A 0 0*UC s A (i+1) (k+1) - UC s A (i+1) 0*UC s A 0 (k+1)):=by
 have h:=(gf (s+2)).yU (λa b=>A (iw (s+1) i a) (iw (s+1) k b)) (i:=s+1) (λp=> - xs s A (A (s+(i+1))) p) aa s aa;rw[bm,<-h];have ea:∀p,p<s->iw (s+1) i p=p:=λp hp=>if_pos aa
 have e:∀b,(A (iw (s+1) i (s+1)) (iw (s+1) k b)+aj s λp=> - xs s A (A (s+(i+1))) p*A (iw (s+1) i p) (iw (s+1) k b))=A (s+(i+1)) (iw (s+1) k b) - aj s λp=>xs s A (A (s+(i+1))) p*A p (iw (s+1) k b):=λb=>by
  rw[show iw (s+1) i (s+1)=s+(i+1)from by unfold iw;rw[if_neg aa];omega,ah s (g:=λp=>(-1)*(xs s A (A (s+(i+1))) p*A p (iw (s+1) k b))) λp hp=>by rw[ea p hp];grind,<-bH];grind
 rw[Nj λb hb=>by rw[aU,e,show iw (s+1) k b=b from if_pos aa,JC hd _ hb];grind];have e1:bz (s+1) (setRow (λa b=>A (iw (s+1) i a) (iw (s+1) k b)) (s+1) λb=>A (iw (s+1) i (s+1)) (iw (s+1) k b)+aj s λp=> - xs s A (A (s+(i+1))) p*A (iw (s+1) i p) (iw (s+1) k b))=bm s A 0 0:=by
  rw[GV];exact bp λa b ha hb=>by rw[aV _ _ aa,show iw (s+1) i a=a from if_pos aa,show iw (s+1) k b=b from if_pos aa]
 have e2:bz (s+1) (λa b=>setRow (λa b=>A (iw (s+1) i a) (iw (s+1) k b)) (s+1) (λb=>A (iw (s+1) i (s+1)) (iw (s+1) k b)+aj s λp=> - xs s A (A (s+(i+1))) p*A (iw (s+1) i p) (iw (s+1) k b)) a (if b<s then b else s+1))=bm s A 0 (k+1):=by
  refine bp λa b ha hb=> ?_
  show setRow _ (s+1) _ a (if b<s then b else s+1)=_;rw[aV _ _ aa];show A (iw (s+1) i a) (iw (s+1) k (if b<s then b else s+1))=A (iw s 0 a) (iw s (k+1) b);rw[show iw (s+1) i a=a from if_pos aa,show iw s 0 a=a from by unfold iw;split<;>omega];congr 1;unfold iw;by_cases g:b<s
  ·rw[if_pos g,if_pos aa,if_pos g]
  ·rw[if_neg g,if_neg aa,if_neg g];omega
 rw[e1,e2,aU,e,e,show iw (s+1) k (s+1)=s+(k+1)from by unfold iw;rw[if_neg aa];omega,show iw (s+1) k s=s+0 from if_pos aa,uK hd,uK hd];have f1:(A (s+(i+1)) (s+(k+1)) - aj s λp=>xs s A (A (s+(i+1))) p*A p (s+(k+1)))=UC s A (i+1) (k+1):=rfl;have f2:(A (s+(i+1)) (s+0) - aj s λp=>xs s A (A (s+(i+1))) p*A p (s+0))=UC s A (i+1) 0:=rfl;rw[f1,f2];grind
end
theorem VW (s:Nat) (A:Mx) (i k:Nat):bm s A 0 0*bm s A (i+1) (k+1) - bm s A (i+1) 0*bm s A 0 (k+1)=bz s A*bm (s+1) A i k:=by
 have hb:∀s i k,jR λt=>bm s (EH A t) i k:=λs i k=>jR.bz (s+1) λa b=>AT A _ _
 have:=generic s A (λA=>bm s A 0 0*bm s A (i+1) (k+1) - bm s A (i+1) 0*bm s A 0 (k+1) - bz s A*bm (s+1) A i k)
  ((((hb _ _ _).mul (hb _ _ _)).sub ((hb _ _ _).mul (hb _ _ _))).sub ((jR.bz s (AT A)).mul (hb _ _ _))) λB hB=>by
   rw[uK hB,uK hB,uK hB,uK hB,VV hB];grind
 grind
theorem VX {s n:Nat} {A:Mx} (hd:bz s A≠0) (hs:s<n) (h:∀i,s+i<n->bm s A i 0=0):bz n A=0:=by
 have IC:bz s (tr A)≠0:=by rwa [oS]
 rw[<-oS,<-(gf n).yU (tr A) (i:=s) (λp=> - xs s (tr A) (tr A s) p) hs s (ζ _)];have e:∀b,b<n->(λk=>tr A s k+aj s λp=> - xs s (tr A) (tr A s) p*tr A p k) b=(λ_=>0) b:=λb hb=>by
  show tr A s b+(aj s λp=> - xs s (tr A) (tr A s) p*tr A p b)=0;rw[ah s (g:=λp=>(-1)*(xs s (tr A) (tr A s) p*tr A p b)) λp _=>by grind,<-bH];by_cases g:b<s
  ·rw[JC IC _ g];grind
  ·have h1:=h (b - s) aa;rw[<-aeK,uK IC]at h1;have h2:UC s (tr A) 0 (b - s)=0:=by
    rcases acO.1 h1 with g|g
    ·exact absurd g IC
    ·exact g
   unfold UC at h2;rw[abC,show s+(b - s)=b by omega]at h2;grind
 rw[(gf n).congr (setRow (tr A) s λk=>tr A s k+aj s λp=> - xs s (tr A) (tr A s) p*tr A p k) (setRow (tr A) s λ_=>0) λi k _ hk=>by
  by_cases g:i=s
  ·subst g;rw[aU,aU];exact e k hk
  ·rw[aV _ _ g,aV _ _ g],(gf n).zero _ hs]
theorem P9 (c:Rat) (A:Mx):∀n,bz n (λi k=>c*A i k)=c^n*bz n A:=by
 intro n;have h:∀j,j<=n->bz n (λi k=>if i<j then c*A i k else A i k)=c^j*bz n A:=by
  intro j;induction j with
  |zero=>intro _;rw[bp (B:=A) λi k _ _=>if_neg aa];grind
  |succ j ih=>
   intro hj;have e:(λi k=>if i<j+1 then c*A i k else A i k)=setRow (λi k=>if i<j then c*A i k else A i k) j λk=>c*A j k:=by
    funext i k;by_cases g:i=j
    ·subst g;rw[aU,if_pos aa]
    ·rw[aV _ _ g];by_cases g2:i<j
     ·rw[if_pos g2,if_pos aa]
     ·rw[if_neg g2,if_neg aa]
   have e2:setRow (λi k=>if i<j then c*A i k else A i k) j (A j)=λi k=>if i<j then c*A i k else A i k:=by
    funext i k;by_cases g:i=j
    ·subst g;rw[aU,if_neg aa]
    ·rw[aV _ _ g]
   rw[e,(gf n).smul _ _ _ aa,e2,ih aa,Rat.pow_succ];grind
 rw[<-h n (ζ _)];exact bp λi k hi _=>(if_pos hi).symm
theorem jR.sZ {A:Rat->Mx} (n:Nat) (h:∀i k,jR λt=>A t i k) (i k:Nat):jR λt=>sZ n (A t) i k:=(jR.bz (A:=λt=>IH (A t) k i) (n - 1) λ_ _=>h _ _).smul (sg (i+k))
def turns (l:List Nat) (k:Nat):Nat:=l.countP λu=>decide (k<u)
theorem fA (l:List Nat) (u k:Nat):turns (l++[u]) k=turns l k+if k<u then 1 else 0:=by
 simp[turns,List.countP_append,alk]
def cU (n:Nat) (A:Mx):Nat->Nat->List Nat->Rat
 |0,_,_=>1
 |m+1,i,l=>aj n λk=>if k∈l then 0 else sg (turns l k)*A i k*cU n A m (i+1) (l++[k])
theorem AU (n:Nat) (A:Mx):∀(m i:Nat) (l l':List Nat),(∀k,k∈l↔k∈l')->(∀k,turns l k=turns l' k)->cU n A m i l=cU n A m i l'
 |0,_,_,_,_,_=>rfl
 |m+1,i,l,l',h1,h2=>ah n λk _=>by
  by_cases h:k∈l
  ·rw[if_pos h,if_pos ((h1 k).1 h)]
  ·rw[if_neg h,if_neg λg=>h ((h1 k).2 g),h2,AU n A m (i+1) (l++[k]) (l'++[k]) (λq=>by simp[h1 q]) (λq=>by rw[fA,fA,h2])]
theorem rv (n:Nat) {A B:Mx}:∀(m i:Nat) (l:List Nat),(∀a k,i<=a->a<i+m->k<n->A a k=B a k)->cU n A m i l=cU n B m i l
 |0,_,_,_=>rfl
 |m+1,i,l,h=>ah n λk hk=>by
  rw[rv n m (i+1) (l++[k]) λa k ha hb hk=>h a k aa aa hk,h i k aa aa hk]
theorem C6 (n:Nat) (A:Mx) (r:Nat) (x:Nat->Rat) (c:Rat) (y:Nat->Rat):∀(m i:Nat) (l:List Nat),i<=r->r<i+m->
  cU n (setRow A r λk=>x k+c*y k) m i l=cU n (setRow A r x) m i l+c*cU n (setRow A r y) m i l
 |0,_,_,h1,h2=>aa
 |m+1,i,l,h1,h2=>by
  rw[cU,cU,cU,bH,<-sum_add];refine ah n λk _=> ?_
  by_cases hk:k∈l
  ·rw[if_pos hk,if_pos hk,if_pos hk];grind
  ·rw[if_neg hk,if_neg hk,if_neg hk];by_cases e:i=r
   ·subst e;have e1:∀z,cU n (setRow A i z) m (i+1) (l++[k])=cU n A m (i+1) (l++[k]):=λz=>rv n m (i+1) _ λa q ha _ _=>by rw[aV _ _ aa]
    rw[e1,e1,e1,aU,aU,aU];grind
   ·rw[aV _ _ e,aV _ _ e,aV _ _ e,C6 n A r x c y m (i+1) _ aa aa];grind
theorem Qa (n:Nat) (T:Nat->Nat->Rat) (h:∀k l,k<n->l<n->T k l= - T l k):aj n (λk=>aj n (T k))=0:=by
 have h1:aj n (λk=>aj n (T k))=aj n λk=>aj n λl=>(-1)*T l k:=
  ah n λk hk=>ah n λl hl=>by rw[h k l hk hl];grind
 have h2:(aj n λk=>aj n λl=>(-1)*T l k)=aj n λk=>(-1)*aj n λl=>T l k:=
  ah n λk _=>(bH _ _).symm
 have h3:(aj n λk=>(-1)*aj n λl=>T l k)=(-1)*aj n (λk=>aj n (T k)):=by
  rw[<-bH,<-dX]
 rw[h2,h3]at h1;grind
theorem C7 (n:Nat) (A:Mx) (r:Nat) (h:∀k,k<n->A r k=A (r+1) k):∀(m i:Nat) (l:List Nat),i<=r->r+1<i+m->cU n A m i l=0
 |0,_,_,h1,h2=>aa
 |1,_,_,h1,h2=>aa
 |m+2,i,l,h1,h2=>by
  by_cases e:i=r
  ·subst e;rw[cU];refine Eq.trans ?_ (Qa n (λk q=>if k∈l then 0 else if q∈l++[k]then 0 else sg (turns l k)*A i k*(sg (turns (l++[k]) q)*A (i+1) q*cU n A m (i+1+1) (l++[k]++[q]))) ?_)
   ·refine ah n λk _=> ?_
    by_cases hk:k∈l
    ·rw[if_pos hk,bh λq _=>if_pos hk]
    ·rw[if_neg hk,cU,bH];refine ah n λq _=> ?_
     rw[if_neg hk];by_cases hq:q∈l++[k]
     ·rw[if_pos hq,if_pos hq];grind
     ·rw[if_neg hq,if_neg hq]
   ·intro k q hk hq;by_cases h1:k∈l
    ·rw[if_pos h1];by_cases h2:q∈l
     ·rw[if_pos h2];grind
     ·rw[if_neg h2,if_pos (by simp[h1])];grind
    ·rw[if_neg h1];by_cases h2:q∈l
     ·rw[if_pos (by simp[h2]),if_pos h2];grind
     ·rw[if_neg h2];by_cases h3:q=k
      ·subst h3;rw[if_pos (by simp)];grind
      ·rw[if_neg (by simp[h2,h3]),if_neg (by simp[h1];exact λg=>h3 g.symm)];rw[AU n A m (i+1+1) (l++[k]++[q]) (l++[q]++[k]) (λp=>by simp;grind) (λp=>by rw[fA,fA,fA,fA];omega)];rw[fA,fA,h k hk,<-h q hq];rcases ahw h3 with g|g
       ·rw[if_pos g,if_neg aa,sg];grind
       ·rw[if_neg aa,if_pos g];simp only[sg,abC];grind
  ·rw[cU];refine bh λk _=> ?_
   by_cases hk:k∈l
   ·rw[if_pos hk]
   ·rw[if_neg hk,C7 n A r h (m+1) (i+1) _ aa aa];grind
theorem C8 (n:Nat):∀(m i:Nat),i+m=n->cU n delta m i (Η i)=1
 |0,_,_=>rfl
 |m+1,i,h=>by
  rw[cU,eu (j:=i) n aa λk _ a8=>by
   split
   ·rfl
   ·rw[delta,if_neg (λg=>a8 g.symm)];grind]
  rw[if_neg (by simp),<-ahb,C8 n m (i+1) aa,delta,if_pos rfl];have:turns (Η i) i=0:=by
   rw[turns,List.countP_eq_zero];intro u hu;have:=af4.1 hu;simp;omega
  rw[this,sg];grind
theorem C9 (n:Nat) (A:Mx):cU n A n 0 []=bz n A:=by
 have h:Alt n λA=>cU n A n 0 []:={
  congr:=λA B h=>rv n n 0 [] λa k _ ha hk=>h a k aa hk
  wZ:=λA i x c y hi=>C6 n A i x c y n 0 [] aa aa
  alt:=λA i hi h=>C7 n A i h n 0 [] aa aa}
 rw[pT n _ h A];show cU n delta n 0 (Η 0)*_=_;rw[C8 n n 0 aa];grind
theorem GW {f g:Nat->Rat}:∀n,(∀i,i<n->f i<=g i)->aj n f<=aj n g
 |0,_=>Ϥ
 |n+1,h=>by rw[aj,aj];have:=GW n λi hi=>h i aa;have:=h n aa;grind
def Bd (x b:Rat):Prop:= -b<=x/\x<=b
theorem Bd.AV {x b:Rat} (h:Bd x b):0<=b:=by obtain⟨h1,h2⟩:=h;grind
theorem Bd.add {x y a b:Rat} (h:Bd x a) (k:Bd y b):Bd (x+y) (a+b):=by
 obtain⟨h1,h2⟩:=h;obtain⟨k1,k2⟩:=k;constructor<;>grind
theorem Bd.neg {x a:Rat} (h:Bd x a):Bd (-x) a:=by obtain⟨h1,h2⟩:=h;constructor<;>grind
theorem Bd.mono {x a b:Rat} (h:Bd x a) (hb:a<=b):Bd x b:=by obtain⟨h1,h2⟩:=h;constructor<;>grind
theorem Bd.mul {x y a b:Rat} (h:Bd x a) (k:Bd y b):Bd (x*y) (a*b):=by
 have ha:=h.AV;have hb:=k.AV;obtain⟨h1,h2⟩:=h;obtain⟨k1,k2⟩:=k;have p1:=π (show 0<=a - x by grind) (show 0<=b+y by grind);have p2:=π (show 0<=a+x by grind) (show 0<=b - y by grind);have p3:=π (show 0<=a - x by grind) (show 0<=b - y by grind);have p4:=π (show 0<=a+x by grind) (show 0<=b+y by grind);constructor<;>grind
theorem Bd.sg {x a:Rat} (h:Bd x a):∀n,Bd (sg n*x) a
 |0=>by rw[Go.Proofs.YtadphegfhgmgmaaGreatDoor.sg,show(1:Rat)*x=x by grind];exact h
 |n+1=>by rw[Go.Proofs.YtadphegfhgmgmaaGreatDoor.sg,show - Go.Proofs.YtadphegfhgmgmaaGreatDoor.sg n*x= - (Go.Proofs.YtadphegfhgmgmaaGreatDoor.sg n*x) by grind];exact(Bd.sg h n).neg
theorem Bd.sum {f r:Nat->Rat}:∀n,(∀i,i<n->Bd (f i) (r i))->Bd (aj n f) (aj n r)
 |0,_=>(show Bd 0 0 from⟨ax,ax⟩)
 |n+1,h=>(Bd.sum n λi hi=>h i aa).add (h n aa)
abbrev Mz:=Nat->Nat->Int
def toR (A:Mz):Mx:=λi k=>(A i k:Rat)
def Qb:Nat->(Nat->Int)->Int
 |0,_=>0
 |n+1,f=>Qb n f+f n
theorem Da (f:Nat->Int):∀n,((Qb n f:Int):Rat)=aj n λi=>(f i:Rat)
 |0=>by simp[Qb,aj]
 |n+1=>by rw[Qb,aj,alF,Da f n]
def Oc:Nat->Int
 |0=>1
 |n+1=> - Oc n
theorem vW:∀n,((Oc n:Int):Rat)=sg n
 |0=>by simp[Oc,sg]
 |n+1=>by rw[Oc,sg,alH,vW n]
theorem yV:∀n,Oc n=if n % 2=1 then -1 else 1
 |0=>rfl
 |n+1=>by
  rw[Oc,yV n];by_cases h:n % 2=1
  ·rw[if_pos h,if_neg aa];rfl
  ·rw[if_neg h,if_pos aa]
def jD:Nat->Mz->Int
 |0,_=>1
 |n+1,A=>Qb (n+1) λk=>Oc k*A 0 k*jD n λi j=>A (i+1) (sk k j)
theorem fM:∀(n:Nat) (A:Mz),((jD n A:Int):Rat)=bz n (toR A)
 |0,_=>by simp[jD,bz]
 |n+1,A=>by
  rw[jD,ca,Da];refine ah _ λk _=> ?_
  rw[ail,ail,vW,fM n];rfl
theorem cast_inj {a b:Int} (h:(a:Rat)=(b:Rat)):a=b:=Rat.intCast_inj.1 h
theorem AW {n:Nat} {A B:Mz} (h:∀i k,i<n->k<n->A i k=B i k):jD n A=jD n B:=by
 apply cast_inj;rw[fM,fM];exact bp λi k hi hk=>by unfold toR;rw[h i k hi hk]
def AX (s:Nat) (A:Mz) (i k:Nat):Int:=jD (s+1) λa b=>A (iw s i a) (iw s k b)
theorem vX (s:Nat) (A:Mz) (i k:Nat):((AX s A i k:Int):Rat)=bm s (toR A) i k:=fM _ _
theorem Qc (A:Mz) (i k:Nat):AX 0 A i k=A i k:=by
 apply cast_inj;rw[vX,VU];rfl
theorem Nk (s:Nat) (A:Mz):AX s A 0 0=jD (s+1) A:=by
 apply cast_inj;rw[vX,GV,fM]
theorem Qd (s:Nat) (A:Mz) (i k:Nat):AX s A 0 0*AX s A (i+1) (k+1) - AX s A (i+1) 0*AX s A 0 (k+1)=jD s A*AX (s+1) A i k:=by
 apply cast_inj;have:=VW s (toR A) i k;simp only[alI,ail,vX,fM];exact this
theorem VY {s:Nat} {A:Mz} (h:jD s A≠0) (i k:Nat):(AX s A 0 0*AX s A (i+1) (k+1) - AX s A (i+1) 0*AX s A 0 (k+1))/jD s A=AX (s+1) A i k:=by
 rw[Qd,ajX _ h]
theorem Qe {s n:Nat} {A:Mz} (hd:jD s A≠0) (hs:s<n) (h:∀i,s+i<n->AX s A i 0=0):jD n A=0:=by
 apply cast_inj;rw[fM];refine VX (s:=s) ?_ hs λi hi=> ?_
 ·rw[<-fM];intro g;exact hd (cast_inj g)
 ·rw[<-vX,h i hi];rfl
def lj (A:Mz) (i j:Nat):Mz:=λp=>if p=i then A j else if p=j then A i else A p
theorem JD (A:Mz) (i j:Nat):toR (lj A i j)=aP (toR A) i j:=by
 funext p q;unfold toR lj aP;by_cases h:p=i
 ·rw[if_pos h,if_pos h]
 ·rw[if_neg h,if_neg h];by_cases h2:p=j
  ·rw[if_pos h2,if_pos h2]
  ·rw[if_neg h2,if_neg h2]
theorem JE (A:Mz) (i:Nat):lj A i i=A:=by
 funext p;unfold lj;by_cases h:p=i
 ·rw[if_pos h,h]
 ·rw[if_neg h,if_neg h]
theorem Nl {n:Nat} (A:Mz) {i j:Nat} (hi:i<n) (hj:j<n) (a8:i≠j):jD n (lj A i j)= - jD n A:=by
 apply cast_inj;rw[fM,JD,(gf n).swap _ hi hj a8,alH,fM]
theorem Qf (s:Nat) (A:Mz) (j p q:Nat):AX s (lj A s (s+j)) p q=lj (AX s A) 0 j p q:=by
 have e:∀p r,(∀a,a<s+1->lj A s (s+j) (iw s p a)=A (iw s r a))->AX s (lj A s (s+j)) p q=AX s A r q:=λp r h=>AW λa b ha _=>by rw[h a ha]
 unfold lj at e ⊢;by_cases h:p=0
 ·subst h;rw[if_pos rfl];refine e 0 j λa ha=> ?_
  unfold iw;by_cases g:a<s
  ·rw[if_pos g,if_pos g,if_neg aa,if_neg aa]
  ·rw[if_neg g,if_neg g,if_pos (abC s)]
 ·rw[if_neg h];by_cases h2:p=j
  ·subst h2;rw[if_pos rfl];refine e p 0 λa ha=> ?_
   unfold iw;by_cases g:a<s
   ·rw[if_pos g,if_pos g,if_neg aa,if_neg aa]
   ·rw[if_neg g,if_neg g,if_neg aa,if_pos rfl,abC]
  ·rw[if_neg h2];refine e p p λa ha=> ?_
   unfold iw;by_cases g:a<s
   ·rw[if_pos g,if_neg aa,if_neg aa]
   ·rw[if_neg g,if_neg aa,if_neg aa]
theorem AY (s:Nat) (A:Mz) (j:Nat):jD s (lj A s (s+j))=jD s A:=AW λi k hi _=>by
 unfold lj;rw[if_neg aa,if_neg aa]
def jE (w:Mx) (k:Nat):Nat->Nat->Option Nat
 |0,_=>none
 |m+1,i=>if w i k=0 then jE w k m (i+1)else some i
theorem Db {w:Mx} {k:Nat}:∀{m i:Nat},jE w k m i=none->∀j,i<=j->j<i+m->w j k=0
 |0,i,_,j,h1,h2=>aa
 |m+1,i,h,j,h1,h2=>by
  rw[jE]at h;by_cases g:w i k=0
  ·rw[if_pos g]at h;by_cases e:j=i
   ·rw[e,g]
   ·exact Db h j aa aa
  ·rw[if_neg g]at h;cases h
theorem sf {w:Mx} {k:Nat}:∀{m i j:Nat},jE w k m i=some j->i<=j/\j<i+m/\w j k≠0
 |0,i,j,h=>by cases h
 |m+1,i,j,h=>by
  rw[jE]at h;by_cases g:w i k=0
  ·rw[if_pos g]at h;have:=sf h;exact⟨aa,aa,this.2.2⟩
  ·rw[if_neg g]at h;obtain rfl:=abU h;exact⟨ζ _,aa,g⟩
def ib (w:Mx) (top k:Nat):Mx:=λa q=>if a=top then w top q/w top k else w a q - w a k*(w top q/w top k)
structure St where
 w:Mx
 bP:List Nat
 d:Rat
def sh (r:Nat) (s:St) (k:Nat):St:=
 match jE s.w k (r - s.bP.length) s.bP.length with
 |none=>s
 |some i=>⟨ib (aP s.w i s.bP.length) s.bP.length k,s.bP++[k],(if i=s.bP.length then s.d else - s.d)*aP s.w i s.bP.length s.bP.length k⟩
def ry (r c:Nat) (s:St):St:=(Η c).foldl (sh r) s
theorem xk (r c:Nat) (s:St):ry r (c+1) s=sh r (ry r c s) c:=by
 rw[ry,ahb,ala];rfl
theorem Alt.abB {n:Nat} {F:Mx->Rat} (hF:Alt n F) (A:Mx) {t:Nat} (ht:t<n) (c:Nat->Rat):F (λa q=>if a=t then A t q else A a q+c a*A t q)=F A:=by
 have h:∀m,m<=n->F (λa q=>if a=t then A t q else if a<m then A a q+c a*A t q else A a q)=F A:=by
  intro m;induction m with
  |zero=>
   intro _;refine hF.congr _ _ λa q _ _=> ?_
   by_cases e:a=t
   ·rw[if_pos e,e]
   ·rw[if_neg e,if_neg aa]
  |succ m ih=>
   intro hm;rw[<-ih aa];by_cases e:m=t
   ·refine hF.congr _ _ λa q _ _=> ?_
    by_cases g:a=t
    ·rw[if_pos g,if_pos g]
    ·rw[if_neg g,if_neg g];by_cases g2:a<m
     ·rw[if_pos g2,if_pos aa]
     ·rw[if_neg g2,if_neg aa]
   ·rw[<-hF.JA (i:=m) (j:=t) (λa q=>if a=t then A t q else if a<m then A a q+c a*A t q else A a q) (c m) aa ht e];refine hF.congr _ _ λa q _ _=> ?_
    by_cases g:a=m
    ·subst g;rw[aU,if_neg e,if_pos aa,if_neg e,if_neg aa,if_pos rfl]
    ·rw[aV _ _ g];by_cases g1:a=t
     ·rw[if_pos g1,if_pos g1]
     ·rw[if_neg g1,if_neg g1];by_cases g2:a<m
      ·rw[if_pos g2,if_pos aa]
      ·rw[if_neg g2,if_neg aa]
 rw[<-h n (ζ _)];refine hF.congr _ _ λa q ha _=> ?_
 by_cases e:a=t
 ·rw[if_pos e,if_pos e]
 ·rw[if_neg e,if_neg e,if_pos ha]
structure Inv (r:Nat) (W:Mx) (k:Nat) (s:St):Prop where
 len:s.bP.length<=r
 lt:∀j,j<s.bP.length->s.bP.getD j 0<k
 inc:∀i j,i<j->j<s.bP.length->s.bP.getD i 0<s.bP.getD j 0
 unit:∀j,j<s.bP.length->∀i,i<r->s.w i (s.bP.getD j 0)=if i=j then 1 else 0
 left:∀i,i<s.bP.length->∀q,q<s.bP.getD i 0->s.w i q=0
 low:∀i,s.bP.length<=i->i<r->∀q,q<k->s.w i q=0
 Y0:∃P,bz r P*s.d=1/\∀i,i<r->∀q,s.w i q=pr r P W i q
theorem Inv.start (r:Nat) (W:Mx):Inv r W 0 ⟨W,[],1⟩ where
 len:=Γ _
 lt:=λj h=>by simp at h
 inc:=λi j _ h=>by simp at h
 unit:=λj h=>by simp at h
 left:=λj h=>by simp at h
 low:=λi _ _ q h=>aa
 Y0:=⟨delta,by rw[vU];grind,λi hi q=>by rw[pr,eK,if_pos hi]⟩
theorem jS {l:List Nat} {a j:Nat} (h:j<l.length):(l++[a]).getD j 0=l.getD j 0:=by
 rw[δ,δ,ϳ h]
theorem si {l:List Nat} {a:Nat}:(l++[a]).getD l.length 0=a:=by simp[δ]
theorem AZ {w:Mx} {i t a:Nat} (h:a<t) (hi:t<=i):aP w i t a=w a:=by
 unfold aP;rw[if_neg aa,if_neg aa]
theorem JF {w:Mx} {i t a r:Nat} (hi:t<=i) (Lh:i<r) (h:t<=a) (har:a<r):∃b,t<=b/\b<r/\aP w i t a=w b:=by
 unfold aP;by_cases h1:a=i
 ·rw[if_pos h1];exact⟨t,ζ _,aa,rfl⟩
 ·rw[if_neg h1];by_cases h2:a=t
  ·rw[if_pos h2];exact⟨i,hi,Lh,rfl⟩
  ·rw[if_neg h2];exact⟨a,h,har,rfl⟩
theorem Dc {w:Mx} {i t:Nat}:aP w i t t=w i:=by
 unfold aP;by_cases h:t=i
 ·rw[if_pos h,h]
 ·rw[if_neg h,if_pos rfl]
theorem VZ (r:Nat) (P W:Mx) (i t a q:Nat):pr r (aP P i t) W a q=aP (pr r P W) i t a q:=by
 show(aj r λp=>(if a=i then P t else if a=t then P i else P a) p*W p q)=(if a=i then pr r P W t else if a=t then pr r P W i else pr r P W a) q;by_cases h:a=i
 ·rw[if_pos h,if_pos h];rfl
 ·rw[if_neg h,if_neg h];by_cases h2:a=t
  ·rw[if_pos h2,if_pos h2];rfl
  ·rw[if_neg h2,if_neg h2];rfl
theorem Inv.step {r:Nat} {W:Mx} {k:Nat} {s:St} (h:Inv r W k s):Inv r W (k+1) (sh r s k):=by
 unfold sh;cases hp:jE s.w k (r - s.bP.length) s.bP.length with
 |none=>
  have hz:=Db hp;have:=h.len;show Inv r W (k+1) s
  exact {h with
   lt:=λj hj=>by have:=h.lt j hj;omega
   low:=λi h1 h2 q hq=>by
    by_cases e:q=k
    ·rw[e];exact hz i h1 aa
    ·exact h.low i h1 h2 q aa}
 |some i=>
  obtain⟨g1,g2,g3⟩:=sf hp;dsimp only;have hl:=h.len;have Lh:i<r:=aa;have ht:s.bP.length<r:=aa;have aj2:s.bP.length=s.bP.length:=rfl;revert g1 g2 ht hl;generalize U8:s.bP.length=t;intro g1 g2 hl ht;have vD:aP s.w i t t k≠0:=by rw[Dc];exact g3
  have hz:∀a,t<=a->a<r->∀q,q<k->aP s.w i t a q=0:=λa h1 h2 q hq=>by
   obtain⟨b,b1,b2,e⟩:=JF (w:=s.w) g1 Lh h1 h2;rw[e];exact h.low b aa b2 q hq
  have hu:∀j,j<t->∀a,a<r->aP s.w i t a (s.bP.getD j 0)=if a=j then 1 else 0:=λj hj a ha=>by
   by_cases hat:a<t
   ·rw[AZ hat g1];exact h.unit j aa a ha
   ·rw[hz a aa ha _ (h.lt j aa),if_neg aa]
  have hc:∀a,a<t->∀q,q<k->ib (aP s.w i t) t k a q=s.w a q:=λa ha q hq=>by
   unfold ib;rw[if_neg aa,hz t (ζ _) ht q hq,AZ ha g1];grind
  have hlen:(s.bP++[k]).length=t+1:=by rw[ξ,U8];rfl
  refine {len:=by simp only[hlen];omega,lt:= ?_,inc:= ?_,unit:= ?_,left:= ?_,low:= ?_,Y0:= ?_}
  ·intro j hj;simp only[hlen]at hj;show(s.bP++[k]).getD j 0<k+1;by_cases e:j<t
   ·rw[jS aa];have:=h.lt j aa;omega
   ·obtain rfl:j=t:=aa;rw[<-U8,si];omega
  ·intro a b At hb;simp only[hlen]at hb;show(s.bP++[k]).getD a 0<(s.bP++[k]).getD b 0;by_cases e:b<t
   ·rw[jS aa,jS aa];exact h.inc a b At aa
   ·obtain rfl:b=t:=aa;rw[jS aa];rw[show(s.bP++[k]).getD b 0=k from by rw[<-U8,si]];exact h.lt a aa
  ·intro j hj a ha;simp only[hlen]at hj;show ib (aP s.w i t) t k a ((s.bP++[k]).getD j 0)=_;by_cases e:j<t
   ·rw[jS aa];unfold ib;rw[hu j e t ht,hu j e a ha,if_neg (show ¬t=j by omega)];by_cases g:a=t
    ·rw[if_pos g,if_neg aa,Ϡ];grind
    ·rw[if_neg g,Ϡ];split<;>grind
   ·obtain rfl:j=t:=aa;rw[show(s.bP++[k]).getD j 0=k from by rw[<-U8,si]];unfold ib;by_cases g:a=j
    ·rw[if_pos g,if_pos g,Ϡ,Ν _ vD]
    ·rw[if_neg g,if_neg g,Ϡ,Ν _ vD];grind
  ·intro a ha q hq;simp only[hlen]at ha;change q<(s.bP++[k]).getD a 0 at hq;show ib (aP s.w i t) t k a q=0;by_cases e:a<t
   ·rw[jS aa]at hq;have:=h.lt a aa;rw[hc a e q aa];exact h.left a aa q hq
   ·obtain rfl:a=t:=aa;rw[show(s.bP++[k]).getD a 0=k from by rw[<-U8,si]]at hq;unfold ib;rw[if_pos rfl,hz a (ζ _) ht q hq,Ϡ];grind
  ·intro a h1 h2 q hq;simp only[hlen]at h1;show ib (aP s.w i t) t k a q=0;unfold ib;rw[if_neg aa];by_cases e:q=k
   ·rw[e,Ϡ,Ν _ vD];grind
   ·rw[hz a aa h2 q aa,hz t (ζ _) ht q aa,Ϡ];grind
  ·obtain⟨P,hP1,hP2⟩:=h.Y0;have hsw:∀a,a<r->∀q,aP s.w i t a q=pr r (aP P i t) W a q:=λa ha q=>by
    rw[VZ];unfold aP;by_cases e1:a=i
    ·rw[if_pos e1,if_pos e1];exact hP2 t ht q
    ·rw[if_neg e1,if_neg e1];by_cases e2:a=t
     ·rw[if_pos e2,if_pos e2];exact hP2 i Lh q
     ·rw[if_neg e2,if_neg e2];exact hP2 a ha q
   have hsd:bz r (aP P i t)*(if i=t then s.d else - s.d)=1:=by
    by_cases e:i=t
    ·subst e
     rw[if_pos rfl,show aP P i i=P from by
      funext a;unfold aP;by_cases e1:a=i
      ·rw[if_pos e1,e1]
      ·rw[if_neg e1,if_neg e1],hP1]
    ·rw[if_neg e,(gf r).swap P Lh ht e];grind
   generalize aP s.w i t=w1 at*;generalize aP P i t=Q at*;have hinv:=Ν _ vD;refine⟨λa q=>if a=t then(w1 t k)⁻¹*Q t q else Q a q+(- w1 a k*(w1 t k)⁻¹)*Q t q, ?_, ?_⟩
   ·have e1:=(gf r).abB (setRow Q t λq=>(w1 t k)⁻¹*Q t q) ht λa=> - w1 a k
    rw[(gf r).smul Q _ _ ht,show setRow Q t (λq=>Q t q)=Q from setRow_self Q t]at e1
    rw[bp (B:=λa q=>if a=t then setRow Q t (λq=>(w1 t k)⁻¹*Q t q) t q else setRow Q t (λq=>(w1 t k)⁻¹*Q t q) a q+ - w1 a k*setRow Q t (λq=>(w1 t k)⁻¹*Q t q) t q) λa q _ _=>by
     rw[aU];by_cases e:a=t
     ·rw[if_pos e,if_pos e]
     ·rw[if_neg e,if_neg e,aV _ _ e];grind,e1]
    show(w1 t k)⁻¹*bz r Q*((if i=t then s.d else - s.d)*w1 t k)=1;grind
   ·intro a ha q;show ib w1 t k a q=_;unfold ib pr;by_cases e:a=t
    ·rw[if_pos e,hsw t ht q,Ϡ,pr,ah r (f:=λp=>(if a=t then(w1 t k)⁻¹*Q t p else Q a p+(- w1 a k*(w1 t k)⁻¹)*Q t p)*W p q) (g:=λp=>(w1 t k)⁻¹*(Q t p*W p q)) λp _=>by rw[if_pos e];grind,<-bH];grind
    ·rw[if_neg e,hsw t ht q,hsw a ha q,Ϡ,pr,ah r (f:=λp=>(if a=t then(w1 t k)⁻¹*Q t p else Q a p+(- w1 a k*(w1 t k)⁻¹)*Q t p)*W p q) (g:=λp=>Q a p*W p q+(- w1 a k*(w1 t k)⁻¹)*(Q t p*W p q)) λp _=>by rw[if_neg e];grind,sum_add,<-bH];unfold pr;grind
theorem Inv.red {r:Nat} {W:Mx}:∀c,Inv r W c (ry r c ⟨W,[],1⟩)
 |0=>Inv.start r W
 |c+1=>by rw[xk];exact(Inv.red c).step
structure RE (r c:Nat) (w:Mx) (bP:List Nat):Prop where
 len:bP.length<=r
 lt:∀j,j<bP.length->bP.getD j 0<c
 inc:∀i j,i<j->j<bP.length->bP.getD i 0<bP.getD j 0
 unit:∀j,j<bP.length->∀i,i<r->w i (bP.getD j 0)=if i=j then 1 else 0
 left:∀i,i<bP.length->∀q,q<bP.getD i 0->w i q=0
 low:∀i,bP.length<=i->i<r->∀q,q<c->w i q=0
theorem Inv.re {r c:Nat} {W:Mx} {s:St} (h:Inv r W c s):RE r c s.w s.bP:=⟨h.len,h.lt,h.inc,h.unit,h.left,h.low⟩
def xl (r c:Nat) (w:Mx) (x:Nat->Rat):Prop:=∀i,i<r->aj c (λq=>w i q*x q)=0
theorem V0 {r c:Nat} {P W w:Mx} (hP:bz r P≠0) (hw:∀i,i<r->∀q,w i q=pr r P W i q) (x:Nat->Rat):xl r c w x↔xl r c W x:=by
 have e:∀i,i<r->aj c (λq=>w i q*x q)=aj r λp=>P i p*aj c λq=>W p q*x q:=λi hi=>by
  rw[ah c (g:=λq=>aj r λp=>P i p*(W p q*x q)) λq _=>by rw[hw i hi,pr,ir];exact ah r λp _=>by grind,dX];exact ah r λp _=>(bH _ _).symm
 constructor
 ·intro h i hi;have h1:aj r (λj=>sZ r P i j*aj c λq=>w j q*x q)=0:=bh λj hj=>by rw[h j hj];grind
  rw[ah r (g:=λj=>aj r λp=>sZ r P i j*P j p*aj c λq=>W p q*x q) λj hj=>by rw[e j hj,bH];exact ah r λp _=>by grind,dX]at h1
  rw[ah r (g:=λp=>bz r P*(delta i p*aj c λq=>W p q*x q)) λp hp=>by
   rw[<-ir];have:=EF P hi hp;unfold pr at this
   rw[this,delta];split<;>grind,<-bH,eK,if_pos hi]at h1
  rcases acO.1 h1 with g|g
  ·exact absurd g hP
  ·exact g
 ·intro h i hi;rw[e i hi];exact bh λp hp=>by rw[h p hp];grind
theorem JG {a b:Rat} (h:a*b=1):a≠0:=by intro g;rw[g]at h;grind
theorem Inv.ker {r c k:Nat} {W:Mx} {s:St} (h:Inv r W k s) (x:Nat->Rat):xl r c s.w x↔xl r c W x:=by
 obtain⟨P,h1,h2⟩:=h.Y0;exact V0 (JG h1) h2 x
section
variable {r c:Nat} {w:Mx} {bP:List Nat}
theorem Li (h:RE r c w bP) {i j:Nat} (hi:i<bP.length) (hj:j<bP.length) (e:bP.getD i 0=bP.getD j 0):i=j:=by
 rcases ai1 i j with g|g|g
 ·have:=h.inc i j g hj;omega
 ·exact g
 ·have:=h.inc j i g hi;omega
theorem du {l:List Nat} {q:Nat}:q∈l↔∃j,j<l.length/\l.getD j 0=q:=by
 constructor
 ·intro h;obtain⟨j,hj,e⟩:=akB h;exact⟨j,hj,by rw[δ,φ hj];exact e⟩
 ·rintro⟨j,hj,rfl⟩;rw[δ,φ hj];exact ajg hj
def kv (w:Mx) (bP:List Nat) (k q:Nat):Rat:=delta q k - aj bP.length λj=>delta q (bP.getD j 0)*w j k
theorem Qg (h:RE r c w bP) (u:Mx) {k:Nat} (hk:k<c) (i:Nat):aj c (λq=>u i q*kv w bP k q)=u i k - aj bP.length λj=>u i (bP.getD j 0)*w j k:=by
 rw[ah c (g:=λq=>u i q*delta q k+(-1)*aj bP.length λj=>u i q*delta q (bP.getD j 0)*w j k) λq _=>by
  unfold kv;rw[ah bP.length (f:=λj=>u i q*delta q (bP.getD j 0)*w j k) (g:=λj=>u i q*(delta q (bP.getD j 0)*w j k)) λj _=>by grind,<-bH];grind]
 rw[sum_add,mR,if_pos hk,<-bH,dX,ah bP.length (f:=λj=>aj c λq=>u i q*delta q (bP.getD j 0)*w j k) (g:=λj=>u i (bP.getD j 0)*w j k) λj hj=>by
  rw[<-ir,mR,if_pos (h.lt j hj)]]
 grind
theorem JH (h:RE r c w bP) {k:Nat} (hk:k<c):xl r c w (kv w bP k):=by
 intro i hi;rw[Qg h w hk];rw[ah bP.length (g:=λj=>delta i j*w j k) λj hj=>by rw[h.unit j hj i hi,delta],eK];by_cases g:i<bP.length
 ·rw[if_pos g];grind
 ·rw[if_neg g,h.low i aa hi k hk];grind
theorem yW (h:RE r c w bP) {k:Nat} (hn:k∉bP):kv w bP k k=1:=by
 unfold kv;rw[bh λj hj=>by rw[delta,if_neg λe=>hn (du.2 ⟨j,hj,e.symm⟩)];grind,delta,if_pos rfl];grind
theorem vY {k q:Nat} (hq:q∉bP) (a8:q≠k):kv w bP k q=0:=by
 unfold kv;rw[bh λj hj=>by rw[delta,if_neg λe=>hq (du.2 ⟨j,hj,e.symm⟩)];grind,delta,if_neg a8];grind
theorem Qh (h:RE r c w bP) {k j:Nat} (hn:k∉bP) (hj:j<bP.length):kv w bP k (bP.getD j 0)= - w j k:=by
 unfold kv;rw[eu (j:=j) bP.length hj λi hi a8=>by rw[delta,if_neg λe=>a8 (Li h hi hj e.symm)];grind,delta,if_neg λe=>hn (du.2 ⟨j,hj,e⟩),delta,if_pos rfl];grind
theorem Qi (h:RE r c w bP) {k q:Nat} (hn:k∉bP) (hq:k<q):kv w bP k q=0:=by
 by_cases g:q∈bP
 ·obtain⟨j,hj,rfl⟩:=du.1 g;rw[Qh h hn hj,h.left j hj k hq];grind
 ·exact vY g aa
theorem Lj (h:RE r c w bP) {k:Nat} (hk:k<c):k∉bP↔∃x,xl r c w x/\x k≠0/\∀q,k<q->q<c->x q=0:=by
 constructor
 ·intro hn;exact⟨kv w bP k,JH h hk,by rw[yW h hn];decide,λq h1 _=>Qi h hn h1⟩
 ·rintro⟨x,h1,h2,h3⟩ hm;obtain⟨j,hj,rfl⟩:=du.1 hm;have:=h1 j (by have:=h.len;omega)
  rw[eu (j:=bP.getD j 0) c hk λq hq a8=>by
   rcases ahw a8 with g|g
   ·rw[h.left j hj q g];grind
   ·rw[h3 q g hq];grind,h.unit j hj j (by have:=h.len;omega),if_pos rfl]at this
  exact h2 (by grind)
end
theorem Lk:∀{l m:List Nat},(∀i j,i<j->j<l.length->l.getD i 0<l.getD j 0)->(∀i j,i<j->j<m.length->m.getD i 0<m.getD j 0)->(∀k,k∈l↔k∈m)->l=m
 |[],[],_,_,_=>rfl
 |[],b::m,_,_,h=>by have:=(h b).2 (η ..);cases this
 |a::l,[],_,_,h=>by have:=(h a).1 (η ..);cases this
 |a::l,b::m,h1,h2,h=>by
  have gl:∀x,x∈l->a<x:=λx hx=>by
   obtain⟨j,hj,rfl⟩:=du.1 hx;exact h1 0 (j+1) aa (by simp;omega)
  have gm:∀x,x∈m->b<x:=λx hx=>by
   obtain⟨j,hj,rfl⟩:=du.1 hx;exact h2 0 (j+1) aa (by simp;omega)
  have At:a=b:=by
   rcases Λ.1 ((h a).1 (η ..))with e|e
   ·exact e
   ·rcases Λ.1 ((h b).2 (η ..))with f|f
    ·exact f.symm
    ·have:=gl b f;have:=gm a e;omega
  subst At
  rw[Lk (l:=l) (m:=m) (λi j KG hj=>h1 (i+1) (j+1) aa (by simp;omega)) (λi j KG hj=>h2 (i+1) (j+1) aa (by simp;omega)) λk=>by
   constructor
   ·intro hk;rcases Λ.1 ((h k).1 (Δ _ hk))with e|e
    ·have:=gl k hk;omega
    ·exact e
   ·intro hk;rcases Λ.1 ((h k).2 (Δ _ hk))with e|e
    ·have:=gm k hk;omega
    ·exact e]
theorem RE.unique {r c:Nat} {w w':Mx} {bP piv':List Nat} (h:RE r c w bP) (h':RE r c w' piv') (hk:∀x,xl r c w x↔xl r c w' x):bP=piv'/\∀i q,i<r->q<c->w i q=w' i q:=by
 have e:bP=piv':=by
  refine Lk h.inc h'.inc λk=> ?_
  have aE:k<c->(k∈bP↔k∈piv'):=λhc=>by
   have a:=Lj h hc;have b:=Lj h' hc;constructor
   ·intro hm;refine Ο λg=> ?_
    obtain⟨x,h1,h2⟩:=b.1 g;exact a.2 ⟨x,(hk x).2 h1,h2⟩ hm
   ·intro hm;refine Ο λg=> ?_
    obtain⟨x,h1,h2⟩:=a.1 g;exact b.2 ⟨x,(hk x).1 h1,h2⟩ hm
  constructor
  ·intro hm;obtain⟨j,hj,e⟩:=du.1 hm;exact(aE (by rw[<-e];exact h.lt j hj)).1 hm
  ·intro hm;obtain⟨j,hj,e⟩:=du.1 hm;exact(aE (by rw[<-e];exact h'.lt j hj)).2 hm
 subst e;refine⟨rfl,λi q hi hq=> ?_⟩;by_cases g:q∈bP
 ·obtain⟨j,hj,rfl⟩:=du.1 g;rw[h.unit j hj i hi,h'.unit j hj i hi]
 ·by_cases hp:i<bP.length
  ·have h1:=(hk _).1 (JH h hq) i hi;rw[Qg h w' hq,ah bP.length (g:=λj=>delta i j*w j q) λj hj=>by rw[h'.unit j hj i hi,delta],eK,if_pos hp]at h1;grind
  ·rw[h.low i aa hi q hq,h'.low i aa hi q hq]
theorem RE.full {r c:Nat} {w:Mx} {bP:List Nat} (h:RE r c w bP) (hc:bP.length=c):∀j,j<c->bP.getD j 0=j:=by
 have h1:∀j,j<c->j<=bP.getD j 0:=by
  intro j;induction j with
  |zero=>intro _;exact Γ _
  |succ j ih=>intro hj;have:=ih aa;have:=h.inc j (j+1) aa aa;omega
 have h2:∀d j,j+d+1=c->bP.getD j 0<=j:=by
  intro d;induction d with
  |zero=>intro j hj;have:=h.lt j aa;omega
  |succ d ih=>intro j hj;have:=ih (j+1) aa;have:=h.inc j (j+1) aa aa;omega
 intro j hj;have:=h1 j hj;have:=h2 (c - j - 1) j aa;omega
theorem RE.le {r c:Nat} {w:Mx} {bP:List Nat} (h:RE r c w bP):bP.length<=c:=by
 have h1:∀j,j<bP.length->j<=bP.getD j 0:=by
  intro j;induction j with
  |zero=>intro _;exact Γ _
  |succ j ih=>intro hj;have:=ih aa;have:=h.inc j (j+1) aa hj;omega
 rcases acX bP.length with e|e
 ·omega
 ·have:=h1 (bP.length - 1) aa;have:=h.lt (bP.length - 1) aa;omega
theorem A3 {n:Nat} {A B:Mx} (h:∀i,i<n->∀k,A i k=B i k):bz n A=bz n B:=bp λi k hi _=>h i hi k
theorem Ll (n:Nat) (W:Mx):(if (ry n n ⟨W,[],1⟩).bP.length<n then 0 else(ry n n ⟨W,[],1⟩).d)=bz n W:=by
 have h:=Inv.red (r:=n) (W:=W) n;generalize ry n n ⟨W,[],1⟩=s at*;obtain⟨P,h1,h2⟩:=h.Y0;have h3:bz n s.w=bz n P*bz n W:=by rw[A3 h2,yT]
 by_cases g:s.bP.length<n
 ·rw[if_pos g];have h4:bz n s.w=0:=by
   rw[(gf n).congr s.w (setRow s.w s.bP.length λ_=>0) λi q hi hq=>by
    by_cases e:i=s.bP.length
    ·rw[e,aU];exact h.low _ (ζ _) g q hq
    ·rw[aV _ _ e],(gf n).zero _ g]
  rw[h4]at h3;rcases acO.1 h3.symm with e|e
  ·exact absurd e (JG h1)
  ·exact e.symm
 ·rw[if_neg g];have hl:=h.len;have hf:=h.re.full aa;have h4:bz n s.w=1:=by
   rw[bp (B:=delta) λi q hi hq=>by
    have:=h.unit q aa i hi
    rw[hf q hq]at this;rw[this,delta],vU]
  rw[h4]at h3;grind
def rnk (r c:Nat) (W:Mx):Nat:=(ry r c ⟨W,[],1⟩).bP.length
theorem GX (r c:Nat) (W:Mx):rnk r c W<=r:=(Inv.red (r:=r) (W:=W) c).len
def Nn (M:Nat->List Rat) (sp:List Nat) (m k:Nat):Nat->List Rat
 |0=>(θ m 0).set k 1
 |i+1=>(Nn M sp m k i).set (sp.getD i 0) (- (M i).getD k 0)
theorem vZ (M:Nat->List Rat) (sp:List Nat) (m k:Nat):∀i,(Nn M sp m k i).length=m
 |0=>by simp[Nn]
 |i+1=>by rw[Nn,ϒ,vZ M sp m k i]
def FP (M:Nat->List Rat) (sp:List Nat) (m:Nat) (k:Nat):List Rat:=Nn M sp m k sp.length
def cn (sp:List Nat) (k:Nat):List Nat:=(Η k).filter λq=>decide (q∉sp)
theorem pV (sp:List Nat) (k:Nat):cn sp (k+1)=cn sp k++if k∈sp then[]else[k]:=by
 unfold cn;rw[ahb,akU];by_cases h:k∈sp
 ·rw[if_pos h];simp[h]
 ·rw[if_neg h];simp[h]
theorem Lm {r c m k:Nat} {w:Mx} {sp:List Nat} {M:Nat->List Rat} (h:RE r c w sp) (hk:k<m) (hn:k∉sp) (hm:c<=m) (hM:∀j,j<sp.length->(M j).getD k 0=w j k):
  ∀i,i<=sp.length->∀q,q<m->(Nn M sp m k i).getD q 0=delta q k - aj i λj=>delta q (sp.getD j 0)*w j k
 |0,_,q,hq=>by
  rw[Nn,aj];by_cases e:q=k
  ·subst e;simp[δ,delta,hq];grind
  ·simp[δ,delta,e,agO (ahf e),hq];grind
 |i+1,hi,q,hq=>by
  rw[Nn,aj];have ih:=Lm h hk hn hm hM i aa q hq;by_cases e:sp.getD i 0=q
  ·have hz:aj i (λj=>delta q (sp.getD j 0)*w j k)=0:=bh λj hj=>by
    rw[delta,if_neg λg=>by have:=Li h (i:=j) (j:=i) aa aa (by rw[<-g,e]);omega];grind
   have hqk:q≠k:=λg=>hn (du.2 ⟨i,aa,by rw[e,g]⟩)
   rw[hz,<-e,δ,List.getElem?_set_self (by rw[vZ,e];exact hq),e,hM i aa,delta,if_neg hqk,delta,if_pos rfl];simp only[aiY];grind
  ·rw[δ,agO e,<-δ,ih,show delta q (sp.getD i 0)=0 from if_neg (ahf e)];grind
theorem yX {r c m k:Nat} {w:Mx} {sp:List Nat} {M:Nat->List Rat} (h:RE r c w sp) (hk:k<m) (hn:k∉sp) (hm:c<=m) (hM:∀j,j<sp.length->(M j).getD k 0=w j k) {q:Nat} (hq:q<m):
  (FP M sp m k).getD q 0=kv w sp k q:=Lm h hk hn hm hM _ (ζ _) q hq
theorem GY {sp:List Nat} {k q:Nat}:q∈cn sp k↔q<k/\q∉sp:=by simp[cn]
theorem Dd:∀{l:List Nat},(∀i j,i<j->j<l.length->l.getD i 0<l.getD j 0)->l.Nodup
 |[],_=>List.nodup_nil
 |a::l,h=>by
  refine aiA.2 ⟨λhm=> ?_,Dd λi j KG hj=>by simpa using h (i+1) (j+1) aa (by simpa using hj)⟩;obtain⟨j,hj,e⟩:=du.1 hm;have:=h 0 (j+1) aa (by simpa using hj);simp only[List.getD_cons_zero,List.getD_cons_succ]at this;omega
theorem De {k:Nat}:∀{l:List Nat},l.Nodup->k∈l->l.count k=1
 |a::l,hn,h=>by
  rw[alv];have hn:=aiA.1 hn;rcases Λ.1 h with e|e
  ·subst e;rw[akW.2 hn.1];simp
  ·have g:a≠k:=λg=>hn.1 (g▸e)
   rw[De hn.2 e];simp[g]
theorem GZ {sp:List Nat} (hn:sp.Nodup):∀k,(cn sp k).length+sp.countP (λq=>decide (q<k))=k
 |0=>by simp[cn]
 |k+1=>by
  have ih:=GZ hn k;rw[pV,ξ];have e:sp.countP (λq=>decide (q<k+1))=sp.countP (λq=>decide (q<k))+sp.count k:=by
   clear ih hn;induction sp with
   |nil=>rfl
   |cons a l ih=>
    simp only[alk,alv,ih,decide_eq_true_eq,beq_iff_eq];by_cases g:a=k
    ·subst g;simp;omega
    ·by_cases g2:a<k
     ·rw[if_pos aa,if_pos g2,if_neg g];omega
     ·rw[if_neg aa,if_neg g2,if_neg g];omega
  by_cases h:k∈sp
  ·rw[if_pos h,e,De hn h];simp;omega
  ·rw[if_neg h,e,akW.2 h];simp;omega
theorem RE.nodup {r c:Nat} {w:Mx} {sp:List Nat} (h:RE r c w sp):sp.Nodup:=Dd h.inc
theorem RE.free {r c:Nat} {w:Mx} {sp:List Nat} (h:RE r c w sp):(cn sp c).length+sp.length=c:=by
 have:=GZ h.nodup c
 rwa [List.countP_eq_length.2 λq hq=>by
  obtain⟨j,hj,rfl⟩:=du.1 hq
  exact decide_eq_true (h.lt j hj)]at this
theorem No {r c:Nat} {W V:Mx} (h:∀i q,i<r->q<c->W i q=V i q) (x:Nat->Rat):xl r c W x↔xl r c V x:=by
 have e:∀i,i<r->aj c (λq=>W i q*x q)=aj c (λq=>V i q*x q):=λi hi=>ah c λq hq=>by rw[h i q hi hq]
 exact⟨λg i hi=>by rw[<-e i hi];exact g i hi,λg i hi=>by rw[e i hi];exact g i hi⟩
theorem Qj {r c:Nat} {w:Mx} {sp:List Nat} (h:RE r c w sp) {z:Nat->Rat} (hz:xl r c w z) (hf:∀q,q<c->q∉sp->z q=0):∀q,q<c->z q=0:=by
 intro q hq;by_cases g:q∈sp
 ·obtain⟨j,hj,rfl⟩:=du.1 g;have hjr:j<r:=Ϟ hj h.len;have:=hz j hjr
  rw[eu (j:=sp.getD j 0) c hq λq' uA a8=>by
   by_cases g':q'∈sp
   ·obtain⟨i,hi,rfl⟩:=du.1 g';rw[h.unit i hi j hjr,if_neg λe=>a8 (by rw[e])];grind
   ·rw[hf q' uA g'];grind,h.unit j hj j hjr,if_pos rfl]at this
  grind
 ·exact hf q hq g
theorem G0 (n:Nat) (W:Mx):(ry n n ⟨W,[],1⟩).bP.length=n↔bz n W≠0:=by
 have h:=Ll n W;have hi:=Inv.red (r:=n) (W:=W) n;obtain⟨P,h1,_⟩:=hi.Y0;have hd:(ry n n ⟨W,[],1⟩).d≠0:=JG (show(ry n n ⟨W,[],1⟩).d*bz n P=1 by rw[afY];exact h1);have hl:=hi.len;by_cases g:(ry n n ⟨W,[],1⟩).bP.length<n
 ·rw[if_pos g]at h;exact⟨λe=>aa,λe=>absurd h.symm e⟩
 ·rw[if_neg g]at h;exact⟨λ_=>by rw[<-h];exact hd,λ_=>aa⟩
theorem Inv.rnk {r c:Nat} {W:Mx} {s:St} (h:Inv r W c s):s.bP.length=rnk r c W:=
 congrArg List.length (RE.unique h.re (Inv.red (r:=r) (W:=W) c).re λx=>(h.ker x).trans ((Inv.red (r:=r) (W:=W) c).ker x).symm).1
theorem Inv.full {n:Nat} {W:Mx} {s:St} (h:Inv n W n s):s.bP.length=n↔bz n W≠0:=by rw[h.rnk];exact G0 n W
theorem V1 {r c:Nat} {w:Mx}:xl r c w λ_=>0:=λi _=>bh λq _=>by grind
theorem Ln {r c:Nat} {w:Mx} {f g:Nat->Rat} (h:∀q,q<c->f q=g q):xl r c w f↔xl r c w g:=by
 unfold xl;constructor
 ·intro k i hi;rw[<-k i hi];exact ah c λq hq=>by rw[h q hq]
 ·intro k i hi;rw[<-k i hi];exact ah c λq hq=>by rw[h q hq]
theorem Qk {r c:Nat} {a v b:List Rat} (hb:b.length=r) (h:∀i,i<r->aj c (λq=>el a c i q*v.getD q 0)=b.getD i 0):jw r c a v=b:=
 EB (n:=r) mS hb λi hi=>by rw[pR hi];exact h i hi
theorem mU {sp:List Nat} {c i:Nat} (hi:i<(cn sp c).length):(cn sp c).getD i 0<c/\(cn sp c).getD i 0∉sp:=by
 rw[δ,φ hi];exact GY.1 (ajg hi)
theorem G1 (sp:List Nat) (c:Nat) {i j:Nat} (KG:i<j) (hj:j<(cn sp c).length):(cn sp c).getD i 0<(cn sp c).getD j 0:=by
 have h:(cn sp c).Pairwise (·<·):=ajm _ aj4;rw[δ,δ,φ hj,φ (ai7 KG hj)];exact ahz.1 h i j (ai7 KG hj) hj KG
theorem V3 (M:Nat->List Rat) (sp:List Nat) (m k:Nat):(FP M sp m k).length=m:=vZ M sp m k _
section
variable {r c:Nat} {w:Mx} {sp:List Nat} {M:Nat->List Rat}
theorem V4 (h:RE r c w sp) (hM:∀j,j<sp.length->∀k,k<c->(M j).getD k 0=w j k) {k:Nat} (hk:k<c) (hn:k∉sp):xl r c w λq=>(FP M sp c k).getD q 0:=
 (Ln λq hq=>yX h hk hn (ζ c) (λj hj=>hM j hj k hk) hq).2 (JH h hk)
theorem Ql (h:RE r c w sp) (hM:∀j,j<sp.length->∀k,k<c->(M j).getD k 0=w j k) {i k:Nat} (hi:i<(cn sp c).length) (hk:k<(cn sp c).length):(FP M sp c ((cn sp c).getD i 0)).getD ((cn sp c).getD k 0) 0=if k=i then 1 else 0:=by
 obtain⟨h1,h2⟩:=mU hi;obtain⟨h3,h4⟩:=mU hk;rw[yX h h1 h2 (ζ c) (λj hj=>hM j hj _ h1) h3];by_cases e:k=i
 ·subst e;rw[if_pos rfl];exact yW h h2
 ·rw[if_neg e];refine vY h4 λg=>e ?_
  rcases ai1 k i with l|l|l
  ·have:=G1 sp c l hi;omega
  ·exact l
  ·have:=G1 sp c l hk;omega
end
theorem Lo {n:Nat} {a b:List Rat} {i k:Nat} (hi:i<n) (hk:k<n):el (yy n n n a b) n i k=pr n (el a n) (el b n) i k:=mP hi hk
theorem Lp {r c:Nat} {a:List Rat} {i k:Nat} (hi:i<c) (hk:k<r):el (fZ r c a) r i k=el a c k i:=mP hi hk
def eI (r c:Nat) (a:List Rat):List Nat:=(ry r c ⟨el a c,[],1⟩).bP
def RW (r c:Nat) (a:List Rat):Mx:=(ry r c ⟨el a c,[],1⟩).w
theorem A4 (r c:Nat) (a:List Rat):RE r c (RW r c a) (eI r c a):=(Inv.red (r:=r) (W:=el a c) c).re
theorem JI (r c:Nat) (a:List Rat) (x:Nat->Rat):xl r c (RW r c a) x↔xl r c (el a c) x:=(Inv.red (r:=r) (W:=el a c) c).ker x
theorem G2 (r c:Nat) (a:List Rat):(eI r c a).length=rnk r c (el a c):=rfl
theorem Inv.eI {r c:Nat} {W:Mx} {s:St} {a:List Rat} (h:Inv r W c s) (hW:∀i q,i<r->q<c->W i q=el a c i q):s.bP=eI r c a/\∀i q,i<r->q<c->s.w i q=RW r c a i q:=
 RE.unique h.re (A4 r c a) λx=>(h.ker x).trans ((No hW x).trans (JI r c a x).symm)
def rwM (r c:Nat) (a:List Rat) (i:Nat):List Rat:=(Η c).map (RW r c a i)
theorem v7 {r c:Nat} {a:List Rat} {i k:Nat} (hk:k<c):(rwM r c a i).getD k 0=RW r c a i k:=by simp[rwM,δ,hk]
def KL (r c:Nat) (a:List Rat):List (List Rat):=(cn (eI r c a) c).map (FP (rwM r c a) (eI r c a) c)
theorem Df {M N:Nat->List Rat} {sp:List Nat} {m k:Nat}:∀i,(∀j,j<i->(M j).getD k 0=(N j).getD k 0)->Nn M sp m k i=Nn N sp m k i
 |0,_=>rfl
 |i+1,h=>by rw[Nn,Nn,Df i λj hj=>h j aa,h i aa]
theorem aeM {r c:Nat} {W:Mx} {s:St} {a:List Rat} {M:Nat->List Rat} (h:Inv r W c s) (hW:∀i q,i<r->q<c->W i q=el a c i q) (hM:∀j,j<r->∀k,k<c->(M j).getD k 0=s.w j k):(cn s.bP c).map (FP M s.bP c)=KL r c a:=by
 obtain⟨h1,h2⟩:=h.eI hW;have hl:=h.len;rw[h1]at hl ⊢;refine List.map_congr_left λk hk=> ?_
 obtain⟨hk,_⟩:=GY.1 hk;exact Df _ λj hj=>by rw[hM j aa k hk,h2 j k aa hk,v7 hk]
theorem mV (r c:Nat) (a:List Rat):(KL r c a).length=(cn (eI r c a) c).length:=Χ _
theorem JJ (r c:Nat) (a:List Rat):(KL r c a).length+(eI r c a).length=c:=by rw[mV];exact(A4 r c a).free
section
variable {r c:Nat} {a:List Rat} {i k:Nat}
theorem A5 (hi:i<(KL r c a).length):(KL r c a).getD i []=FP (rwM r c a) (eI r c a) c ((cn (eI r c a) c).getD i 0):=by
 rw[mV]at hi;simp[KL,δ,hi]
theorem Lq (hi:i<(KL r c a).length):((KL r c a).getD i []).length=c:=by rw[A5 hi];exact V3 ..
theorem EI (hi:i<(KL r c a).length):xl r c (el a c) λq=>((KL r c a).getD i []).getD q 0:=by
 rw[A5 hi];rw[mV]at hi;obtain⟨h1,h2⟩:=mU hi;exact(JI r c a _).1 (V4 (A4 r c a) (λj _ k hk=>v7 hk) h1 h2)
theorem yY (hi:i<(KL r c a).length) (hk:k<(KL r c a).length):((KL r c a).getD i []).getD ((cn (eI r c a) c).getD k 0) 0=if k=i then 1 else 0:=by
 rw[A5 hi];rw[mV]at hi hk;exact Ql (A4 r c a) (λj _ k hk=>v7 hk) hi hk
theorem abD (hi:i<(KL r c a).length) {q:Nat} (hq:q<c):((KL r c a).getD i []).getD q 0=0\/((KL r c a).getD i []).getD q 0=1\/∃j k,j<r/\k<c/\((KL r c a).getD i []).getD q 0= - RW r c a j k:=by
 rw[A5 hi];rw[mV]at hi;obtain⟨h1,h2⟩:=mU hi;have h:=A4 r c a;rw[yX h h1 h2 (ζ c) (λj _=>v7 h1) hq];by_cases hm:q∈eI r c a
 ·obtain⟨j,hj,rfl⟩:=du.1 hm;exact .inr (.inr ⟨j,_,by have:=h.len;omega,h1,Qh h h2 hj⟩)
 ·by_cases e:q=(cn (eI r c a) c).getD i 0
  ·subst e;exact .inr (.inl (yW h h2))
  ·exact .inl (vY hm e)
end
def Ck (r c:Nat) (a b:List Rat) (x:Nat->Rat):Prop:=∀i,i<r->aj c (λq=>el a c i q*x q)=b.getD i 0
theorem Ck.ext {r c:Nat} {a b:List Rat} {x y:Nat->Rat} (h:Ck r c a b x) (he:∀q,q<c->x q=y q):Ck r c a b y:=λi hi=>by rw[<-h i hi];exact ah c λq hq=>by rw[he q hq]
theorem Ck.app {r c:Nat} {a b v:List Rat} (hb:b.length=r) (h:Ck r c a b λq=>v.getD q 0):jw r c a v=b:=Qk hb h
theorem Ck.of {r c:Nat} {a v:List Rat}:Ck r c a (jw r c a v) λq=>v.getD q 0:=λi hi=>by rw[pR hi]
theorem Ck.add {r c:Nat} {a b:List Rat} {x y:Nat->Rat} (t:Rat) (h:Ck r c a b x) (hk:xl r c (el a c) y):Ck r c a b λq=>t*y q+x q:=by
 intro i hi;have e:aj c (λq=>el a c i q*(t*y q+x q))=t*aj c (λq=>el a c i q*y q)+aj c (λq=>el a c i q*x q):=by
  rw[<-sum_smul,<-sum_add];exact ah c λq _=>by grind
 rw[e,h i hi,hk i hi];grind
theorem Ck.sub {r c:Nat} {a b:List Rat} {x y:Nat->Rat} (h:Ck r c a b x) (h':Ck r c a b y):xl r c (el a c) λq=>x q - y q:=by
 intro i hi;have e:aj c (λq=>el a c i q*(x q - y q))=aj c (λq=>el a c i q*x q)+(-1)*aj c (λq=>el a c i q*y q):=by
  rw[<-sum_smul,<-sum_add];exact ah c λq _=>by grind
 rw[e,h i hi,h' i hi];grind
theorem Ck.eq {r c:Nat} {a b:List Rat} {x y:Nat->Rat} (h:Ck r c a b x) (h':Ck r c a b y) (hf:∀q,q<c->q∉eI r c a->x q=y q):∀q,q<c->x q=y q:=by
 intro q hq;have:=Qj (A4 r c a) ((JI r c a _).2 (h.sub h')) (λq hq hn=>by rw[hf q hq hn];grind) q hq;grind
section
variable {r c:Nat} {W:Mx} {s:St} {a b:List Rat} (hi:Inv r W c s) (hW:∀i q,i<r->q<c->W i q=el a c i q) (hb:∀i,i<r->W i c=b.getD i 0)
include hi hW hb
end
def qf (n:Nat) (A:Mx) (x:Nat->Rat):Rat:=aj n λi=>aj n λk=>x i*A i k*x k
theorem dB {n:Nat} {A:Mx} {x y:Nat->Rat} (h:∀i,i<n->x i=y i):qf n A x=qf n A y:=
 ah n λi hi=>ah n λk hk=>by rw[h i hi,h k hk]
theorem jT {n:Nat} {A B:Mx} {x:Nat->Rat} (h:∀i k,i<n->k<n->A i k=B i k):qf n A x=qf n B x:=
 ah n λi hi=>ah n λk hk=>by rw[h i k hi hk]
theorem ey (n:Nat) (s:Rat) (A:Mx) (x:Nat->Rat):qf n (λi k=>s*A i k) x=s*qf n A x:=by
 unfold qf;rw[<-sum_smul];refine ah n λi _=> ?_
 rw[<-sum_smul];exact ah n λk _=>by grind
theorem xm (n:Nat) (A B:Mx) (x:Nat->Rat):qf n (λi k=>A i k+B i k) x=qf n A x+qf n B x:=by
 unfold qf;rw[<-sum_add];refine ah n λi _=> ?_
 rw[<-sum_add];exact ah n λk _=>by grind
def comb (k:Nat) (c:Nat->Rat) (V:Mx):Nat->Rat:=λi=>aj k λj=>c j*V j i
structure Od (n:Nat) (T:(Nat->Rat)->Nat->Rat):Prop where
 wZ:∀(c:Rat) (x y:Nat->Rat) i,i<n->T (λq=>c*x q+y q) i=c*T x i+T y i
 A6:∀x y,(∀i,i<n->x i=y i)->∀i,i<n->T x i=T y i
theorem Od.zero {n:Nat} {T:(Nat->Rat)->Nat->Rat} (h:Od n T) {i:Nat} (hi:i<n):T (λ_=>0) i=0:=by
 have e:=h.wZ 1 (λ_=>0) (λ_=>0) i hi;have e2:=h.A6 (λq=>1*(0:Rat)+0) (λ_=>0) (λ_ _=>by grind) i hi;rw[e2]at e;grind
theorem Od.Lr {n:Nat} {T:(Nat->Rat)->Nat->Rat} (h:Od n T) (c:Nat->Rat) (V:Mx):∀k i,i<n->T (comb k c V) i=comb k c (λj=>T (V j)) i
 |0,i,hi=>h.zero hi
 |k+1,i,hi=>by
  show T (comb (k+1) c V) i=comb k c (λj=>T (V j)) i+c k*T (V k) i;rw[<-Od.Lr h c V k i hi];have e:=h.wZ (c k) (V k) (comb k c V) i hi;rw[h.A6 (λq=>c k*V k q+comb k c V q) (comb (k+1) c V) (λq _=>by show c k*V k q+comb k c V q=comb k c V q+c k*V k q;grind) i hi]at e;rw[e];grind
structure EJ (n:Nat) (T S:(Nat->Rat)->Nat->Rat):Prop where
 wZ:Od n T
 JK:Od n S
 inv:∀x i,i<n->T (S x) i=x i
 Qm:∀x i,i<n->S (T x) i=x i
theorem EJ.id (n:Nat):EJ n (λx=>x) (λx=>x):=⟨⟨λ_ _ _ _ _=>rfl,λ_ _ h=>h⟩,⟨λ_ _ _ _ _=>rfl,λ_ _ h=>h⟩,λ_ _ _=>rfl,λ_ _ _=>rfl⟩
theorem Od.trans {n:Nat} {T U:(Nat->Rat)->Nat->Rat} (h:Od n T) (g:Od n U):Od n λx=>T (U x):=
 ⟨λc x y i hi=>by rw[<-h.wZ c (U x) (U y) i hi];exact h.A6 _ _ (λq hq=>g.wZ c x y q hq) i hi,λx y YJ i hi=>h.A6 _ _ (g.A6 x y YJ) i hi⟩
theorem EJ.trans {n:Nat} {T S U V:(Nat->Rat)->Nat->Rat} (h:EJ n T S) (g:EJ n U V):EJ n (λx=>T (U x)) (λx=>V (S x)) where
 wZ:=h.wZ.trans g.wZ
 JK:=g.JK.trans h.JK
 inv x i hi:=by rw[h.wZ.A6 _ _ (λq hq=>g.inv (S x) q hq) i hi];exact h.inv x i hi
 Qm x i hi:=by rw[g.JK.A6 _ _ (λq hq=>h.Qm (U x) q hq) i hi];exact g.Qm x i hi
theorem EJ.symm {n:Nat} {T S:(Nat->Rat)->Nat->Rat} (h:EJ n T S):EJ n S T:=⟨h.JK,h.wZ,h.Qm,h.inv⟩
def eP (n:Nat) (A:Mx) (k:Nat):Prop:=∃V:Mx,∀c:Nat->Rat,(∃j,j<k/\c j≠0)->0<qf n A (comb k c V)
theorem eP.mono {n k:Nat} {A B:Mx} (h:∀x,qf n A x<=qf n B x) (hk:eP n A k):eP n B k:=by
 obtain⟨V,hV⟩:=hk;exact⟨V,λc hc=>by have h1:=hV c hc;have h2:=h (comb k c V);grind⟩
theorem eP.congr {n k:Nat} {A B:Mx} (h:∀i j,i<n->j<n->A i j=B i j):eP n A k↔eP n B k:=by
 constructor
 ·exact eP.mono λx=>by rw[jT h];exact Ϥ
 ·exact eP.mono λx=>by rw[jT h];exact Ϥ
theorem eP.iso {n k:Nat} {A B:Mx} {T S:(Nat->Rat)->Nat->Rat} (hT:EJ n T S) (h:∀x,qf n B x=qf n A (T x)) (hk:eP n B k):eP n A k:=by
 obtain⟨V,hV⟩:=hk;refine⟨λj=>T (V j),λc hc=> ?_⟩;have:=hV c hc;rw[h]at this;rwa [dB (y:=comb k c λj=>T (V j)) λi hi=>hT.wZ.Lr c V k i hi]at this
def Cg (n:Nat) (A B:Mx):Prop:=∃T S,EJ n T S/\∀x,qf n B x=qf n A (T x)
theorem Cg.refl (n:Nat) (A:Mx):Cg n A A:=⟨_,_,EJ.id n,λ_=>rfl⟩
theorem Cg.trans {n:Nat} {A B C:Mx} (h:Cg n A B) (g:Cg n B C):Cg n A C:=by
 obtain⟨T,S,h1,h2⟩:=h;obtain⟨U,V,g1,g2⟩:=g;exact⟨_,_,h1.trans g1,λx=>by rw[g2,h2]⟩
theorem Cg.symm {n:Nat} {A B:Mx} (h:Cg n A B):Cg n B A:=by
 obtain⟨T,S,h1,h2⟩:=h;exact⟨_,_,h1.symm,λx=>by rw[h2];exact(dB λi hi=>h1.inv x i hi).symm⟩
theorem Cg.congr {n:Nat} {A B C:Mx} (h:Cg n A B) (e:∀i k,i<n->k<n->B i k=C i k):Cg n A C:=by
 obtain⟨T,S,h1,h2⟩:=h;exact⟨T,S,h1,λx=>by rw[<-h2];exact(jT e).symm⟩
theorem Cg.yA {n k:Nat} {A B:Mx} (h:Cg n A B):eP n A k↔eP n B k:=by
 obtain⟨T,S,h1,h2⟩:=h;exact⟨eP.iso h1.symm λx=>by rw[h2];exact(dB λi hi=>h1.inv x i hi).symm,eP.iso h1 h2⟩
theorem Cg.neg {n:Nat} {A B:Mx} (h:Cg n A B):Cg n (λi k=> -1*A i k) (λi k=> -1*B i k):=by
 obtain⟨T,S,h1,h2⟩:=h;exact⟨T,S,h1,λx=>by rw[ey,ey,h2]⟩
theorem EK {p k:Nat} (h:p<k) (V:Mx):∃c:Nat->Rat,(∃j,j<k/\c j≠0)/\∀a,a<p->aj k (λj=>c j*V j a)=0:=by
 have e:=JJ p k (mk p k λa j=>V j a);have hr:=GX p k (el (mk p k λa j=>V j a) k);rw[<-G2]at hr;have h0:0<(KL p k (mk p k λa j=>V j a)).length:=aa;refine⟨λj=>((KL p k (mk p k λa j=>V j a)).getD 0 []).getD j 0,⟨(cn (eI p k (mk p k λa j=>V j a)) k).getD 0 0,(mU (by rw[<-mV];exact h0)).1, ?_⟩,λa ha=> ?_⟩
 ·show((KL p k (mk p k λa j=>V j a)).getD 0 []).getD _ 0≠0;rw[yY h0 h0,if_pos rfl];decide
 ·exact(ah k λj hj=>by rw[mP ha hj,afY]).trans (EI h0 a ha)
def cX (n:Nat) (p:Nat->Bool):Nat:=((Η n).filter p).length
theorem dE (n:Nat) (p:Nat->Bool):cX (n+1) p=cX n p+if p n then 1 else 0:=by
 unfold cX;rw[ahb,akU,ξ];congr 1;cases h:p n<;>simp[h]
theorem uL:∀{n:Nat} {f:Nat->Rat},(∀i,i<n->0<=f i)->0<=aj n f
 |0,_,_=>Ϥ
 |n+1,f,h=>by
  rw[aj];have h1:=uL (n:=n) λi hi=>h i aa
  have h2:=h n aa;grind
theorem Qn {n:Nat} {f:Nat->Rat} (h:∀i,i<n->f i<=0):aj n f<=0:=by
 have e:aj n (λi=> -1*f i)= -1*aj n f:=sum_smul _ _ _;have:=uL (n:=n) (f:=λi=> -1*f i) λi hi=>by have:=h i hi;grind
 grind
theorem sl:∀{n:Nat} {f:Nat->Rat},(∀i,i<n->0<=f i)->(∃i,i<n/\0<f i)->0<aj n f
 |0,_,_,⟨i,hi,_⟩=>aa
 |n+1,f,h,⟨i,hi,hp⟩=>by
  rw[aj];have h1:=uL (n:=n) λi hi=>h i aa
  have h2:=h n aa;by_cases e:i=n
  ·subst e;grind
  ·have:=sl (n:=n) (λi hi=>h i aa) ⟨i,aa,hp⟩;grind
theorem mW (x:Rat):0<=x*x:=by
 rcases Rat.le_total (a:=0) (b:=x)with h|h
 ·exact π h h
 ·have:=π (show(0:Rat)<= -x by grind) (show(0:Rat)<= -x by grind);grind
theorem sq_pos {x:Rat} (h:x≠0):0<x*x:=by
 have h1:=mW x;have h2:x*x≠0:=λg=>(acO.1 g).elim h h
 grind
def pj (d:Nat->Rat):Mx:=λi k=>if i=k then d i else 0
theorem yh (n:Nat) (d x:Nat->Rat):qf n (pj d) x=aj n λi=>d i*(x i*x i):=by
 refine ah n λi hi=> ?_
 rw[eu (j:=i) _ hi λk _ a8=>by unfold pj;rw[if_neg (ahf a8)];grind];unfold pj;rw[if_pos rfl];grind
theorem rz {n:Nat} {p:Nat->Bool} {a:Nat} (ha:a<cX n p):((Η n).filter p).getD a 0<n/\p (((Η n).filter p).getD a 0)=true:=by
 unfold cX at ha;rw[δ,φ ha];have:=ajg ha;rw[ajB,af4]at this;exact this
theorem G3 {n:Nat} {p:Nat->Bool} {i:Nat} (hi:i<n) (hp:p i=true):∃a,a<cX n p/\((Η n).filter p).getD a 0=i:=by
 have:i∈(Η n).filter p:=by rw[ajB,af4];exact⟨hi,hp⟩
 obtain⟨a,ha,e⟩:=akB this;exact⟨a,ha,by rw[δ,φ ha];exact e⟩
theorem G4 {n:Nat} {p:Nat->Bool} {a b:Nat} (ha:a<cX n p) (hb:b<cX n p) (h:((Η n).filter p).getD a 0=((Η n).filter p).getD b 0):a=b:=by
 have hw:((Η n).filter p).Pairwise (·<·):=ajm _ aj4;unfold cX at ha hb;rw[δ,δ,φ ha,φ hb]at h;rcases ai1 a b with g|g|g
 ·have:=ahz.1 hw a b ha hb g;simp only[aiY]at h;omega
 ·exact g
 ·have:=ahz.1 hw b a hb ha g;simp only[aiY]at h;omega
def G5 (n:Nat) (d:Nat->Rat) (a:Nat):Nat:=((Η n).filter λi=>decide (0<d i)).getD a 0
def A7 (n:Nat) (d:Nat->Rat):Mx:=λj i=>if G5 n d j=i then 1 else 0
theorem kE {n k:Nat} {d:Nat->Rat}:eP n (pj d) k↔k<=cX n λi=>decide (0<d i):=by
 constructor
 ·rintro⟨V,hV⟩;refine agK λaE=> ?_
  obtain⟨c,hc,h0⟩:=EK aE λj a=>V j (((Η n).filter λi=>decide (0<d i)).getD a 0)
  have h1:=hV c hc;rw[yh]at h1;have h2:aj n (λi=>d i*(comb k c V i*comb k c V i))<=0:=Qn λi hi=>by
   by_cases hd:0<d i
   ·obtain⟨a,ha,e⟩:=G3 (p:=λi=>decide (0<d i)) hi (decide_eq_true hd);have:=h0 a ha;rw[e]at this;show d i*(comb k c V i*comb k c V i)<=0;rw[show comb k c V i=0 from this];grind
   ·have h3:=mW (comb k c V i);have h4:=π (show(0:Rat)<= - d i by grind) h3;grind
  grind
 ·intro hk;refine⟨A7 n d,λc ⟨j,hj,a8⟩=> ?_⟩;rw[yh];have hg:=λa (ha:a<k)=>rz (n:=n) (p:=λi=>decide (0<d i)) (a:=a) aa
  have b7:∀a,a<k->comb k c (A7 n d) (G5 n d a)=c a:=λa ha=>by
   show aj k (λj=>c j*A7 n d j (G5 n d a))=c a;rw[eu (j:=a) k ha λb hb a8=>by unfold A7;rw[if_neg (show ¬G5 n d b=G5 n d a from λe=>a8 (G4 (p:=λi=>decide (0<d i)) aa aa e))];grind];unfold A7;rw[if_pos rfl];grind
  have ahc:∀i,i<n->¬0<d i->comb k c (A7 n d) i=0:=λi hi hd=>
   bh λb hb=>by unfold A7;rw[if_neg (show ¬G5 n d b=i from λe=>hd (by have:=(hg b hb).2;unfold G5 at e;rw[e]at this;exact of_decide_eq_true this))];grind
  refine sl (λi hi=> ?_) ⟨_,(hg j hj).1, ?_⟩
  ·by_cases hd:0<d i
   ·exact π (by grind) (mW _)
   ·rw[ahc i hi hd];grind
  ·have e:=b7 j hj;unfold G5 at e;rw[e];exact ϡ (of_decide_eq_true (hg j hj).2) (sq_pos a8)
def lK (X:Mx) (t f:Nat) (c:Rat):Mx:=λj l=>X j l+(if j=t then c*X f l else 0)+(if l=t then c*X j f else 0)+(if j=t then(if l=t then c*c*X f f else 0)else 0)
theorem oU {n t:Nat} (ht:t<n) (g:Nat->Rat):aj n (λk=>if k=t then g k else 0)=g t:=by
 rw[eu (j:=t) n ht λi _ a8=>if_neg a8,if_pos rfl]
theorem V5 {n t f:Nat} {X:Mx} {c:Rat} {x:Nat->Rat} (ht:t<n) (hf:f<n):qf n (lK X t f c) x=qf n X λi=>if i=f then x i+c*x t else x i:=by
 have hL:∀i,i<n->aj n (λk=>x i*lK X t f c i k*x k)=x i*aj n (λk=>X i k*x k)+(if i=t then x i*c*aj n (λk=>X f k*x k)else 0)+x i*(c*X i f*x t)+(if i=t then x i*(c*c*X f f*x t)else 0):=λi hi=>by
  rw[ah n (g:=λk=>((x i*(X i k*x k)+(if i=t then x i*c else 0)*(X f k*x k))+(if k=t then x i*(c*X i f*x k)else 0))+(if k=t then(if i=t then x i*(c*c*X f f*x k)else 0)else 0)) λk _=>by
   unfold lK;by_cases h1:i=t
   ·by_cases h2:k=t
    ·rw[if_pos h1,if_pos h2,if_pos h1,if_pos h2,if_pos h1,if_pos h2,if_pos h2,if_pos h1];grind
    ·rw[if_pos h1,if_neg h2,if_pos h1,if_neg h2,if_pos h1,if_neg h2,if_neg h2];grind
   ·by_cases h2:k=t
    ·rw[if_neg h1,if_pos h2,if_neg h1,if_neg h1,if_pos h2,if_pos h2,if_neg h1];grind
    ·rw[if_neg h1,if_neg h2,if_neg h1,if_neg h1,if_neg h2,if_neg h2];grind]
  rw[sum_add,sum_add,sum_add,sum_smul,sum_smul,oU ht,oU ht];by_cases h1:i=t
  ·rw[if_pos h1,if_pos h1,if_pos h1]
  ·rw[if_neg h1,if_neg h1,if_neg h1];grind
 have hR:∀i,i<n->aj n (λk=>(if i=f then x i+c*x t else x i)*X i k*(if k=f then x k+c*x t else x k))=(x i*aj n (λk=>X i k*x k)+x i*(c*X i f*x t))+(if i=f then c*x t*(aj n (λk=>X f k*x k)+c*x t*X f f)else 0):=λi hi=>by
  rw[ah n (g:=λk=>(if i=f then x i+c*x t else x i)*(X i k*x k)+(if k=f then(if i=f then x i+c*x t else x i)*(X i k*(c*x t))else 0)) λk _=>by
   by_cases h2:k=f
   ·rw[if_pos h2,if_pos h2];grind
   ·rw[if_neg h2,if_neg h2];grind]
  rw[sum_add,sum_smul,oU hf];by_cases h1:i=f
  ·rw[if_pos h1,if_pos h1,h1];grind
  ·rw[if_neg h1,if_neg h1];grind
 show aj n (λi=>aj n λk=>x i*lK X t f c i k*x k)=aj n (λi=>aj n λk=>(if i=f then x i+c*x t else x i)*X i k*(if k=f then x k+c*x t else x k));rw[ah n hL,ah n hR,sum_add,sum_add,sum_add,sum_add,sum_add,oU ht (λi=>x i*c*aj n (λk=>X f k*x k)),oU ht (λi=>x i*(c*c*X f f*x t)),oU hf (λ_=>c*x t*(aj n (λk=>X f k*x k)+c*x t*X f f))];grind
theorem Ls {n t f:Nat} (X:Mx) (c:Rat) (ht:t<n) (hf:f<n) (a8:t≠f):Cg n X (lK X t f c):=by
 refine⟨λx i=>if i=f then x i+c*x t else x i,λx i=>if i=f then x i+(-c)*x t else x i,⟨⟨λa x y i hi=> ?_,λx y h i hi=> ?_⟩,⟨λa x y i hi=> ?_,λx y h i hi=> ?_⟩,λx i hi=> ?_,λx i hi=> ?_⟩,λx=>V5 ht hf⟩
 ·by_cases e:i=f
  ·simp only[if_pos e];grind
  ·simp only[if_neg e]
 ·simp only[h i hi,h t ht]
 ·by_cases e:i=f
  ·simp only[if_pos e];grind
  ·simp only[if_neg e]
 ·simp only[h i hi,h t ht]
 ·by_cases e:i=f
  ·simp only[if_pos e,if_neg a8];grind
  ·simp only[if_neg e]
 ·by_cases e:i=f
  ·simp only[if_pos e,if_neg a8];grind
  ·simp only[if_neg e]
def dq (n:Nat) (X:Mx):Prop:=∀j l,j<n->l<n->X j l=X l j
theorem Qo {n t f:Nat} {X:Mx} {c:Rat} (h:dq n X) (ht:t<n) (hf:f<n):dq n (lK X t f c):=by
 intro j l hj hl;unfold lK;rw[h j l hj hl,h f l hf hl,h j f hj hf];by_cases h1:j=t
 ·by_cases h2:l=t
  ·rw[if_pos h1,if_pos h2];simp only[if_pos h1,if_pos h2];grind
  ·simp only[if_pos h1,if_neg h2];grind
 ·by_cases h2:l=t
  ·simp only[if_neg h1,if_pos h2];grind
  ·simp only[if_neg h1,if_neg h2]
def jx (X:Mx) (i k:Nat):Mx:=λj l=>if (j<k/\j≠i)\/(l<k/\l≠i)then X j l - X j i*X i l/X i i else X j l
theorem G6 (X:Mx) (i:Nat):jx X i 0=X:=by
 funext j l;unfold jx;rw[if_neg aa]
section
variable {n i k:Nat} {X:Mx} (hs:dq n X) (hi:i<n) (hk:k<n) (hp:X i i≠0)
include hs hi hk
theorem Qp (h0:X k i=0) (a8:k≠i):∀j l,j<n->l<n->jx X i (k+1) j l=jx X i k j l:=by
 intro j l hj hl;have h1:X i k=0:=by rw[hs i k hi hk,h0]
 unfold jx;by_cases e1:(j<k/\j≠i)\/(l<k/\l≠i)
 ·rw[if_pos e1,if_pos aa]
 ·rw[if_neg e1];by_cases e2:j=k
  ·subst e2;rw[if_pos aa,h0];grind
  ·by_cases e3:l=k
   ·subst e3;rw[if_pos aa,h1];grind
   ·rw[if_neg aa]
omit hs hi hk in
theorem G7:jx X i (i+1)=jx X i i:=by
 funext j l;unfold jx;by_cases e1:(j<i/\j≠i)\/(l<i/\l≠i)
 ·rw[if_pos e1,if_pos aa]
 ·rw[if_neg e1,if_neg aa]
include hp
theorem G8 (a8:k≠i):∀j l,j<n->l<n->lK (jx X i k) k i (-(X k i/X i i)) j l=jx X i (k+1) j l:=by
 intro j l hj hl;have hki:jx X i k k i=X k i:=by unfold jx;rw[if_neg aa]
 have hii:jx X i k i i=X i i:=by unfold jx;rw[if_neg aa]
 have V6:∀l,jx X i k i l=if l<k/\l≠i then 0 else X i l:=λl=>by
  unfold jx;by_cases g:l<k/\l≠i
  ·rw[if_pos aa,if_pos g,Ϡ];have:X i i*(X i i)⁻¹=1:=Ν _ hp;grind
  ·rw[if_neg aa,if_neg g]
 have w6:∀j,jx X i k j i=if j<k/\j≠i then 0 else X j i:=λj=>by
  unfold jx;by_cases g:j<k/\j≠i
  ·rw[if_pos aa,if_pos g,Ϡ];have:X i i*(X i i)⁻¹=1:=Ν _ hp;grind
  ·rw[if_neg aa,if_neg g]
 have EL:=hs i k hi hk;have oy:X i i*(X i i)⁻¹=1:=Ν _ hp;unfold lK;rw[hii,V6,w6];by_cases e1:j=k
 ·subst e1;by_cases e2:l=j
  ·subst e2;simp only[if_true];rw[if_neg aa,if_neg aa];unfold jx;rw[if_neg aa,if_pos aa,Ϡ,Ϡ];grind
  ·simp only[if_true,if_neg e2];by_cases g:l<j/\l≠i
   ·rw[if_pos g];unfold jx;rw[if_pos aa,if_pos aa];grind
   ·rw[if_neg g];unfold jx;rw[if_neg aa,if_pos aa,Ϡ,Ϡ];grind
 ·simp only[if_neg e1];by_cases e2:l=k
  ·subst e2;simp only[if_true];by_cases g:j<l/\j≠i
   ·rw[if_pos g];unfold jx;rw[if_pos aa,if_pos aa];grind
   ·rw[if_neg g];unfold jx;rw[if_neg aa,if_pos aa,Ϡ,Ϡ];grind
  ·simp only[if_neg e2];unfold jx;by_cases g:(j<k/\j≠i)\/(l<k/\l≠i)
   ·rw[if_pos g,if_pos aa];grind
   ·rw[if_neg g,if_neg aa];grind
end
theorem V7 {n i k:Nat} {X:Mx} (hs:dq n X) (hi:i<n):dq n (jx X i k):=by
 intro j l hj hl;unfold jx;rw[hs j l hj hl,hs j i hj hi,hs i l hi hl];by_cases g:(j<k/\j≠i)\/(l<k/\l≠i)
 ·rw[if_pos g,if_pos aa];rw[afY]
 ·rw[if_neg g,if_neg aa]
theorem Qq {n i:Nat} {X:Mx} (hs:dq n X) (hi:i<n) (hp:X i i≠0):∀k,k<=n->Cg n X (jx X i k)
 |0,_=>by rw[G6];exact Cg.refl n X
 |k+1,h=>by
  have ih:=Qq hs hi hp k aa;by_cases e:k=i
  ·subst e;rw[G7];exact ih
  ·exact(ih.trans (Ls _ (-(X k i/X i i)) aa hi e)).congr (G8 hs hi aa hp e)
structure s6 (n:Nat) (A X:Mx) (done:Nat->Bool):Prop where
 sym:dq n X
 cg:Cg n A X
 dn:∀j,j<n->done j=true->X j j≠0/\∀l,l<n->l≠j->X j l=0
theorem s6.start {n:Nat} {A:Mx} (h:dq n A):s6 n A A λ_=>false:=⟨h,Cg.refl n A,λ_ _ h=>by cases h⟩
theorem s6.col {n:Nat} {A X:Mx} {done:Nat->Bool} (h:s6 n A X done) {j l:Nat} (hj:j<n) (hl:l<n) (hd:done j=true) (a8:l≠j):X l j=0:=by rw[h.sym l j hl hj];exact(h.dn j hj hd).2 l hl a8
theorem s6.mix {n i k:Nat} {A X:Mx} {done:Nat->Bool} (h:s6 n A X done) (hi:i<n) (hk:k<n) (di:done i=false) (dk:done k=false) (h0:∀j,j<n->done j=false->X j j=0) (hx:X i k≠0):s6 n A (lK X i k 1) done/\lK X i k 1 i i≠0:=by
 have a8:i≠k:=λe=>hx (by rw[<-e];exact h0 i hi di)
 refine⟨⟨Qo h.sym hi hk,h.cg.trans (Ls X 1 hi hk a8),λj hj hd=> ?_⟩, ?_⟩
 ·have w6:j≠i:=λe=>by rw[e,di]at hd;cases hd
  have Dg:j≠k:=λe=>by rw[e,dk]at hd;cases hd
  obtain⟨h1,h2⟩:=h.dn j hj hd;have h3:=h2 k hk (ahf Dg);unfold lK;simp only[if_neg w6,h3];refine⟨?_,λl hl hlj=> ?_⟩
  ·intro g;apply h1;grind
  ·rw[h2 l hl hlj];grind
 ·unfold lK;simp only[if_true];rw[h0 i hi di,h0 k hk dk,h.sym k i hk hi];intro g;apply hx;grind
theorem s6.bP {n i:Nat} {A X:Mx} {done:Nat->Bool} (h:s6 n A X done) (hi:i<n) (hp:X i i≠0):s6 n A (jx X i n) (λj=>done j||decide (j=i))/\(∀j,j<n->done j=true->jx X i n j j=X j j)/\jx X i n i i=X i i:=by
 have oy:X i i*(X i i)⁻¹=1:=Ν _ hp;have hii:jx X i n i i=X i i:=by unfold jx;rw[if_neg aa]
 have hdj:∀j,j<n->done j=true->j≠i->∀l,l<n->jx X i n j l=X j l:=λj hj hd a8 l hl=>by
  have:=(h.dn j hj hd).2 i hi (ahf a8);unfold jx;split
  ·rw[this,Ϡ];grind
  ·rfl
 refine⟨⟨V7 h.sym hi,h.cg.trans (Qq h.sym hi hp n (ζ _)),λj hj hd=> ?_⟩,λj hj hd=> ?_,hii⟩
 ·by_cases e:j=i
  ·subst e;rw[hii];refine⟨hp,λl hl a8=> ?_⟩;unfold jx;rw[if_pos (.inr ⟨hl,a8⟩),Ϡ];grind
  ·have IC:done j=true:=by simpa [e]using hd
   rw[hdj j hj IC e j hj];exact⟨(h.dn j hj IC).1,λl hl a8=>by rw[hdj j hj IC e l hl];exact(h.dn j hj IC).2 l hl a8⟩
 ·by_cases e:j=i
  ·subst e;exact hii
  ·exact hdj j hj hd e j hj
structure cJ (n:Nat) (A:Mx) (m z p:Nat):Prop where
 pos:∀k,eP n A k↔k<=p
 neg:∀k,eP n (λi k=> -1*A i k) k↔k<=m
 sum:m+z+p=n
theorem cJ.unique {n:Nat} {A:Mx} {m z p m' z' p':Nat} (h:cJ n A m z p) (g:cJ n A m' z' p'):m=m'/\z=z'/\p=p':=by
 have h1:=(g.pos p).1 ((h.pos p).2 (ζ _));have h2:=(h.pos p').1 ((g.pos p').2 (ζ _));have h3:=(g.neg m).1 ((h.neg m).2 (ζ _));have h4:=(h.neg m').1 ((g.neg m').2 (ζ _));have h5:=h.sum;have h6:=g.sum;omega
theorem gG {p q:Nat->Bool}:∀{n:Nat},(∀i,i<n->p i=q i)->cX n p=cX n q
 |0,_=>rfl
 |n+1,h=>by rw[dE,dE,gG (n:=n) λi hi=>h i aa,h n aa]
theorem sn (p:Nat->Bool):∀n,cX n p<=n
 |0=>ζ _
 |n+1=>by rw[dE];have:=sn p n;split<;>omega
theorem v8 {p q:Nat->Bool} {i:Nat}:∀{n:Nat},i<n->p i=false->(∀j,j<n->j≠i->q j=p j)->cX n q=cX n p+if q i then 1 else 0
 |0,h,_,_=>aa
 |n+1,h,hp,hq=>by
  rw[dE,dE];by_cases e:i=n
  ·subst e;rw[hp,gG (n:=i) λj hj=>hq j aa aa];simp
  ·rw[v8 (n:=n) aa hp λj hj=>hq j aa,hq n aa aa];omega
theorem G9 {d p q:Nat->Bool}:∀{n:Nat},(∀j,j<n->d j=true->(p j != q j)=true)->cX n (λj=>d j&&p j)+cX n (λj=>d j&&q j)=cX n d
 |0,_=>rfl
 |n+1,h=>by
  rw[dE,dE,dE];have ih:=G9 (n:=n) (d:=d) (p:=p) (q:=q) λj hj=>h j aa
  have h1:=h n aa;cases hd:d n
  ·simp only[alJ];simp;omega
  ·have h2:=h1 hd;cases hp:p n<;>cases hq:q n<;>simp_all<;>omega
theorem s6.Y1 {n:Nat} {A X:Mx} {done:Nat->Bool} (h:s6 n A X done) (h0:∀j l,j<n->l<n->done j=false->done l=false->X j l=0):
  cJ n A (cX n λj=>done j&&decide (X j j<0)) (n - cX n done) (cX n λj=>done j&&decide (0<X j j)):=by
 have hX:∀j l,j<n->l<n->X j l=pj (λj=>X j j) j l:=λj l hj hl=>by
  unfold pj;by_cases e:j=l
  ·subst e;rw[if_pos rfl]
  ·rw[if_neg e];cases hd:done j with
   |true=>exact(h.dn j hj hd).2 l hl (ahf e)
   |false=>
    cases iD:done l with
    |true=>exact h.col hl hj iD e
    |false=>exact h0 j l hj hl hd iD
 have hcg:=h.cg.congr hX;have aeP:∀j,j<n->done j=false->X j j=0:=λj hj hd=>h0 j j hj hj hd hd
 refine⟨λk=> ?_,λk=> ?_, ?_⟩
 ·rw[hcg.yA,kE]
  rw[gG (q:=λj=>done j&&decide (0<X j j)) λj hj=>by
   cases hd:done j
   ·rw[aeP j hj hd];rfl
   ·rfl]
 ·rw[hcg.neg.yA,eP.congr (B:=pj λj=> -1*X j j) λi j _ _=>by unfold pj;split<;>grind,kE]
  rw[gG (q:=λj=>done j&&decide (X j j<0)) λj hj=>by
   cases hd:done j
   ·show decide (0< -1*X j j)=(false&&decide (X j j<0));rw[aeP j hj hd,alJ];exact decide_eq_false (by grind)
   ·show decide (0< -1*X j j)=(true&&decide (X j j<0));rw[alQ]
    exact decide_eq_decide.2 ⟨λg=>by grind,λg=>by grind⟩]
 ·have h1:=G9 (n:=n) (d:=done) (p:=λj=>decide (X j j<0)) (q:=λj=>decide (0<X j j)) λj hj hd=>by
   have h2:=(h.dn j hj hd).1;by_cases g:X j j<0
   ·have g2:¬0<X j j:=by grind
    simp[g,g2]
   ·have g2:0<X j j:=by grind
    simp[g,g2]
  have h3:=sn done n;omega
theorem cJ.congr {n m z p:Nat} {A B:Mx} (h:cJ n A m z p) (e:∀i k,i<n->k<n->A i k=B i k):cJ n B m z p where
 pos k:=by rw[<-h.pos k];exact(eP.congr e).symm
 neg k:=by rw[<-h.neg k];exact(eP.congr λi k hi hk=>by rw[e i k hi hk]).symm
 sum:=h.sum
theorem cJ.cg {n m z p:Nat} {A B:Mx} (h:cJ n A m z p) (e:Cg n A B):cJ n B m z p where
 pos k:=by rw[<-h.pos k];exact e.yA.symm
 neg k:=by rw[<-h.neg k];exact e.neg.yA.symm
 sum:=h.sum
theorem Dh {n k:Nat} {A:Mx} {s:Rat} (hs:0<s):eP n (λi k=>s*A i k) k↔eP n A k:=by
 have key:∀(s:Rat),0<s->∀B,eP n B k->eP n (λi k=>s*B i k) k:=λs hs B ⟨V,hV⟩=>⟨V,λc hc=>by
  rw[ey];exact ϡ hs (hV c hc)⟩
 constructor
 ·intro h;have hi:0<s⁻¹:=Rat.inv_pos.2 hs;have:=key s⁻¹ hi _ h;refine(eP.congr λi j _ _=> ?_).1 this;have e:s*s⁻¹=1:=Ν _ (by grind);grind
 ·exact key s hs A
theorem cJ.smul {n m z p:Nat} {A:Mx} {s:Rat} (hs:0<s) (h:cJ n A m z p):cJ n (λi k=>s*A i k) m z p where
 pos k:=by rw[Dh hs];exact h.pos k
 neg k:=by
  rw[<-h.neg k,<-Dh (A:=λi k=> -1*A i k) hs];exact eP.congr λi j _ _=>by grind
 sum:=h.sum
theorem cJ.minus {n m z p:Nat} {A:Mx} (h:cJ n A m z p):cJ n (λi k=> -1*A i k) p z m where
 pos:=h.neg
 neg k:=by rw[<-h.pos k];exact eP.congr λi j _ _=>by grind
 sum:=by have:=h.sum;omega
theorem cJ.mono {n m z p m' z' p':Nat} {A B:Mx} (h:cJ n A m z p) (g:cJ n B m' z' p') (e:∀x,qf n A x<=qf n B x):p<=p'/\m'<=m:=by
 refine⟨(g.pos p).1 (((h.pos p).2 (ζ _)).mono e),(h.neg m').1 (((g.neg m').2 (ζ _)).mono λx=> ?_)⟩;rw[ey,ey];have:=e x;grind
theorem yZ {n:Nat} {A:Mx} {x:Nat->Rat} (h:x n=0):qf (n+1) A x=qf n A x:=by
 unfold qf;rw[aj,h,bh (n:=n+1) (f:=λk=>0*A n k*x k) λi _=>by grind];rw[ah n (g:=λi=>aj n λk=>x i*A i k*x k) λi _=>by rw[aj,h];grind];grind
theorem Qr {a:Nat} {f:Nat->Rat}:∀k,a<k+1->aj (k+1) f=f a+aj k λj=>f (sk a j)
 |0,h=>by
  obtain rfl:a=0:=aa;simp only[aj];grind
 |k+1,h=>by
  by_cases e:a=k+1
  ·subst e;rw[aj,ah (k+1) (g:=λj=>f (sk (k+1) j)) λi hi=>by rw[nT hi]];grind
  ·rw[aj,Qr (a:=a) k aa];show _=f a+(aj k (λj=>f (sk a j))+f (sk a k));rw[uj (show a<=k by omega)];grind
theorem Ha {n k:Nat} {A:Mx} (h:eP n A k):eP (n+1) A k:=by
 obtain⟨V,hV⟩:=h;refine⟨λj i=>if i<n then V j i else 0,λc hc=> ?_⟩;have e1:comb k c (λj i=>if i<n then V j i else 0) n=0:=bh λj _=>by
  show c j*(if n<n then V j n else 0)=0;rw[if_neg (afU n)];grind
 have e:∀i,i<n->comb k c (λj i=>if i<n then V j i else 0) i=comb k c V i:=λi hi=>ah k λj _=>by
  show c j*(if i<n then V j i else 0)=c j*V j i;rw[if_pos hi]
 rw[yZ e1,dB e];exact hV c hc
theorem Hb {n k:Nat} {A:Mx} (h:eP (n+1) A (k+1)):eP n A k:=by
 obtain⟨V,hV⟩:=h;by_cases hz:∃a,a<k+1/\V a n≠0
 ·obtain⟨a,ha,a8⟩:=hz;refine⟨λj i=>V (sk a j) i - V (sk a j) n/V a n*V a i,λc ⟨j,hj,hcj⟩=> ?_⟩;have oy:V a n*(V a n)⁻¹=1:=Ν _ a8;obtain⟨s,hs⟩:∃s,s=aj k λj=>c j*(V (sk a j) n/V a n):=⟨_,rfl⟩
  obtain⟨c',ot⟩:∃c':Nat->Rat,c'=λb=>if b=a then -s else c (un a b):=⟨_,rfl⟩
  have e:∀i,comb (k+1) c' V i=comb k c (λj i=>V (sk a j) i - V (sk a j) n/V a n*V a i) i:=λi=>by
   show aj (k+1) (λb=>c' b*V b i)=aj k λj=>c j*(V (sk a j) i - V (sk a j) n/V a n*V a i)
   rw[Qr k ha,ot];simp only[if_true];rw[ah k (g:=λj=>c j*V (sk a j) i) λj _=>by rw[if_neg (GQ a j),GR]];have e2:aj k (λj=>c j*(V (sk a j) i - V (sk a j) n/V a n*V a i))=aj k (λj=>c j*V (sk a j) i)+(-V a i)*s:=by
    rw[hs,<-sum_smul,<-sum_add];exact ah k λj _=>by grind
   rw[e2];grind
  have h1:=hV c' ⟨sk a j,AP hj,by rw[ot];simp only;rw[if_neg (GQ a j),GR];exact hcj⟩;rw[dB λi _=>e i]at h1;have h2:comb k c (λj i=>V (sk a j) i - V (sk a j) n/V a n*V a i) n=0:=bh λj _=>by
   show c j*(V (sk a j) n - V (sk a j) n/V a n*V a n)=0;rw[Ϡ];grind
  rwa [yZ h2]at h1
 ·refine⟨V,λc ⟨j,hj,hcj⟩=> ?_⟩;have h1:=hV (λb=>if b<k then c b else 0) ⟨j,aa,by simp only[if_pos hj];exact hcj⟩;have e:∀i,comb (k+1) (λb=>if b<k then c b else 0) V i=comb k c V i:=λi=>by
   show aj k (λb=>(if b<k then c b else 0)*V b i)+(if k<k then c k else 0)*V k i=aj k λb=>c b*V b i
   rw[if_neg (afU k),ah k (g:=λb=>c b*V b i) λb hb=>by rw[if_pos hb]];grind
  rw[dB λi _=>e i]at h1;have h2:comb k c V n=0:=bh λb hb=>by
   have:V b n=0:=Ο λg=>hz ⟨b,aa,g⟩
   rw[this];grind
  rwa [yZ h2]at h1
theorem cJ.inter {n m z p m' z' p':Nat} {A:Mx} (h:cJ (n+1) A m z p) (g:cJ n A m' z' p'):p'<=p/\p<=p'+1/\m'<=m/\m<=m'+1:=by
 refine⟨(h.pos p').1 (Ha ((g.pos p').2 (ζ _))), ?_,(h.neg m').1 (Ha ((g.neg m').2 (ζ _))), ?_⟩
 ·cases p with
  |zero=>omega
  |succ q=>have:=(g.pos q).1 (Hb ((h.pos (q+1)).2 (ζ _)));omega
 ·cases m with
  |zero=>omega
  |succ q=>have:=(g.neg q).1 (Hb ((h.neg (q+1)).2 (ζ _)));omega
theorem A8 {n:Nat} {A:Mx} (h:eP n A n) {y:Nat->Rat} (hy:∃i,i<n/\y i≠0):0<qf n A y:=by
 obtain⟨V,hV⟩:=h;obtain⟨c,hc,h0⟩:=EK (gq n) λj i=>if j<n then V j i else y i
 have e:∀i,i<n->comb n c V i+c n*y i=0:=λi hi=>by
  have:=h0 i hi;rw[aj,if_neg (afU n),ah n (g:=λj=>c j*V j i) λj hj=>by rw[if_pos hj]]at this;exact this
 by_cases hcn:c n=0
 ·exfalso;obtain⟨j,hj,hcj⟩:=hc
  have h1:=hV c ⟨j,by
   by_cases g:j=n
   ·rw[g]at hcj;exact absurd hcn hcj
   ·omega,hcj⟩
  rw[dB (y:=λ_=>0) λi hi=>by have:=e i hi;rw[hcn]at this;grind]at h1;rw[show qf n A (λ_=>0)=0 from bh λi _=>bh λk _=>by grind]at h1;exact absurd h1 ax
 ·have oy:c n*(c n)⁻¹=1:=Ν _ hcn;have e2:∀i,i<n->y i=comb n (λj=> -(c n)⁻¹*c j) V i:=λi hi=>by
   have h1:=e i hi;have h2:comb n (λj=> -(c n)⁻¹*c j) V i= -(c n)⁻¹*comb n c V i:=by
    show aj n _= -(c n)⁻¹*aj n _;rw[<-sum_smul];exact ah n λj _=>by grind
   rw[h2];grind
  rw[dB e2];refine hV _ ?_;refine Ο λBY=> ?_
  obtain⟨i,hi,hyi⟩:=hy;apply hyi;rw[e2 i hi];exact bh λj hj=>by
   have: -(c n)⁻¹*c j=0:=Ο λg=>BY ⟨j,hj,g⟩
   show -(c n)⁻¹*c j*V j i=0;rw[this];grind
theorem V8 {n:Nat} {A:Mx} (h:∀y:Nat->Rat,(∃i,i<n/\y i≠0)->0<qf n A y):eP n A n:=by
 refine⟨delta,λc ⟨j,hj,hcj⟩=> ?_⟩;have e:∀i,i<n->comb n c delta i=c i:=λi hi=>by
  show aj n (λj=>c j*delta j i)=c i;rw[mR,if_pos hi]
 rw[dB e];exact h c ⟨j,hj,hcj⟩
theorem cJ.null {n m z p:Nat} {A:Mx} (h:cJ n A m z p) {y:Nat->Rat} (hy:∃i,i<n/\y i≠0) (h0:qf n A y=0):p<n/\m<n:=by
 have hs:=h.sum;constructor
 ·refine ajO λg=> ?_
  have:=A8 ((h.pos n).2 g) hy;rw[h0]at this;exact absurd this ax
 ·refine ajO λg=> ?_
  have:=A8 ((h.neg n).2 g) hy;rw[ey,h0]at this;grind
def bf (n:Nat) (A:Mx) (x y:Nat->Rat):Rat:=aj n λi=>x i*aj n λk=>A i k*y k
theorem ll (n:Nat) (A:Mx) (x:Nat->Rat):qf n A x=bf n A x x:=ah n λi _=>by
 rw[<-sum_smul];exact ah n λk _=>by grind
theorem Lt (n:Nat) (A:Mx) (x y z:Nat->Rat):bf n A (λi=>x i+y i) z=bf n A x z+bf n A y z:=by
 unfold bf;rw[<-sum_add];exact ah n λi _=>by grind
theorem y0 (n:Nat) (A:Mx) (x y z:Nat->Rat):bf n A z (λi=>x i+y i)=bf n A z x+bf n A z y:=by
 unfold bf;rw[<-sum_add];refine ah n λi _=> ?_
 rw[ah n (g:=λk=>A i k*x k+A i k*y k) λk _=>by grind,sum_add];grind
theorem Qs {n:Nat} {A:Mx} {u:Nat->Rat} (hu:xl n n A u) (z:Nat->Rat):bf n A z u=0:=bh λi hi=>by rw[hu i hi];grind
theorem y3 {n:Nat} {A:Mx} (h:dq n A) (x y:Nat->Rat):bf n A x y=bf n A y x:=by
 unfold bf;rw[ah n (g:=λi=>aj n λk=>x i*(A i k*y k)) λi _=>(sum_smul _ _ _).symm,dX];refine ah n λk hk=> ?_
 rw[<-sum_smul];exact ah n λi hi=>by rw[h i k hi hk];grind
theorem uM {n i:Nat} {p:Nat->Bool} (h:(Η n).find? p=some i):i<n/\p i=true/\∀j,j<i->p j=false:=by
 obtain⟨h1,h2,h3⟩:=List.find?_range_eq_some.1 h;exact⟨af4.1 h2,h1,λj hj=>by simpa using h3 j hj⟩
theorem uN {n:Nat} {p:Nat->Bool} (h:(Η n).find? p=none):∀j,j<n->p j=false:=λj hj=>by
 have:=List.find?_eq_none.1 h j (af4.2 hj);simpa using this
def Y2 (n:Nat) (X:Mx) (d:Nat->Bool) (i:Nat):Option Nat:=(Η n).find? λk=> !d k&&decide (X i k≠0)
def A9 (n:Nat) (X:Mx) (d:Nat->Bool):Option (Nat×Mx):=
 match (Η n).find? λi=> !d i&&decide (X i i≠0)with
 |some i=>some (i,X)
 |none=>match (Η n).find? λi=> !d i&&(Y2 n X d i).isSome with
  |some i=>some (i,lK X i ((Y2 n X d i).getD 0) 1)
  |none=>none
inductive Qt (n:Nat) (X:Mx) (d:Nat->Bool):Option (Nat×Mx)->Prop
 |diag {i}:i<n->d i=false->X i i≠0->(∀j,j<i->d j=true\/X j j=0)->Qt n X d (some (i,X))
 |mix {i k}:i<n->k<n->d i=false->d k=false->X i k≠0->(∀j,j<n->d j=true\/X j j=0)->(∀j l,j<n->l<n->(j<i\/(j=i/\l<k))->d j=true\/d l=true\/X j l=0)->Qt n X d (some (i,lK X i k 1))
 |none:(∀j,j<n->d j=true\/X j j=0)->(∀j l,j<n->l<n->d j=true\/d l=true\/X j l=0)->Qt n X d none
theorem wc {b:Bool} {x:Rat} (h:(!b&&decide (x≠0))=false):b=true\/x=0:=by
 cases b
 ·right;simpa using h
 ·left;rfl
theorem mD (n:Nat) (X:Mx) (d:Nat->Bool):Qt n X d (A9 n X d):=by
 unfold A9;cases h1:(Η n).find? λi=> !d i&&decide (X i i≠0)with
 |some i=>
  obtain⟨a1,a2,a3⟩:=uM h1;have a4:d i=false/\X i i≠0:=by simpa using a2
  exact .diag a1 a4.1 a4.2 λj hj=>wc (a3 j hj)
 |none=>
  have b:=uN h1;have b':∀j,j<n->d j=true\/X j j=0:=λj hj=>wc (b j hj)
  have aeQ:∀j,(!d j&&(Y2 n X d j).isSome)=false->∀l,l<n->d j=true\/d l=true\/X j l=0:=λj hj l hl=>by
   cases hdj:d j
   ·right;rw[hdj]at hj;have:Y2 n X d j=none:=by
     cases hk:Y2 n X d j
     ·rfl
     ·rw[hk]at hj;cases hj
    exact wc (uN this l hl)
   ·left;rfl
  cases h2:(Η n).find? λi=> !d i&&(Y2 n X d i).isSome with
  |some i=>
   obtain⟨a1,a2,a3⟩:=uM h2;cases hk:Y2 n X d i with
   |none=>simp[hk]at a2
   |some k=>
    obtain⟨c1,c2,c3⟩:=uM hk;have a4:d i=false:=by simp only[hk]at a2;simpa using a2
    have a5:d k=false/\X i k≠0:=by simpa using c2
    show Qt n X d (some (i,lK X i ((Y2 n X d i).getD 0) 1));rw[hk];refine .mix (k:=k) a1 c1 a4 a5.1 a5.2 b' λj l hj hl FU=> ?_
    rcases FU with g|⟨rfl,g⟩
    ·exact aeQ j (a3 j g) l hl
    ·right;exact wc (c3 l g)
  |none=>exact .none b' λj l hj hl=>aeQ j (uN h2 j hj) l hl
structure IS where
 X:Mx
 d:Nat->Bool
 left:Nat
 m:Nat
 p:Nat
def mX (d:Nat->Bool) (i:Nat):Nat->Bool:=λj=>cond (ϋ j i) true (d j)
def ln (n:Nat) (s:IS) (i:Nat) (Y:Mx):IS:=⟨jx Y i n,mX s.d i,s.left - 1,s.m+(if Y i i<0 then 1 else 0),s.p+if 0<Y i i then 1 else 0⟩
def lp (n:Nat):Nat->IS->IS
 |0,s=>s
 |f+1,s=>match A9 n s.X s.d with
  |none=>s
  |some (i,Y)=>lp n f (ln n s i Y)
def oh (n:Nat) (A:Mx):IS:=⟨A,λ_=>false,n,0,0⟩
theorem mY (d:Nat->Bool) (i j:Nat):mX d i j=(d j||decide (j=i)):=by
 unfold mX;by_cases e:j=i
 ·subst e;rw[Nat.beq_refl];simp
 ·rw[show ϋ j i=false from by
   cases h:ϋ j i with
   |false=>rfl
   |true=>exact absurd (Nat.eq_of_beq_eq_true h) e]
  simp[e]
structure uk (n:Nat) (A:Mx) (s:IS):Prop where
 inv:s6 n A s.X s.d
 m:s.m=cX n λj=>s.d j&&decide (s.X j j<0)
 p:s.p=cX n λj=>s.d j&&decide (0<s.X j j)
 left:s.left+cX n s.d=n
theorem uO (n:Nat):cX n (λ_=>false)=0:=by
 induction n with
 |zero=>rfl
 |succ n ih=>rw[dE,ih];rfl
theorem uk.start {n:Nat} {A:Mx} (h:dq n A):uk n A (oh n A):=by
 refine⟨.start h, ?_, ?_, ?_⟩
 ·exact((gG (q:=λ_=>false) λj _=>rfl).trans (uO n)).symm
 ·exact((gG (q:=λ_=>false) λj _=>rfl).trans (uO n)).symm
 ·show n+cX n (λ_=>false)=n;rw[uO];omega
theorem uk.bP {n i:Nat} {A Y:Mx} {s:IS} (h:uk n A s) (hp:A9 n s.X s.d=some (i,Y)):i<n/\s.d i=false/\Y i i≠0/\s6 n A Y s.d/\(∀j,j<n->s.d j=true->Y j j=s.X j j):=by
 have:=mD n s.X s.d;rw[hp]at this;cases this with
 |diag h1 h2 h3 h4=>exact⟨h1,h2,h3,h.inv,λ_ _ _=>rfl⟩
 |@mix i k h1 h2 h3 h4 h5 h6 h7=>
  have hm:=h.inv.mix h1 h2 h3 h4 (λj hj hd=>(h6 j hj).resolve_left (by rw[hd];decide)) h5;refine⟨h1,h3,hm.2,hm.1,λj hj hd=> ?_⟩;have w6:j≠i:=λe=>by rw[e,h3]at hd;cases hd
  have Dg:k≠j:=λe=>by rw[<-e,h4]at hd;cases hd
  have h8:=(h.inv.dn j hj hd).2 k h2 Dg;unfold lK;simp only[if_neg w6];grind
theorem uk.next {n i:Nat} {A Y:Mx} {s:IS} (h:uk n A s) (hp:A9 n s.X s.d=some (i,Y)):uk n A (ln n s i Y)/\0<s.left:=by
 obtain⟨h1,h2,h3,h4,h5⟩:=h.bP hp;obtain⟨g1,g2,g3⟩:=h4.bP h1 h3;have hc:=v8 (p:=s.d) (q:=mX s.d i) h1 h2 λj _ a8=>by rw[mY];simp[a8]
 have UD:mX s.d i i=true:=by rw[mY];simp
 rw[UD]at hc;simp only[if_true]at hc;have hl:=h.left;have hle:=sn (mX s.d i) n;refine⟨⟨⟨g1.sym,g1.cg,λj hj hd=>g1.dn j hj (by rw[<-mY];exact hd)⟩, ?_, ?_, ?_⟩,aa⟩
 ·show s.m+(if Y i i<0 then 1 else 0)=cX n λj=>mX s.d i j&&decide (jx Y i n j j<0)
  rw[h.m,v8 (p:=λj=>s.d j&&decide (s.X j j<0)) (q:=λj=>mX s.d i j&&decide (jx Y i n j j<0)) h1 (by simp[h2]) λj hj a8=>by
   cases hd:s.d j
   ·rw[mY,hd];simp[a8]
   ·rw[mY,hd,g2 j hj hd,h5 j hj hd];simp]
  congr 1;rw[UD,g3];simp
 ·show s.p+(if 0<Y i i then 1 else 0)=cX n λj=>mX s.d i j&&decide (0<jx Y i n j j)
  rw[h.p,v8 (p:=λj=>s.d j&&decide (0<s.X j j)) (q:=λj=>mX s.d i j&&decide (0<jx Y i n j j)) h1 (by simp[h2]) λj hj a8=>by
   cases hd:s.d j
   ·rw[mY,hd];simp[a8]
   ·rw[mY,hd,g2 j hj hd,h5 j hj hd];simp]
  congr 1;rw[UD,g3];simp
 ·show s.left - 1+cX n (mX s.d i)=n;omega
theorem xn {p:Nat->Bool}:∀{n:Nat},cX n p=n->∀j,j<n->p j=true
 |0,_,j,hj=>aa
 |n+1,h,j,hj=>by
  rw[dE]at h;have h1:=sn p n;cases hp:p n with
  |false=>rw[hp]at h;simp at h;omega
  |true=>
   by_cases e:j=n
   ·rw[e];exact hp
   ·rw[hp]at h;simp at h;exact xn h j aa
theorem Ba {n:Nat} {A:Mx}:∀f (s:IS),s.left=f->uk n A s->cJ n A (lp n f s).m (lp n f s).left (lp n f s).p
 |0,s,hf,h=>by
  have hl:=h.left;have:=h.inv.Y1 λj l hj iD hd _=>by
   have:=xn (p:=s.d) (n:=n) aa j hj;rw[this]at hd;cases hd
  rw[lp,h.m,h.p,hf];rwa [show n - cX n s.d=0 by omega]at this
 |f+1,s,hf,h=>by
  rw[lp];cases hp:A9 n s.X s.d with
  |none=>
   have hs:=mD n s.X s.d;rw[hp]at hs;cases hs with
   |none h1 h2=>
    have:=h.inv.Y1 λj l hj iD hd Jn=>by
     rcases h2 j l hj iD with g|g|g
     ·rw[g]at hd;cases hd
     ·rw[g]at Jn;cases Jn
     ·exact g
    have hl:=h.left;simp only;rw[h.m,h.p];rwa [show n - cX n s.d=s.left by omega]at this
  |some iy=>
   obtain⟨i,Y⟩:=iy;have hn:=(h.next hp).1;exact Ba f (ln n s i Y) (by show s.left - 1=f;omega) hn
theorem uQ {n:Nat} {A:Mx} (h:dq n A):cJ n A (lp n n (oh n A)).m (lp n n (oh n A)).left (lp n n (oh n A)).p:=Ba n (oh n A) rfl (.start h)
theorem Np {n:Nat} {x:List Rat}:(eI n n x).length=n↔bz n (el x n)≠0:=G0 n _
theorem y4 {sp:List Nat} {k:Nat} (hn:k∉sp):∀c,k<c->(cn sp k).length<(cn sp c).length/\(cn sp c).getD (cn sp k).length 0=k
 |0,h=>aa
 |c+1,h=>by
  rw[pV];by_cases e:k=c
  ·subst e;rw[if_neg hn];exact⟨by rw[ξ];simp,by simp[δ]⟩
  ·obtain⟨h1,h2⟩:=y4 hn c aa;refine⟨by rw[ξ];omega, ?_⟩;rw[δ,ϳ h1,<-δ,h2]
theorem Di {sp:List Nat} {k:Nat}:∀c,k<=c->(cn sp k).length<=(cn sp c).length
 |0,h=>by obtain rfl:k=0:=aa
          exact ζ _
 |c+1,h=>by
  by_cases e:k=c+1
  ·rw[e];exact ζ _
  ·rw[pV,ξ];have:=Di (sp:=sp) (k:=k) c aa;omega
theorem Y3 {r c k:Nat} {a:List Rat} (hk:k<c) (hn:k∉eI r c a):(cn (eI r c a) k).length<(KL r c a).length/\∀q,q<c->q∉eI r c a->((KL r c a).getD (cn (eI r c a) k).length []).getD q 0=if q=k then 1 else 0:=by
 obtain⟨h1,h2⟩:=y4 hn c hk;rw[<-mV]at h1;refine⟨h1,λq hq hqn=> ?_⟩;have h:=A4 r c a;rw[A5 h1,h2,yX h hk hn (ζ c) (λj _=>v7 hk) hq];by_cases e:q=k
 ·subst e;rw[if_pos rfl];exact yW h hn
 ·rw[if_neg e];exact vY hqn e
structure Hc (r c:Nat) (a b x:List Rat) (k:Nat) (u:List Rat):Prop where
 len:u.length=c
 sol:Ck r c a b λq=>u.getD q 0
 at_:∀q,q<c->q∉eI r c a->u.getD q 0=if q<k then x.getD q 0 else 0
theorem Hc.skip {r c k:Nat} {a b x u:List Rat} (h:Hc r c a b x k u) (hk:k∈eI r c a):Hc r c a b x (k+1) u where
 len:=h.len
 sol:=h.sol
 at_:=λq hq hn=>by
  rw[h.at_ q hq hn];have:q≠k:=λe=>hn (e▸hk)
  by_cases g:q<k
  ·rw[if_pos g,if_pos aa]
  ·rw[if_neg g,if_neg aa]
theorem Hc.step {r c k:Nat} {a b x u w:List Rat} (h:Hc r c a b x k u) (hk:k<c) (hn:k∉eI r c a) (hw:w.length=c)
  (hg:∀q,q<c->w.getD q 0=x.getD k 0*((KL r c a).getD (cn (eI r c a) k).length []).getD q 0+u.getD q 0):Hc r c a b x (k+1) w where
 len:=hw
 sol:=(Ck.add (x.getD k 0) h.sol (EI (Y3 hk hn).1)).ext λq hq=>(hg q hq).symm
 at_:=λq hq hqn=>by
  rw[hg q hq,(Y3 hk hn).2 q hq hqn,h.at_ q hq hqn];by_cases e:q=k
  ·subst e;rw[if_pos rfl,if_neg (afU q),if_pos (gq q)];grind
  ·rw[if_neg e];by_cases g:q<k
   ·rw[if_pos g,if_pos aa];grind
   ·rw[if_neg g,if_neg aa];grind
theorem Hc.done {r c k:Nat} {a b x u:List Rat} (h:Hc r c a b x k u) (hx:x.length=c) (hs:Ck r c a b λq=>x.getD q 0) (hk:k<=c) (he:(KL r c a).length<=(cn (eI r c a) k).length):u=x:=by
 refine EB (n:=c) h.len hx (Ck.eq h.sol hs λq hq hn=> ?_);rw[h.at_ q hq hn];by_cases g:q<k
 ·rw[if_pos g]
 ·exfalso;have h1:=(y4 hn c hq).1;have h2:=Di (sp:=eI r c a) (k:=k) q aa;rw[mV]at he;omega
theorem s6.dgX {n:Nat} {A X:Mx} {done:Nat->Bool} (h:s6 n A X done) (h0:∀j l,j<n->l<n->done j=false->done l=false->X j l=0):Cg n A (pj λj=>X j j):=by
 refine h.cg.congr λj l hj hl=> ?_
 unfold pj;by_cases e:j=l
 ·subst e;rw[if_pos rfl]
 ·rw[if_neg e];cases hd:done j with
  |true=>exact(h.dn j hj hd).2 l hl (ahf e)
  |false=>
   cases iD:done l with
   |true=>exact h.col hl hj iD e
   |false=>exact h0 j l hj hl hd iD
theorem Hd {n:Nat} {A:Mx}:∀f (s:IS),s.left=f->uk n A s->∃d,Cg n A (pj d)
 |0,s,hf,h=>by
  have hl:=h.left
  exact⟨_,h.inv.dgX λj l hj iD hd _=>by
   have:=xn (p:=s.d) (n:=n) aa j hj
   rw[this]at hd;cases hd⟩
 |f+1,s,hf,h=>by
  cases hp:A9 n s.X s.d with
  |none=>
   have hs:=mD n s.X s.d;rw[hp]at hs;cases hs with
   |none h1 h2=>
    exact⟨_,h.inv.dgX λj l hj iD hd Jn=>by
     rcases h2 j l hj iD with g|g|g
     ·rw[g]at hd;cases hd
     ·rw[g]at Jn;cases Jn
     ·exact g⟩
  |some iy=>
   obtain⟨i,Y⟩:=iy;exact Hd f (ln n s i Y) (by show s.left - 1=f;omega) (h.next hp).1
theorem EM {n:Nat} {A:Mx} (h:dq n A):∃d,Cg n A (pj d):=Hd n (oh n A) rfl (.start h)
def yB (n:Nat) (P:Nat->Bool) (a:Nat):Nat:=((Η n).filter P).getD a 0
def rA (n:Nat) (P:Nat->Bool):Mx:=λj i=>if yB n P j=i then 1 else 0
theorem xo {n k a:Nat} {P:Nat->Bool} {c:Nat->Rat} (hk:k<=cX n P) (ha:a<k):comb k c (rA n P) (yB n P a)=c a:=by
 show aj k (λj=>c j*rA n P j (yB n P a))=c a;rw[eu (j:=a) k ha λb hb a8=>by unfold rA;rw[if_neg (show ¬yB n P b=yB n P a from λe=>a8 (G4 aa aa e))];grind];unfold rA;rw[if_pos rfl];grind
theorem Bb {n k i:Nat} {P:Nat->Bool} {c:Nat->Rat} (hk:k<=cX n P) (hp:P i=false):comb k c (rA n P) i=0:=
 bh λb hb=>by
  unfold rA
  rw[if_neg (show ¬yB n P b=i from λe=>by
   have:=(rz (n:=n) (p:=P) (a:=b) aa).2;unfold yB at e
   rw[e,hp]at this;cases this)]
  grind
theorem Bc (p:Nat->Bool):∀n,cX n p+cX n (λi=> !p i)=n
 |0=>rfl
 |n+1=>by
  rw[dE,dE];have:=Bc p n;cases p n<;>simp<;>omega
def NnK (n:Nat) (A:Mx) (k:Nat):Prop:=∃V:Mx,∀c:Nat->Rat,(∃j,j<k/\c j≠0)->qf n A (comb k c V)<=0/\∃i,i<n/\comb k c V i≠0
theorem EJ.ne {n:Nat} {T S:(Nat->Rat)->Nat->Rat} (h:EJ n T S) {x:Nat->Rat} (hx:∃i,i<n/\x i≠0):∃i,i<n/\T x i≠0:=by
 refine Ο λBY=> ?_
 obtain⟨i,hi,a8⟩:=hx;have hz:∀i,i<n->T x i=0:=λi hi=>Ο λg=>BY ⟨i,hi,g⟩
 apply a8;rw[<-h.Qm x i hi,h.JK.A6 _ (λ_=>0) hz i hi,h.JK.zero hi]
theorem Cg.nnK {n k:Nat} {A B:Mx} (h:Cg n A B) (g:NnK n B k):NnK n A k:=by
 obtain⟨T,S,h1,h2⟩:=h;obtain⟨V,hV⟩:=g;refine⟨λj=>T (V j),λc hc=> ?_⟩;obtain⟨g1,g2⟩:=hV c hc;rw[h2]at g1;have hT:=λi hi=>h1.wZ.Lr c V k i hi
 refine⟨by rwa [<-dB hT], ?_⟩;obtain⟨i,hi,a8⟩:=h1.ne g2;exact⟨i,hi,by rwa [<-hT i hi]⟩
theorem abE {n:Nat} {d:Nat->Rat}:NnK n (pj d) (cX n λi=> !decide (0<d i)):=by
 refine⟨rA n λi=> !decide (0<d i),λc ⟨j,hj,a8⟩=>⟨?_, ?_⟩⟩
 ·rw[yh];refine Qn λi hi=> ?_
  by_cases hd:0<d i
  ·rw[Bb (ζ _) (by simp[hd])];grind
  ·have h3:=mW (comb (cX n λi=> !decide (0<d i)) c (rA n λi=> !decide (0<d i)) i);have h4:=π (show(0:Rat)<= - d i by grind) h3;grind
 ·exact⟨yB n (λi=> !decide (0<d i)) j,(rz (p:=λi=> !decide (0<d i)) hj).1,by rw[xo (ζ _) hj];exact a8⟩
theorem cJ.ahd {n m z p:Nat} {A:Mx} (hs:dq n A) (h:cJ n A m z p):NnK n A (m+z):=by
 obtain⟨d,hd⟩:=EM hs;have h1:p=cX n λi=>decide (0<d i):=by
  have a1:=kE.1 (hd.yA.1 ((h.pos p).2 (ζ _)));have a2:=(h.pos _).1 (hd.yA.2 (kE.2 (ζ (cX n λi=>decide (0<d i)))));omega
 have h2:=Bc (λi=>decide (0<d i)) n;have h3:=h.sum;have:=hd.nnK (abE (n:=n) (d:=d));rwa [show cX n (λi=> !decide (0<d i))=m+z by omega]at this
theorem cJ.strict {n m z p m' z' p':Nat} {A B:Mx} (hs:dq n A) (h:cJ n A m z p) (g:cJ n B m' z' p') (e:∀x:Nat->Rat,(∃i,i<n/\x i≠0)->qf n B x<qf n A x):m+z<=m':=by
 obtain⟨V,hV⟩:=h.ahd hs;refine(g.neg _).1 ⟨V,λc hc=> ?_⟩;obtain⟨h1,h2⟩:=hV c hc;have:=e _ h2;rw[ey];grind
def V9 (n:Nat) (A:Mx) (k:Nat):Prop:=∃V:Mx,∀c:Nat->Rat,(∃j,j<k/\c j≠0)->xl n n A (comb k c V)/\∃i,i<n/\comb k c V i≠0
theorem EN {n:Nat} {A:Mx} (h:dq n A) (x y:Nat->Rat):qf n A (λi=>x i+y i)=qf n A x+2*bf n A x y+qf n A y:=by
 rw[ll,ll,ll,Lt,y0,y0,y3 h y x];grind
theorem EJ.ker {n:Nat} {T S:(Nat->Rat)->Nat->Rat} {A B:Mx} (h:EJ n T S) (e:∀x,qf n B x=qf n A (T x)) (hA:dq n A) (hB:dq n B) {y:Nat->Rat} (hy:xl n n B y):xl n n A (T y):=by
 have hbf:∀x,bf n A (T x) (T y)=bf n B x y:=λx=>by
  have h1:=EN hA (T x) (T y);have h2:=EN hB x y;have h3:qf n A (λi=>T x i+T y i)=qf n A (T λi=>x i+y i):=dB λi hi=>by
   have:=h.wZ.wZ 1 x y i hi;rw[h.wZ.A6 (λq=>1*x q+y q) (λi=>x i+y i) (λq _=>by grind) i hi]at this;grind
  rw[h3,<-e,<-e,<-e]at h1;grind
 intro i hi;have h1:=hbf (S (delta i));rw[Qs hy]at h1;have h2:bf n A (T (S (delta i))) (T y)=aj n λk=>A i k*T y k:=by
  show aj n (λj=>T (S (delta i)) j*aj n λk=>A j k*T y k)=_;rw[ah n (g:=λj=>delta i j*aj n λk=>A j k*T y k) λj hj=>by rw[h.inv _ j hj],eK,if_pos hi]
 rw[<-h2];exact h1
theorem EJ.aeS {n k:Nat} {T S:(Nat->Rat)->Nat->Rat} {A B:Mx} (h:EJ n T S) (e:∀x,qf n B x=qf n A (T x)) (hA:dq n A) (hB:dq n B) (g:V9 n B k):V9 n A k:=by
 obtain⟨V,hV⟩:=g;refine⟨λj=>T (V j),λc hc=> ?_⟩;obtain⟨g1,g2⟩:=hV c hc;have hT:=λi hi=>h.wZ.Lr c V k i hi
 refine⟨(Ln hT).1 (h.ker e hA hB g1), ?_⟩;obtain⟨i,hi,a8⟩:=h.ne g2;exact⟨i,hi,by rwa [<-hT i hi]⟩
theorem Lu (n:Nat) (d:Nat->Rat):dq n (pj d):=λj l _ _=>by
 unfold pj;by_cases e:j=l
 ·subst e;rfl
 ·rw[if_neg e,if_neg (ahf e)]
theorem Qu {n i:Nat} (d x:Nat->Rat) (hi:i<n):aj n (λk=>pj d i k*x k)=d i*x i:=by
 rw[eu (j:=i) n hi λk _ a8=>by unfold pj;rw[if_neg (ahf a8)];grind];unfold pj;rw[if_pos rfl]
theorem Lv {n k:Nat} {d:Nat->Rat}:V9 n (pj d) k↔k<=cX n λi=>decide (d i=0):=by
 constructor
 ·rintro⟨V,hV⟩;refine agK λaE=> ?_
  obtain⟨c,hc,h0⟩:=EK aE λj a=>V j (yB n (λi=>decide (d i=0)) a)
  obtain⟨h1,i,hi,a8⟩:=hV c hc;apply a8;by_cases hd:d i=0
  ·obtain⟨a,ha,e⟩:=G3 (p:=λi=>decide (d i=0)) hi (decide_eq_true hd);have:=h0 a ha;rw[show yB n (λi=>decide (d i=0)) a=i from e]at this;exact this
  ·have:=h1 i hi;rw[Qu d _ hi]at this;exact(acO.1 this).resolve_left hd
 ·intro hk;refine⟨rA n λi=>decide (d i=0),λc ⟨j,hj,a8⟩=>⟨λi hi=> ?_,yB n (λi=>decide (d i=0)) j,(rz (p:=λi=>decide (d i=0)) aa).1,by rw[xo hk hj];exact a8⟩⟩;rw[Qu d _ hi];by_cases hd:d i=0
  ·rw[hd];grind
  ·rw[Bb hk (by simp[hd])];grind
theorem Lw {n:Nat} {a:List Rat} {x:Nat->Rat}:xl n n (el a n) x↔Ck n n a [] x:=Iff.rfl
theorem Lx {n k:Nat} {a:List Rat}:V9 n (el a n) k↔k<=(KL n n a).length:=by
 constructor
 ·rintro⟨V,hV⟩;refine agK λaE=> ?_
  obtain⟨c,hc,h0⟩:=EK aE λj b=>V j ((cn (eI n n a) n).getD b 0)
  obtain⟨h1,i,hi,a8⟩:=hV c hc;apply a8
  exact(Lw.1 h1).eq (Lw.1 (V1 (r:=n) (c:=n) (w:=el a n))) (λq hq hn=>by
   obtain⟨b1,b2⟩:=y4 hn n hq;rw[<-mV]at b1;have:=h0 _ b1;rw[b2]at this
   exact this) i hi
 ·intro hk;refine⟨λj i=>((KL n n a).getD j []).getD i 0,λc ⟨j,hj,a8⟩=>⟨λi hi=> ?_,(cn (eI n n a) n).getD j 0,(mU (by rw[<-mV];omega)).1, ?_⟩⟩
  ·show aj n (λq=>el a n i q*aj k λj=>c j*((KL n n a).getD j []).getD q 0)=0
   rw[ah n (g:=λq=>aj k λj=>c j*(el a n i q*((KL n n a).getD j []).getD q 0)) λq _=>by
    rw[<-sum_smul];exact ah k λj _=>by grind]
   rw[dX];refine bh λj hj=> ?_
   have:=EI (r:=n) (c:=n) (a:=a) (i:=j) aa i hi;rw[sum_smul,this];grind
  ·show aj k (λb=>c b*((KL n n a).getD b []).getD _ 0)≠0;rw[eu (j:=j) k hj λb hb hbne=>by rw[yY aa aa,if_neg (ahf hbne)];grind];rw[yY aa aa,if_pos rfl];grind
theorem cJ.aeT {n m z p:Nat} {a:List Rat} (hs:dq n (el a n)) (h:cJ n (el a n) m z p):z+(eI n n a).length=n:=by
 obtain⟨d,T,S,h1,h2⟩:=EM hs;have hd:Cg n (el a n) (pj d):=⟨T,S,h1,h2⟩;have e1:(KL n n a).length=cX n λi=>decide (d i=0):=by
  have a1:=Lv.1 (h1.symm.aeS (λx=>by rw[h2];exact(dB λi hi=>h1.inv x i hi).symm) (Lu n d) hs (Lx.2 (ζ (KL n n a).length)));have a2:=Lx.1 (h1.aeS h2 hs (Lu n d) (Lv.2 (ζ (cX n λi=>decide (d i=0)))));omega
 have e2:p=cX n λi=>decide (0<d i):=by
  have a1:=kE.1 (hd.yA.1 ((h.pos p).2 (ζ _)));have a2:=(h.pos _).1 (hd.yA.2 (kE.2 (ζ (cX n λi=>decide (0<d i)))));omega
 have hdn:∀i j,i<n->j<n-> -1*pj d i j=pj (λi=> -1*d i) i j:=λi j _ _=>by unfold pj;split<;>grind
 have e3:m=cX n λi=>decide (0< -1*d i):=by
  have a1:=kE.1 ((eP.congr hdn).1 (hd.neg.yA.1 ((h.neg m).2 (ζ _))));have a2:=(h.neg _).1 (hd.neg.yA.2 ((eP.congr hdn).2 (kE.2 (ζ (cX n λi=>decide (0< -1*d i))))));omega
 have e4:∀k,cX k (λi=>decide (d i=0))+cX k (λi=>decide (0<d i))+cX k (λi=>decide (0< -1*d i))=k:=by
  intro k;induction k with
  |zero=>rfl
  |succ k ih=>
   rw[dE,dE,dE];by_cases g:d k=0
   ·have g1:¬0<d k:=by grind
    have g2:¬0< -1*d k:=by grind
    simp only[g,g1,g2,decide_true,decide_false];simp;omega
   ·by_cases g1:0<d k
    ·have g2:¬0< -1*d k:=by grind
     simp only[g,g1,g2,decide_true,decide_false];simp;omega
    ·have g2:0< -1*d k:=by grind
     simp only[g,g1,g2,decide_true,decide_false];simp;omega
 have h3:=h.sum;have h4:=e4 n;have h5:=JJ n n a;omega
theorem EO (n:Nat) (A B:Mx) (x:Nat->Rat) (i:Nat):aj n (λk=>pr n A B i k*x k)=aj n λp=>A i p*aj n λk=>B p k*x k:=by
 rw[ah n (g:=λk=>aj n λp=>A i p*(B p k*x k)) λk _=>by
  show aj n (λp=>A i p*B p k)*x k=_
  rw[ir];exact ah n λp _=>by grind]
 rw[dX];exact ah n λp _=>sum_smul _ _ _
theorem aeU (n:Nat) (A C:Mx) (x:Nat->Rat):qf n (pr n (tr C) (pr n A C)) x=qf n A λi=>aj n λk=>C i k*x k:=by
 rw[ll,ll];unfold bf
 rw[ah n (g:=λi=>aj n λp=>x i*(C p i*aj n λq=>A p q*aj n λk=>C q k*x k)) λi _=>by
  rw[EO,bH]
  exact ah n λp _=>by rw[EO];rfl]
 rw[dX];refine ah n λp _=> ?_
 rw[ir];exact ah n λi _=>by grind
theorem Qw {n:Nat} (A:Mx) {C:Mx} (h:bz n C≠0):Cg n A (pr n (tr C) (pr n A C)):=by
 have hd:bz n C*(bz n C)⁻¹=1:=Ν _ h
 have aeV:∀B:Mx,Od n λx i=>aj n λk=>B i k*x k:=λB=>⟨λc x y i _=>by
  rw[<-sum_smul,<-sum_add];exact ah n λk _=>by grind,λx y YJ i _=>ah n λk hk=>by rw[YJ k hk]⟩
 refine⟨_,λx i=>aj n λk=>((bz n C)⁻¹*sZ n C i k)*x k,⟨aeV C,aeV _,λx i hi=> ?_,λx i hi=> ?_⟩,λx=>aeU n A C x⟩
 ·show aj n (λp=>C i p*aj n λk=>((bz n C)⁻¹*sZ n C p k)*x k)=x i;rw[<-EO n C (λi k=>(bz n C)⁻¹*sZ n C i k)]
  rw[ah n (g:=λk=>delta i k*x k) λk hk=>by
   have:=Lg C hi hk
   rw[show pr n C (λi k=>(bz n C)⁻¹*sZ n C i k) i k=(bz n C)⁻¹*pr n C (sZ n C) i k from by
    show aj n (λp=>C i p*((bz n C)⁻¹*sZ n C p k))=_;rw[show pr n C (sZ n C) i k=aj n (λp=>C i p*sZ n C p k)from rfl,<-sum_smul]
    exact ah n λp _=>by grind,this]
   unfold delta;by_cases e:i=k
   ·rw[if_pos e,if_pos e];grind
   ·rw[if_neg e,if_neg e];grind]
  rw[eK,if_pos hi]
 ·show aj n (λp=>((bz n C)⁻¹*sZ n C i p)*aj n λk=>C p k*x k)=x i;rw[<-EO n (λi k=>(bz n C)⁻¹*sZ n C i k) C]
  rw[ah n (g:=λk=>delta i k*x k) λk hk=>by
   have:=EF C hi hk
   rw[show pr n (λi k=>(bz n C)⁻¹*sZ n C i k) C i k=(bz n C)⁻¹*pr n (sZ n C) C i k from by
    show aj n (λp=>((bz n C)⁻¹*sZ n C i p)*C p k)=_;rw[show pr n (sZ n C) C i k=aj n (λp=>sZ n C i p*C p k)from rfl,<-sum_smul]
    exact ah n λp _=>by grind,this]
   unfold delta;by_cases e:i=k
   ·rw[if_pos e,if_pos e];grind
   ·rw[if_neg e,if_neg e];grind]
  rw[eK,if_pos hi]
def jb (A M:Mx) (t:Rat):Mx:=λi k=>A i k - t*M i k
theorem mc {n:Nat} {A M:Mx} (hA:dq n A) (hM:dq n M) (t:Rat):dq n (jb A M t):=λi k hi hk=>by unfold jb;rw[hA i k hi hk,hM i k hi hk]
theorem rB (n:Nat) (A M:Mx) (t:Rat) (x:Nat->Rat):qf n (jb A M t) x=qf n A x - t*qf n M x:=by
 have:=xm n A (λi k=>(-t)*M i k) x;rw[ey]at this;rw[jT (B:=λi k=>A i k+(-t)*M i k) λi k _ _=>by unfold jb;grind,this];grind
def iP (n:Nat) (M:Mx):Prop:=∀x:Nat->Rat,(∃i,i<n/\x i≠0)->0<qf n M x
theorem we {n:Nat} {A:Mx} {x:Nat->Rat} (h:∀i,i<n->x i=0):qf n A x=0:=bh λi hi=>bh λk hk=>by rw[h i hi];grind
theorem iP.nn {n:Nat} {M:Mx} (h:iP n M) (x:Nat->Rat):0<=qf n M x:=by
 by_cases g:∃i,i<n/\x i≠0
 ·have:=h x g;grind
 ·rw[we λi hi=>Ο λe=>g ⟨i,hi,e⟩];exact Ϥ
theorem cJ.shift {n m z p m' z' p':Nat} {A B M:Mx} {t x:Rat} (h:cJ n (jb A M t) m z p) (g:cJ n (jb B M (t+x)) m' z' p') (e:∀i k,i<n->k<n->B i k=A i k+x*M i k):m'=m/\z'=z/\p'=p:=
 g.unique (h.congr λi k hi hk=>by unfold jb;rw[e i k hi hk];grind)
theorem cJ.times {n m z p m' z' p':Nat} {A B M:Mx} {t s:Rat} (hs:0<s) (h:cJ n (jb A M t) m z p) (g:cJ n (jb B M (t*s)) m' z' p') (e:∀i k,i<n->k<n->B i k=s*A i k):m'=m/\z'=z/\p'=p:=
 g.unique ((h.smul hs).congr λi k hi hk=>by unfold jb;rw[e i k hi hk];grind)
theorem cJ.aeW {n m z p m' z' p':Nat} {A B M:Mx} {t:Rat} (h:cJ n (jb A M t) m z p) (g:cJ n (jb B M (-t)) m' z' p') (e:∀i k,i<n->k<n->B i k= -1*A i k):m'=p/\z'=z/\p'=m:=
 g.unique (h.minus.congr λi k hi hk=>by unfold jb;rw[e i k hi hk];grind)
theorem cJ.up {n m z p m' z' p':Nat} {A M:Mx} {t t':Rat} (hM:iP n M) (Wa:t<=t') (h:cJ n (jb A M t) m z p) (g:cJ n (jb A M t') m' z' p'):m<=m'/\p'<=p:=by
 have:=g.mono h λx=>by
  rw[rB,rB];have:=π (show(0:Rat)<=t' - t by grind) (hM.nn x);grind
 exact⟨this.2,this.1⟩
theorem cJ.Nq {n m z p m' z' p':Nat} {A M:Mx} {t t':Rat} (hA:dq n A) (hS:dq n M) (hM:iP n M) (Wa:t<t') (h:cJ n (jb A M t) m z p) (g:cJ n (jb A M t') m' z' p'):m+z<=m':=
 h.strict (mc hA hS t) g λx hx=>by
  rw[rB,rB];have:=ϡ (show(0:Rat)<t' - t by grind) (hM x hx);grind
theorem cJ.nn {n m z p:Nat} {A:Mx} (h:cJ n A m z p) (e:∀x,0<=qf n A x):m=0:=by
 refine Nat.eq_zero_of_not_pos λhm=> ?_
 obtain⟨V,hV⟩:=(h.neg 1).2 hm;have h1:=hV (λ_=>1) ⟨0,aa,ax⟩;rw[ey]at h1;have:=e (comb 1 (λ_=>1) V);grind
theorem cJ.np {n m z p:Nat} {A:Mx} (h:cJ n A m z p) (e:∀x,qf n A x<=0):p=0:=h.minus.nn λx=>by rw[ey];have:=e x;grind
theorem iP.lM {n m z p:Nat} {M:Mx} (hM:iP n M) (h:cJ n M m z p):p=n:=by
 have h1:=(h.pos n).1 (V8 hM);have h2:=h.sum;omega
theorem iP.of {n m z:Nat} {M:Mx} (h:cJ n M m z n):iP n M:=λ_ hx=>A8 ((h.pos n).2 (ζ _)) hx
theorem iP.cut {n:Nat} {M:Mx} (h:iP (n+1) M):iP n M:=λx ⟨i,hi,hx⟩=>by
 have h1:=h (λj=>if j<n then x j else 0) ⟨i,aa,by simp only[if_pos hi];exact hx⟩;rw[yZ (if_neg (afU n)),dB (y:=x) λj hj=>if_pos hj]at h1;exact h1
theorem iP.cg {n:Nat} {A B:Mx} (hA:iP n A) (h:Cg n A B):iP n B:=λx hx=>by
 obtain⟨T,S,h1,h2⟩:=h;rw[h2];exact hA _ (h1.ne hx)
theorem iP.congr {n:Nat} {A B:Mx} (h:iP n A) (e:∀i k,i<n->k<n->A i k=B i k):iP n B:=λx hx=>by rw[<-jT e];exact h x hx
theorem cJ.ray {n m z p:Nat} {A M:Mx} {x:Nat->Rat} (hM:iP n M) (hx:∃i,i<n/\x i≠0) (h:cJ n (jb A M (qf n A x/qf n M x)) m z p):1<=m+z/\1<=z+p:=by
 have h0:=hM x hx
 have:=h.null hx (by
  rw[rB,Ϡ];have:qf n M x*(qf n M x)⁻¹=1:=Ν _ (by grind)
  grind)
 have h2:=h.sum;omega
theorem Wb {n:Nat} {A M:Mx} {x:Nat->Rat} {t:Rat} (hM:iP n M) (hx:∃i,i<n/\x i≠0) (hk:xl n n (jb A M t) x):qf n A x/qf n M x=t:=by
 have h0:=hM x hx;have h1:qf n (jb A M t) x=0:=by rw[ll,Qs hk]
 rw[rB]at h1;rw[Ϡ,show qf n A x=t*qf n M x by grind];have:qf n M x*(qf n M x)⁻¹=1:=Ν _ (by grind);grind
theorem oV (n:Nat) (A:Mx) (c:Rat) (x:Nat->Rat):qf n A (λi=>c*x i)=c*c*qf n A x:=by
 unfold qf;rw[<-sum_smul];refine ah n λi _=> ?_
 rw[<-sum_smul];exact ah n λk _=>by grind
theorem Nr {n:Nat} {A M:Mx} {c:Rat} {x:Nat->Rat} (hc:c≠0):qf n A (λi=>c*x i)/qf n M (λi=>c*x i)=qf n A x/qf n M x:=by
 rw[oV,oV,Ϡ,Ϡ,alK,alK];have:c*c⁻¹=1:=Ν _ hc;grind
theorem Qx {K a x y:Rat} (h1: -K<=a) (h2:a<=K):0<=K*(x*x)+K*(y*y)+2*(x*a*y):=by
 have e1:=π (show(0:Rat)<=K+a by grind) (mW (x+y));have e2:=π (show(0:Rat)<=K - a by grind) (mW (x - y));grind
theorem sr (c:Rat):∀n:Nat,aj n (λ_=>c)=n*c
 |0=>by simp[aj]
 |n+1=>by rw[aj,sr c n,Rat.natCast_add];grind
theorem rC {n:Nat} {A:Mx} {K:Rat} (h:∀i k,i<n->k<n-> -K<=A i k/\A i k<=K) (x:Nat->Rat):0<=(n:Rat)*K*aj n (λi=>x i*x i)+qf n A x:=by
 have h1:0<=aj n λi=>aj n λk=>K*(x i*x i)+K*(x k*x k)+2*(x i*A i k*x k):=
  uL λi hi=>uL λk hk=>Qx (h i k hi hk).1 (h i k hi hk).2
 have h2:aj n (λi=>aj n λk=>K*(x i*x i)+K*(x k*x k)+2*(x i*A i k*x k))=(n:Rat)*K*aj n (λi=>x i*x i)+(n:Rat)*K*aj n (λi=>x i*x i)+2*qf n A x:=by
  rw[ah n (g:=λi=>((n:Rat)*K)*(x i*x i)+K*aj n (λk=>x k*x k)+2*aj n (λk=>x i*A i k*x k)) λi _=>by
   rw[sum_add,sum_add,sr,sum_smul,sum_smul];grind]
  rw[sum_add,sum_add,sum_smul,sr,sum_smul];show _=_+2*qf n A x;unfold qf;grind
 rw[h2]at h1;grind
theorem far {n m z p m' z' p':Nat} {A M:Mx} {K r:Rat} (h:∀i k,i<n->k<n-> -K<=A i k/\A i k<=K) (hM:∀x,aj n (λi=>x i*x i)<=qf n M x) (hr:(n:Rat)*K<=r) (hr0:0<=r) (g1:cJ n (jb A M (-r)) m z p) (g2:cJ n (jb A M r) m' z' p'):m=0/\p'=0:=by
 have hs:∀x:Nat->Rat,0<=aj n λi=>x i*x i:=λx=>uL λi _=>mW _
 constructor
 ·refine g1.nn λx=> ?_
  rw[rB];have h1:=rC h x;have h2:=π (show(0:Rat)<=r - n*K by grind) (hs x);have h3:=π hr0 (show(0:Rat)<=qf n M x - aj n (λi=>x i*x i) by have:=hM x;grind);grind
 ·refine g2.np λx=> ?_
  rw[rB];have h1:=rC (K:=K) (A:=λi k=> -1*A i k) (λi k hi hk=>by obtain⟨a1,a2⟩:=h i k hi hk;clear g1 g2 hM hs;constructor<;>grind) x;rw[ey]at h1;have h2:=π (show(0:Rat)<=r - n*K by grind) (hs x);have h3:=π hr0 (show(0:Rat)<=qf n M x - aj n (λi=>x i*x i) by have:=hM x;grind);grind
theorem least {P:Nat->Prop}:∀{b:Nat},P b->∃e,e<=b/\P e/\∀k,k<e->¬P k
 |0,h=>⟨0,ζ _,h,λk hk=>aa⟩
 |b+1,h=>by
  by_cases g:∃k,k<=b/\P k
  ·obtain⟨k,hk,hp⟩:=g;have:∀b k,k<=b->P k->∃e,e<=b/\P e/\∀k,k<e->¬P k:=by
    intro b;induction b with
    |zero=>intro k hk hp;exact⟨0,ζ _,by rwa [show k=0 by omega]at hp,λk hk=>aa⟩
    |succ b ih=>
     intro k hk hp;by_cases g:∃k,k<=b/\P k
     ·obtain⟨k,hk,hp⟩:=g;obtain⟨e,h1,h2,h3⟩:=ih k hk hp;exact⟨e,aa,h2,h3⟩
     ·have:k=b+1:=Ο λe=>g ⟨k,aa,hp⟩
      subst this;exact⟨b+1,ζ _,hp,λj hj hpj=>g ⟨j,aa,hpj⟩⟩
   obtain⟨e,h1,h2,h3⟩:=this b k hk hp;exact⟨e,aa,h2,h3⟩
  ·exact⟨b+1,ζ _,h,λk hk hp=>g ⟨k,aa,hp⟩⟩
structure Steps (m z:Rat->Nat):Prop where
 Nq:∀t t',t<t'->m t+z t<=m t'
theorem Steps.le {m z:Rat->Nat} (h:Steps m z) {t t':Rat} (g:t<=t'):m t+z t<=m t'+z t':=by
 by_cases e:t=t'
 ·rw[e];exact ζ _
 ·have:=h.Nq t t' (by grind);omega
structure Oe (m z:Rat->Nat) (i:Nat) (step low high:Rat):Prop where
 mult:∃k:Int,high=k*step
 top:i<m high+z high
 or:(low=high/\m high<=i)\/(low=high - step/\i<m high/\m low+z low<=i)
theorem Oe.below {m z:Rat->Nat} {i:Nat} {step low high:Rat} (h:Oe m z i step low high):m low<=i:=by
 rcases h.or with⟨h1,h2⟩|⟨h1,h2,h3⟩
 ·rw[h1];exact h2
 ·omega
theorem y5 {step:Rat} (hs:0<step) {j k:Int} (h:(j:Rat)*step<k*step):(j:Rat)*step<=k*step - step:=by
 have Dg:j<k:=by
  refine Int.not_le.1 λg=> ?_
  have h1:((k:Int):Rat)<=(j:Int):=ago.2 g;have:=π (show(0:Rat)<=(j:Rat) - k by grind) (show 0<=step by grind);grind
 have h1:(((j+1:Int)):Rat)<=(k:Int):=ago.2 Dg;rw[alF]at h1;have:=π (show(0:Rat)<=(k:Rat) - (j+1) by have:((1:Int):Rat)=1:=rfl;grind) (show 0<=step by grind);grind
theorem Oe.nest {m z:Rat->Nat} {i q:Nat} {step step' low high low' high':Rat} (hm:Steps m z) (hs:0<step') (hq:step=(q:Int)*step') (h:Oe m z i step low high) (g:Oe m z i step' low' high'):low<=low'/\high'<=high/\low'<=high':=by
 obtain⟨k,hk⟩:=h.mult;obtain⟨k',kQ⟩:=g.mult;have KA:high=((k*q:Int):Rat)*step':=by rw[hk,hq,ail];grind
 have iD:high - step=((k*q - q:Int):Rat)*step':=by rw[KA,hq,alI];grind
 have hle:low'<=high':=by rcases g.or with⟨h1,_⟩|⟨h1,_⟩<;>grind
 have BX:high'<=high:=by
  refine agi.1 λaE=> ?_
  have h1:high<=high' - step':=by
   rw[KA,kQ]at aE ⊢;exact y5 hs aE
  have ht:=h.top;rcases g.or with⟨g1,g2⟩|⟨g1,g2,g3⟩
  ·have:=hm.Nq _ _ aE;omega
  ·have:=hm.le (show high<=low' by rw[g1];exact h1);omega
 refine⟨?_,BX,hle⟩;have ht:=g.top;rcases h.or with⟨h1,h2⟩|⟨h1,h2,h3⟩
 ·have e:high'=high:=by
   refine Ο λa8=> ?_
   have:=hm.Nq high' high (by grind);omega
  rcases g.or with⟨g1,g2⟩|⟨g1,g2,g3⟩
  ·grind
  ·rw[e]at g2;omega
 ·have aE:low<high':=by
   refine Rat.not_le.1 λKD=> ?_
   have:=hm.le KD;omega
  rcases g.or with⟨g1,g2⟩|⟨g1,g2,g3⟩
  ·grind
  ·rw[g1];rw[h1,iD,kQ]at aE ⊢;exact y5 hs aE
theorem Oe.abF {m z:Rat->Nat} {i j:Nat} {step low high low' high':Rat} (hm:Steps m z) (hs:0<step) (KG:i<=j) (h:Oe m z i step low high) (g:Oe m z j step low' high'):low<=low'/\high<=high':=by
 obtain⟨k,hk⟩:=h.mult;obtain⟨k',kQ⟩:=g.mult;have ht:=g.top;have BX:high<=high':=by
  refine agi.1 λaE=> ?_
  have h1:high'<=high - step:=by
   rw[hk,kQ]at aE ⊢;exact y5 hs aE
  rcases h.or with⟨g1,g2⟩|⟨g1,g2,g3⟩
  ·have:=hm.Nq _ _ aE;omega
  ·have:=hm.le (show high'<=low by rw[g1];exact h1);omega
 refine⟨?_,BX⟩;rcases h.or with⟨h1,h2⟩|⟨h1,h2,h3⟩
 ·rcases g.or with⟨g1,g2⟩|⟨g1,g2,g3⟩
  ·grind
  ·by_cases e:high=high'
   ·rw[e]at h2;omega
   ·rw[h1,g1];have aE:high<high':=by grind
    rw[hk,kQ]at aE ⊢;exact y5 hs aE
 ·rcases g.or with⟨g1,g2⟩|⟨g1,g2,g3⟩<;>grind
abbrev gH (r c:Nat) (a v w:List Rat):Rat:=GL v (jw r c a w)
theorem Qy {r c:Nat} {a v w:List Rat} (hv:v.length=r):gH r c a v w=aj r λi=>aj c λk=>v.getD i 0*el a c i k*w.getD k 0:=by
 rw[gH,GO hv mS];exact ah r λi hi=>by rw[pR hi,bH];exact ah c λk _=>by grind
def SymM (n:Nat) (a:List Rat):Prop:=∀i k,i<n->k<n->el a n i k=el a n k i
theorem mZ {n:Nat} {a:List Rat} (ha:a.length=n*n) (h:SymM n a):fZ n n a=a:=Jx ha λi k hi hk=>h k i hk hi
theorem EP {a:List Rat} {n i k j l:Nat} {q:Rat} (ha:a.length=n*n) (hi:i<n) (hk:k<n) (hj:j<n) (hl:l<n):el (a.set (i*n+k) q) n j l=if i=j/\k=l then q else el a n j l:=by
 have h1:=dP hi hk;have h2:=dP hj hl;simp only[el,δ,aiZ];by_cases e:i*n+k=j*n+l
 ·have e1:=congrArg (·/n) e;have e2:=congrArg (· % n) e;simp only[yR hk,yR hl,yS hk,yS hl]at e1 e2;subst e1 e2;simp[ha,h1]
 ·rw[if_neg e,if_neg (by rintro⟨rfl,rfl⟩;exact e rfl)]
theorem Qz {a:List Rat} {n i k:Nat} {q:Rat} (ha:a.length=n*n) (h:SymM n a) (hi:i<n) (hk:k<n):SymM n ((a.set (i*n+k) q).set (k*n+i) q):=by
 intro j l hj hl;have hb:(a.set (i*n+k) q).length=n*n:=by rw[ϒ,ha]
 rw[EP hb hk hi hj hl,EP hb hk hi hl hj,EP ha hi hk hj hl,EP ha hi hk hl hj];by_cases e1:k=j/\i=l
 ·rw[if_pos e1];split
  ·rfl
  ·rw[if_pos ⟨e1.2,e1.1⟩]
 ·rw[if_neg e1];by_cases e2:k=l/\i=j
  ·rw[if_pos e2,if_pos ⟨e2.2,e2.1⟩]
  ·rw[if_neg e2,if_neg (λh=>e2 ⟨h.2,h.1⟩),if_neg (λh=>e1 ⟨h.2,h.1⟩)];exact h j l hj hl
theorem QA {a:List Rat} {B p:Nat} {q:Rat} (h:Sm B a) (hq:fs q<=B):Sm B (a.set p q):=by
 intro i hi;rw[ϒ]at hi;rw[δ,aiZ];by_cases e:p=i
 ·subst e;simp[hi];exact hq
 ·rw[if_neg e,<-δ];exact h i hi
section
open Go.Shelf Go.RowKit Go.Sort Go.Lib
theorem Wc (u:Nat) (hu:100<=u) (hu64:u<18446744073709551616) (w:World) (htab:ags Tryz.prog w "internal/strconv.uint64pow10" .u64 aha):
  Calls Tryz.prog 208 #[.int .u64 u,.int .i64 10] w λe w'=>e= .returned (.string ⟨(ώ u).toArray⟩)/\∃k os,w'=grow (w.drewN k) os:=by
 have mixed:Tryz.prog.follows .mixedOrders=true:=aD;have t3:=Tryz.underlying3;have a3:=Tryz.isAgg3;have z3:=Tryz.sizeOf3;have v3:=Tryz.zeroValue3;have t9:=Tryz.underlying9;have a9:=Tryz.isAgg9;have z9:=Tryz.sizeOf9;have v9:=Tryz.zeroValue9;have t4:=Tryz.underlying4;have a4:=Tryz.isAgg4;have z4:=Tryz.sizeOf4;have v4:=Tryz.zeroValue4;have t53:=Tryz.underlying41;have a53:=Tryz.isAgg41;have z53:=Tryz.sizeOf41;have v53:=Tryz.zeroValue41;have t5:=Tryz.underlying5;have a5:=Tryz.isAgg5;have z5:=Tryz.sizeOf5;have v5:=Tryz.zeroValue5;have t37:=Tryz.underlying221;have a37:=Tryz.isAgg221;have z37:=Tryz.sizeOf221;have v37:=Tryz.zeroValue221;have t171:=Tryz.underlying279;have a171:=Tryz.isAgg279;have z171:=Tryz.sizeOf279;have v171:=Tryz.zeroValue279;have t0:=Tryz.underlying0;have a0:=Tryz.isAgg0;have z0:=Tryz.sizeOf0;have v0:=Tryz.zeroValue0;have aj6:∀args w,(callFunc 225 args).run Tryz.prog w= .ok (.enter 225 args) w:=enters_of Tryz.func225 aD rfl;have aj7:∀args w,(callFunc 226 args).run Tryz.prog w= .ok (.enter 226 args) w:=enters_of Tryz.func226 aD rfl;have hu1:1<=u:=aa;have aiP:af9 u<=20:=by have:=Lib.numDigits_eq u hu1 hu64;split at this<;>omega
 have FJ:Tryz.prog.arrayLen 279=24:=by simp[akI,t171]
 have hsl:∀W,(Instr.sliceAt 279 (.pointer (some ⟨w.heap.size,0,none⟩)) none (some (.int .i64 (af9 u:Int))) none).run Tryz.prog W= .ok (.slice (some ⟨w.heap.size,0,none⟩) (af9 u) 24) W:=λW=>by
  rw[run_sliceAt_array_h W 279 ⟨w.heap.size,0,none⟩ (by simp[akI,Program.elem,t171]) .i64 (af9 u:Int) aa (by rw[FJ];omega)]
  go_simp
 have hH0:=Lib.holds_zero0 w 279 (af9 u) aa;have aeX:=Tryz.internal_strconv_formatBase10 w.heap.size 0 24 u (Array.replicate (af9 u) 0) (w.alloc (.cells aiH 279)) hH0 (by rw[agp];exact Lib.lt_pow_nDigits u) hu64 (by rw[agp];omega);rw[agp]at aeX;have HH0:=Lib.hid hH0;have iu:¬(u:Int)<100:=aa;clear hH0 FJ
 go_enter Tryz.func208,Tryz.ntmps208
 go_wp2_with (first
  |(go_at_fn 225;refine(Tryz.internal_strconv_numDigits u hu1 hu64 _ (Lib.tabIs_alloc htab _)).mono ?_;rintro e w' ⟨rfl,rfl⟩))
 go_at_fn 226
 refine aeX.mono ?_;rintro e w' ⟨rfl,k,v',dk,rfl,hF⟩;have hcv:(convert 221 9 (.slice (some ⟨w.heap.size,0,none⟩) (af9 u) 24)).run Tryz.prog ((putRow (λ(b:UInt8)=>adt .u8 (b.toNat:Int)) (w.alloc (.cells aiH 279)) w.heap.size 0 dk).drewN k)= .ok (.string ⟨(ώ u).toArray⟩) ((putRow (λ(b:UInt8)=>adt .u8 (b.toNat:Int)) (w.alloc (.cells aiH 279)) w.heap.size 0 dk).drewN k):=by
  have h:=run_convert_bytes_back (P:=Tryz.prog) ((putRow (λ(b:UInt8)=>adt .u8 (b.toNat:Int)) (w.alloc (.cells aiH 279)) w.heap.size 0 dk).drewN k) 221 9 5 ⟨w.heap.size,0,none⟩ 24 (ώ u) t37 t5 t9 (λj hj=>by
   rw[Lib.row_is_numeral hF j hj,Lib.add_plain,World.cell?_drewN]
   exact cell?_putRow (λ(b:UInt8)=>adt .u8 (b.toNat:Int)) _ w.heap.size 0 _ dk HH0.out (by rw[hF.size,agp]) j (by rw[hF.size];rw[akJ]at hj;exact hj))
  rw[akJ]at h;exact h
 go_wp2
 go_ret
 obtain⟨os,eo⟩:=Lib.fin_at w (.cells aiH 279) dk k 0;exact⟨rfl,k,os,eo⟩
end
def iz:Nat->Nat->List UInt8
 |0,_=>[]
 |k+1,r=>iz k (r/10)++[aal (48+r % 10)]
theorem y6 {n:Nat} (h:10<=n):ώ n=ώ (n/10)++[aal (48+n % 10)]:=by rw[ώ,dif_neg aa]
theorem dec_lt {n:Nat} (h:n<10):ώ n=[aal (48+n)]:=by rw[ώ,dif_pos h]
theorem Dj:∀k q r,0<q->r<10^k->ώ (q*10^k+r)=ώ q++iz k r
 |0,q,r,hq,hr=>by
  obtain rfl:r=0:=by simp at hr;exact hr
  simp[iz]
 |k+1,q,r,hq,hr=>by
  have hp:0<10^k:=Nat.pow_pos ax;have e:q*10^(k+1)=10*(q*10^k):=by rw[ϙ,<-Nat.mul_assoc,Ϣ]
  have hqp:0<q*10^k:=Nat.mul_pos hq hp;rw[ϙ]at hr;rw[y6 aa,show(q*10^(k+1)+r)/10=q*10^k+r/10 by omega,show(q*10^(k+1)+r) % 10=r % 10 by omega,Dj k q (r/10) hq aa,iz,abA]
theorem He:∀k,iz k 0=θ k 48
 |0=>rfl
 |k+1=>by rw[iz,Nat.zero_div,He k,List.replicate_succ'];rfl
theorem ER:∀k r,r<10^k->0<k->iz k r=θ (k - (ώ r).length) 48++ώ r/\(ώ r).length<=k
 |0,r,h,h0=>aa
 |k+1,r,h,_=>by
  by_cases h1:r<10
  ·rw[iz,show r/10=0 by omega,He,dec_lt h1,show r % 10=r by omega];exact⟨rfl,by simp⟩
  ·have hk:0<k:=by rcases acX k with g|g
                   ·subst g;simp at h;omega
                   ·exact g
   rw[ϙ]at h;obtain⟨h2,h3⟩:=ER k (r/10) aa hk;have e:=y6 (n:=r) aa;rw[iz,h2,e,ξ,abA,List.length_singleton];exact⟨by rw[show k+1 - ((ώ (r/10)).length+1)=k - (ώ (r/10)).length by omega],aa⟩
theorem Wd {ρ:bY} {w:World} (h:∀b o,ρ.aW b=some o->w.heap[b]? =some o):ags Tryz.prog w "internal/strconv.uint64pow10" .u64 aha:=by
 obtain⟨o,h1,_,ty,fz,rfl⟩:=ρ.cA 2 .u64 aha Gw;exact aan (g:=2) aD (h _ _ h1)
theorem Be {f:FuncId} {vs:List Value} {v:Value} (hf:FY Tryz.prog f) (hv:v.oneCell'=true) (h:∀w:World,ags Tryz.prog w "internal/strconv.uint64pow10" .u64 aha->Calls Tryz.prog f vs.toArray w λe w'=>e= .returned v/\aeR w.heap.size w w'):C0 f (vs.map .val) (.val v):=by
 refine .inl ⟨hf,λρ w z hz hp=> ?_⟩;rw[Ap hz];refine(h w (Wd hp.aW)).mono ?_;rintro e w' ⟨rfl,hb⟩;exact⟨v,ρ,rfl,.ic hb (ck hv)⟩
theorem We (n:Nat) (h1:100<=n) (h2:n<18446744073709551616):C0 208 [.val (.int .u64 (n:Nat)),.val (.int .i64 10)] (.val (.string (tN n))):=
 Be (vs:=[.int .u64 (n:Nat),.int .i64 10]) ⟨Tryz.f208,Tryz.func208,rfl,aD⟩ rfl λw ht=>by
  rw[qo];refine(Wc n h1 h2 w ht).mono ?_;rintro e w' ⟨rfl,k,os,rfl⟩;exact⟨rfl,alT w.heap.size w (ζ _) k os⟩
theorem Ns (n:Nat) (h:n<18446744073709551616):C0 175 [.val (.int .u64 (n:Nat)),.val (.int .i64 10)] (.val (.string (tN n))):=by
 by_cases hs:n<100
 ·exact PZ n hs
 ·have k1:=We n aa h;refine bB [] Tryz.func175 ?_;intro W0 w0 ρ0 hE;conv=>whnf
  (repeat(first|(refine aN aJ ?_;conv=>whnf)));exact Q4
theorem abH (n:Nat) (h:n<9223372036854775808):C0 178 [.val (.int .i64 (n:Nat))] (.val (.string (tN n))):=
 Be (vs:=[.int .i64 (n:Nat)]) ⟨Tryz.f178,Tryz.func178,rfl,aD⟩ rfl λw ht=>by
  rw[qo];refine(Tryz.strconv_Itoa n aa aa w ht).mono ?_;rintro e w' ⟨rfl,k,os,rfl⟩;refine⟨?_,alT w.heap.size w (ζ _) k os⟩;rw[Lib.itoa_nonneg]
theorem QB (c:Nat) (hc:c<=100):C0 179 [.val (.string ⟨#[48]⟩),.val (.int .i64 (c:Nat))] (.val (.string ⟨(θ c 48).toArray⟩)):=
 CU (vs:=[.string ⟨#[48]⟩,.int .i64 (c:Nat)]) ⟨Tryz.f179,Tryz.func179,rfl,aD⟩ rfl λw=>by
  have e:∀c,akH [48] c=θ c 48:=λc=>by
   induction c with
   |zero=>rfl
   |succ c ih=>show[48]++akH [48] c=_;rw[ih,List.replicate_succ,List.singleton_append]
  refine(Tryz.strings_Repeat ⟨#[48]⟩ c w aa (by show 1*c<=_;omega)).mono ?_;rintro e' w' ⟨rfl,hb⟩;exact⟨by rw[show(⟨#[48]⟩:ByteArray).data.toList=[48]from rfl,e],hb⟩
abbrev xp (ss:List ByteArray):aC:=⟨9,true,.seq 1 (ss.map Aq)⟩
theorem Wf {a b:List ByteArray} {n:Nat} (ha:a.length=n) (hb:b.length=n) (h:∀i,i<n->a.getD i .empty=b.getD i .empty):a=b:=by
 refine aju (ha.trans hb.symm) λi h1 h2=> ?_
 have:=h i aa;rwa [δ,δ,φ h1,φ h2]at this
theorem Ly {l:List ByteArray} {i j:Nat} {v:ByteArray} (hi:i<l.length):(l.set i v).getD j .empty=if i=j then v else l.getD j .empty:=by
 simp only[δ,aiZ];by_cases h:i=j
 ·subst h;simp[hi]
 ·simp[h]
theorem Wg {l:List ByteArray} {n k:Nat} (hl:l.length=n) (hk:k<n):l.reverse.getD k .empty=l.getD (n - 1 - k) .empty:=by
 simp only[δ];rw[List.getElem?_reverse aa,hl]
theorem Nt (ss:List ByteArray) (n:Nat) (hn:ss.length=n) (hl:n<1099511627776) (K:Nat):aL Tryz.prog 180 [.aM K 1 0 n] [(K,xp ss)] (.bQ []) [] [(K,xp ss.reverse)]:=by
 have e0:ε.wrap ((n:Int) - 1)=(n:Int) - 1:=wrap_i64 aa aa;refine gY (Z:=[]) aH bC Tryz.func180 rfl aD (args:=[.aM 1001 1 0 n]) (fk:=[(1001,xp ss)]) (c:=.bQ []) (new:=[]) (upd:=[(1001,xp ss.reverse)]) (cb.of rfl rfl rfl rfl rfl rfl rfl rfl rfl rfl rfl) rfl (λ_=>K) bl.upd ?_;intro W0 w0 ρ0 hE;conv=>whnf
 (repeat(first|(rw[e0];conv=>whnf)))
 refine av hE (λk=>k) [0,2,3] [1001] (λq fr hp=>∃(i:Nat) (ys:List ByteArray),q=n - i/\(2*i<=n)/\ys.length=n/\(∀k,k<n->ys.getD k .empty=if k<i\/n - i<=k then ss.getD (n - 1 - k) .empty else ss.getD k .empty)/\
  fr=[(0,.aM 1001 1 0 n),(2,.val (.int .i64 (i:Nat))),(3,.val (.int .i64 ((n:Int) - 1 - i)))]/\hp=[(1001,xp ys)]) n ?_ ?_ ?_
 ·kernel_rfl
 ·exact⟨0,ss,rfl,aa,hn,(λk hk=>by rw[if_neg aa]),by rw[show(n:Int) - 1 - ((0:Nat):Int)=(n:Int) - 1 by omega];rfl,rfl⟩
 rintro q _ _ ⟨i,ys,rfl,hi,hy,hv,rfl,rfl⟩;conv=>whnf
 by_cases hgo:i+i+1<n
 ·obtain⟨j,hj⟩:∃j,j=n - 1 - i:=⟨_,rfl⟩;have ej:(n:Int) - 1 - i=(j:Int):=aa;rw[ej];have t1:decide ((i:Int)<(j:Int))=true:=decide_eq_true aa;have e1:=bW (i:=i) aa;have e2:ε.wrap ((j:Int) - 1)=(n:Int) - 1 - ((i+1:Nat):Int):=by rw[wrap_i64 aa aa];omega
  have g1:(ys.map Aq).getD i .any= .val (.string (ys.getD i .empty)):=by rw[nQ (d:=ajo) aa];rfl
  have g2:(ys.map Aq).getD j .any= .val (.string (ys.getD j .empty)):=by rw[nQ (d:=ajo) aa];rfl
  have g3:((ys.map Aq).set i (.val (.string (ys.getD j .empty)))).getD j .any= .val (.string (ys.getD j .empty)):=by rw[<-g2,δ,agO aa,<-δ]
  have hlm:(ys.map Aq).length=n:=by rw[Χ];exact hy
  have n8:(((ys.set i (ys.getD j .empty)).set j (ys.getD i .empty)).map Aq)=((ys.map Aq).set i (.val (.string (ys.getD j .empty)))).set j (.val (.string (ys.getD i .empty))):=by rw[agu,agu];rfl
  have gi:∀k,k<n->((ys.set i (ys.getD j .empty)).set j (ys.getD i .empty)).getD k .empty=if k<i+1\/n - (i+1)<=k then ss.getD (n - 1 - k) .empty else ss.getD k .empty:=by
   intro k hk;rw[Ly (by rw[ϒ];omega),Ly aa];by_cases h1:j=k
   ·rw[if_pos h1,if_pos aa,hv i aa,if_neg aa,show n - 1 - k=i by omega]
   ·rw[if_neg h1];by_cases h2:i=k
    ·rw[if_pos h2,if_pos aa,hv j aa,if_neg aa,show n - 1 - k=j by omega]
    ·rw[if_neg h2,hv k hk];by_cases h3:k<i\/n - i<=k
     ·rw[if_pos h3,if_pos aa]
     ·rw[if_neg h3,if_neg aa]
  (repeat((first|refine ag rfl rfl ?_|refine aq aD ?_|refine Ξ Q5 ?_|rw[t1]|rw[show 0+(i:Int).toNat=i from by omega]|rw[show 0+(j:Int).toNat=j from by omega]|rw[g1]|rw[g2]|rw[g3]|rw[e1]|rw[e2]);conv=>whnf))
  refine⟨n - (i+1),λk=>k,[0,2,3],[1001],aa,aD,i+1,_,rfl,aa, ?_,gi,rfl, ?_⟩
  ·rw[ϒ,ϒ];exact hy
  ·rw[xp,n8];rfl
 ·have t1:decide ((i:Int)<(n:Int) - 1 - i)=false:=decide_eq_false aa;have e:ys=ss.reverse:=Wf hy (by rw[List.length_reverse];exact hn) λk hk=>by
   rw[hv k hk,Wg hn hk];split
   ·rfl
   ·rw[show n - 1 - k=k by omega]
  rw[e]
  (repeat(first|(refine ae rfl rfl ?_;conv=>whnf)|(rw[t1];conv=>whnf)))
  exact⟨au.refl _,(λ_ _ h=>by cases h),λk b hm=>by simp only[μ,ς]at hm;obtain⟨rfl,rfl⟩:=hm;rfl⟩
theorem JL {P:Program} {f:FuncId} {ss:List ByteArray} {n:Nat} {sep:ByteArray} {v:Value} {ty:TypeId} (hn:ss.length=n) (hf:FY P f) (hv:v.oneCell'=true)
  (h0:ss=[]->∀(a:Option Addr) (w:World),Calls P f #[.slice a 0 0,.string sep] w λe w'=>e= .returned v/\w'=w)
  (h:∀(bk o c:Nat) (w:World),(∀(j:Nat) x,ss[j]? =some x->w.cell? ⟨bk,o+j,none⟩=some (.string x))->bk<w.heap.size->ss.length<=c->Calls P f #[.slice (some ⟨bk,o,none⟩) ss.length c,.string sep] w λe w'=>e= .returned v/\aeR w.heap.size w w') (K:Nat):
  aL P f [.aM K 1 0 n,.val (.string sep)] [(K,⟨ty,true,.seq 1 (ss.map Aq)⟩)] (.val v) [] []:=by
 subst hn;refine .inl ⟨hf,λρ w z hz hp=> ?_⟩;simp only[aw]at hz;obtain⟨x,_,rfl,hx,y,_,rfl,hy,rfl⟩:=hz;simp only[aI]at hy;obtain⟨rfl,_⟩:=hy;have fin:∀(a:Value),(Calls P f #[a,.string sep] w λe w'=>e= .returned v/\aeR w.heap.size w w')->Calls P f (ω cV [.aM K 1 0 ss.length,SV.val (.string sep)] [[a],[.string sep]]).toArray w λe w'=>∃v' ρ',e= .returned v'/\kN ρ w (.val v) [] [] v' ρ' w':=λa hc=>by
  have e:(ω cV [.aM K 1 0 ss.length,SV.val (.string sep)] [[a],[.string sep]]).toArray= #[a,.string sep]:=by simp[cV,SV.aZ]
  rw[e];refine hc.mono ?_;rintro e w' ⟨rfl,hb⟩;exact⟨v,ρ,rfl,.ic hb (ck hv)⟩
 obtain⟨z,hz,hcase⟩:=kT (hp.oq K _ (η ..)) rfl rfl;simp only[aI]at hx;rcases hx with⟨b,t,cap,e1,e2,e3,rfl⟩|⟨hn,a,rfl⟩
 ·rcases hcase with⟨b',t',ex,h1,h2,h3,h4⟩|⟨h1,_⟩
  ·rw[e1]at h1;cases h1;have hzf:∀(l:List ByteArray) (z:List (List Value)),aw (cW ρ.aW ρ.cA) (l.map Aq) z->z.flatten=l.map .string:=by
    intro l;induction l with
    |nil=>intro z hz;simp only[af6,aw]at hz;subst hz;rfl
    |cons s l ih=>
     intro z hz;simp only[ϲ,aw,Aq,aI]at hz;obtain⟨x,r,rfl,⟨rfl,_⟩,h⟩:=hz;simp[ih r h]
   refine fin _ ((h b 0 cap w (λj x hj=> ?_) ?_ e2))
   ·rw[cell_of_row w b _ _ _ _ h2,List.getElem?_toArray,hzf ss z hz.2.1,υ];rw[ϳ (by rw[Χ];exact(List.getElem?_eq_some_iff.1 hj).1),List.getElem?_map,hj];rfl
   ·rcases Nat.lt_or_ge b w.heap.size with h'|h'
    ·exact h'
    ·simp[Array.getElem?_eq_none h']at h2
  ·rw[e1]at h1;cases h1
 ·refine fin _ ?_;have hn:ss=[]:=List.length_eq_zero_iff.1 hn;subst hn;exact(h0 rfl a w).mono λ_ _ ⟨he,hw⟩=>⟨he,hw▸afO _ _⟩
theorem Wh (ss:List ByteArray) (n:Nat) (hn:ss.length=n) (sep:ByteArray) (hN:ss.length<=1099511627776) (hlen:(aeO (ss.map (·.data.toList)) sep.data.toList).length<=140737488355328) (K:Nat):
  aL Tryz.prog 126 [.aM K 1 0 n,.val (.string sep)] [(K,xp ss)] (.val (.string ⟨(aeO (ss.map (·.data.toList)) sep.data.toList).toArray⟩)) [] []:=by
 refine JL hn ⟨Tryz.f126,Tryz.func126,rfl,aD⟩ rfl ?_ ?_ K
 ·rintro rfl a w;exact Tryz.strings_Join_none a 0 sep w
 ·intro bk o c w hc hb hcap;exact Tryz.strings_Join bk o c ss sep w hc hb aa hcap hlen
