/- The texts Ch, Ck, Cm, Cl, Ea, Eb, Ec, Ed, Ee, Ef, Eg, Eh, Ei, Fa. -/
import Derived.Laws.Externs
import Derived.Shelf.Abstract
import Derived.Test.YtadphegfhgmgmaaGreatDoorQMModesKnown2
set_option linter.unusedSimpArgs false
set_option linter.unusedVariables false
set_option maxHeartbeats 4000000
set_option maxRecDepth 100000
open And renaming intro->Ξ
open BitVec renaming ofInt->acN,toNat_ofInt->agV
open Bool renaming and_eq_true->Μ
open Classical renaming byContradiction->Ο
open Go.IntKind renaming bits->abG,i64->ε,signed->aen,u32->Φ,u64->Ζ,u8->abO,wrap->agE
open Int renaming add_mul->amm,add_zero->ajU,eq_ofNat_of_zero_le->Α,mul_one->aiE,natAbs_mul->ac6,natAbs_natCast->abK,natCast_add->Ϫ,natCast_emod->als,natCast_mul->Ρ,natCast_nonneg->ak5,natCast_pow->ae1,not_lt->amr,ofNat_le->ak6,ofNat_lt->aiT,one_mul->aml,pow_add->aiU,pow_succ->ϫ,pow_zero->ag1,sign_eq_neg_one_of_neg->ϕ,sign_eq_one_of_pos->ϰ,sign_nonneg_iff->akT,sub_zero->aiG,toNat_natCast->ι,zero_add->aka,zero_mul->ajT
open List renaming append_nil->ϣ,drop_zero->afg,flatMap_cons->abi,getD_cons_succ->abt,getD_cons_zero->aeL,getD_eq_getElem?_getD->δ,getElem?_eq_getElem->φ,getElem?_eq_none->Ϙ,length_append->ξ,length_cons->ϊ,length_take->ψ,map_cons->ϲ,map_id->ama,map_map->alV,mem_cons->Λ,mem_cons_of_mem->Δ,mem_cons_self->η,not_mem_nil->afT,replicate->θ,take_add_one->aij,take_length->adi
open Nat renaming add_comm->afk,add_mod_right->ai6,add_mul->gx,add_mul_mod_self_right->ajK,and_lt_two_pow->ahu,div_add_mod->abp,div_div_eq_div_mul->ϔ,div_eq_of_lt->Ϯ,div_lt_of_lt_mul->afX,div_mul_le_self->ac5,le_of_lt->aiD,le_refl->ζ,le_succ->ahH,le_trans->Ι,lt_div_mul_add->afC,lt_of_le_of_lt->ϓ,lt_of_lt_of_le->Ϟ,min_eq_left->acR,mod_eq_of_lt->Υ,mod_lt->ab8,mul_add->afm,mul_assoc->Ϛ,mul_comm->Ϣ,mul_le_mul->Ϧ,mul_le_mul_left->ϧ,mul_le_mul_right->ο,mul_left_comm->ai3,mul_lt_mul_of_pos_right->ag8,mul_ne_zero->agI,mul_one->alp,mul_pos->agj,one_mul->ajk,or_comm->akF,or_lt_two_pow->ali,pow_add->acU,pow_le_pow_right->ύ,pow_mul->ajl,pow_pos->acS,pow_succ->ϙ,reducePow->ahy,sub_self->af0,testBit_and->alE,testBit_eq_decide_div_mod_eq->ai5,testBit_xor->ajx,two_pow_add_eq_or_of_lt->aep,two_pow_pos->aeo,xor_lt_two_pow->ahs,zero_add->υ
open Rat renaming add_def'->akc
open UInt8 renaming ofNat->aal,toNat_ofNat'->aiL
namespace Go.Proofs.YtadphegfhgmgmaaGreatDoor
open Go.Sx
theorem KX (x y:Nat) (hx:x<18446744073709551616) (hy:y<18446744073709551616):
  C0 196 [.val (.int .u64 x),.val (.int .u64 y),.val (.int .u64 0)] (.bQ [.val (.int .u64 ((x+y) % 18446744073709551616:Nat)),.val (.int .u64 ((x+y)/18446744073709551616:Nat))]):=by
 refine .inr λρ w z hz hp=> ?_
 simp only[aw,aI]at hz;obtain⟨_,_,rfl,⟨rfl,_⟩,_,_,rfl,⟨rfl,_⟩,_,_,rfl,⟨rfl,_⟩,rfl⟩:=hz;refine⟨.tuple #[.int .u64 ((x+y) % 18446744073709551616:Nat),.int .u64 ((x+y)/18446744073709551616:Nat)],ρ,w, ?_,.pure ?_⟩
 ·show(callFunc 196 #[.int .u64 x,.int .u64 y,.int .u64 0]).run Tryz.prog w=_;rw[run_callFunc_extern Tryz.func196 aD aD aD (e:=add64Entry) aD,run_add64 x y 0 aa aa aa aa];simp only[Result.andThen];congr 5<;>omega
 ·simp only[Has,aw,aI];exact⟨_,⟨_,_,rfl,⟨rfl,rfl⟩,_,_,rfl,⟨rfl,rfl⟩,rfl⟩,rfl⟩
theorem Pp (a b:Nat) (ha:a<18446744073709551616) (hb:b<18446744073709551616):
  C0 193 [.nat a,.nat b] (.val (.int .i64 ((a:Int) - b).sign)):=by
 refine bB [] Tryz.func193 ?_;intro W0 w0 ρ0 hE;conv=>whnf
 rw[dO,decide_eq_true ha];refine⟨λ_=> ?_,λh=>by cases h⟩;conv=>whnf
 refine⟨λ_=> ?_,λh=>by cases h⟩;conv=>whnf
 refine⟨λ_=> ?_,λh=>by cases h⟩;conv=>whnf
 rw[dO,decide_eq_true hb];refine⟨.val (.bool true),[],[],[],nK rfl (ai rfl) (λ_=>ai rfl) (λhb=>by cases hb) rfl (c2:=.any),aF,ak,ar, ?_⟩;conv=>whnf
 refine⟨λ_=> ?_,λh=>by cases h⟩;conv=>whnf
 rw[cD ha,cD hb];refine⟨λh=> ?_,λh=> ?_⟩
 ·have hz:((a:Int) - b).sign= -1:=ϕ (by have:=of_decide_eq_true h;omega);conv=>whnf
  rw[hz];exact au.refl _
 ·have h1:=of_decide_eq_false h;conv=>whnf
  rw[cD ha,cD hb];refine⟨λh=> ?_,λh=> ?_⟩
  ·have hz:((a:Int) - b).sign=1:=ϰ (by have:=of_decide_eq_true h;omega);conv=>whnf
   rw[hz];exact au.refl _
  ·have hz:((a:Int) - b).sign=0:=by rw[Int.sign_eq_zero_iff_zero];have:=of_decide_eq_false h;omega
   conv=>whnf
   rw[hz];exact au.refl _
theorem vO {x:Int} {n:Nat} {s:ByteArray} (hx:x=n) (hs:s=ByteArray.empty) (hn:n<18446744073709551616):∀ρ y,aI ρ (.agg [.val (.int .u64 x),.val (.string s)]) y->aI ρ (.nat n) y:=
 M4 (l:=bU n) (by rw[mJ hn,hx,hs];rfl) rfl (λ_ h=>by cases h)
theorem Ax {n:Nat} (hn:n<18446744073709551616):au (.agg [.val (.int .u64 n),.val (.string .empty)]) (.nat n):=
 fb (l:=bU n) (by rw[mJ hn];rfl) rfl (λ_ h=>by cases h)
theorem aer (a b:Nat) (h:a+b<18446744073709551616):
  C0 151 [.nat a,.nat b] (.nat (a+b)):=by
 have ha:a<18446744073709551616:=aa;have hb:b<18446744073709551616:=aa;refine bB [] Tryz.func151 ?_;intro W0 w0 ρ0 hE;conv=>whnf
 rw[dO,decide_eq_true ha];refine⟨λ_=> ?_,λh=>by cases h⟩;conv=>whnf
 refine⟨λ_=> ?_,λh=>by cases h⟩;conv=>whnf
 refine⟨λ_=> ?_,λh=>by cases h⟩;conv=>whnf
 rw[dO,decide_eq_true hb];refine⟨.val (.bool true),[],[],[],nK rfl (ai rfl) (λ_=>ai rfl) (λhb=>by cases hb) rfl (c2:=.any),aF,ak,ar, ?_⟩;conv=>whnf
 refine⟨λ_=> ?_,λh=>by cases h⟩;conv=>whnf
 rw[cD ha,cD hb];refine⟨[],_,[],[],KX a b ha hb,aF,ak,ar, ?_⟩;rw[Υ h,Ϯ h];conv=>whnf
 refine⟨λ_=> ?_,λh=>by cases h⟩;conv=>whnf
 exact Ax h
theorem aes (a b:Nat) (ha:a<18446744073709551616) (h:b<=a):
  C0 149 [.nat a,.nat b] (.bQ [.nat (a - b),.val (.bool true)]):=by
 have hb:b<18446744073709551616:=aa;refine bB [] Tryz.func149 ?_;intro W0 w0 ρ0 hE;conv=>whnf
 refine⟨[],_,[],[],Pp a b ha hb,aF,ak,ar, ?_⟩;have hs:decide (((a:Int) - b).sign<0)=false:=by
  rw[decide_eq_false_iff_not,amr];exact akT.2 aa
 conv=>whnf
 rw[hs];refine⟨λh=>(by cases h),λ_=> ?_⟩;conv=>whnf
 rw[dO,decide_eq_true ha];refine⟨λ_=> ?_,λh=>by cases h⟩;conv=>whnf
 refine Gq (vO ?_ rfl aa) rfl (λ_ _ h=>h) rfl;rw[cD ha,cD hb,wrap_u64 aa aa];omega
theorem aet (a b:Nat) (ha:a<18446744073709551616) (hb:b<18446744073709551616) (h0:b≠0):
  C0 148 [.nat a,.nat b] (.bQ [.nat (a/b),.nat (a % b),.val (.bool true)]):=by
 refine bB [] Tryz.func148 ?_;intro W0 w0 ρ0 hE;conv=>whnf
 refine⟨[],_,[],[],yM b,aF,ak,ar, ?_⟩;rw[decide_eq_false h0];conv=>whnf
 refine⟨λh=>(by cases h),λ_=> ?_⟩;conv=>whnf
 refine⟨[],_,[],[],Pp a b ha hb,aF,ak,ar, ?_⟩;conv=>whnf
 refine⟨λh=> ?_,λh=> ?_⟩
 ·have aE:a<b:=by
   have h:=of_decide_eq_true h;have:=Int.sign_neg_iff.1 h;omega
  conv=>whnf
  refine⟨aD, ?_⟩;conv=>whnf
  rw[Ϯ aE,Υ aE];exact au.refl _
 ·have hle:b<=a:=by
   have h:=of_decide_eq_false h;have:=akT.1 (amr.1 h);omega
  conv=>whnf
  rw[dO,decide_eq_true ha];refine⟨λ_=> ?_,λh=>by cases h⟩;conv=>whnf
  rw[cD hb];refine⟨aa, ?_⟩;conv=>whnf
  refine⟨by rw[cD hb];omega, ?_⟩;conv=>whnf
  refine⟨aD, ?_⟩;conv=>whnf
  have hd:a/b<=a:=Nat.div_le_self a b;have hm:a % b<=a:=Nat.mod_le a b;refine xZ (vO ?_ rfl aa) rfl (vO ?_ rfl aa) rfl (λ_ _ h=>h) rfl
  ·rw[cD ha,show(a:Int).tdiv (b:Int)=((a/b:Nat):Int)from rfl,wrap_u64 (ak5 _) (by exact aiT.2 (ϓ hd ha))]
  ·rw[cD ha,cD hb];rfl
theorem Pq (a:Nat):C0 148 [.nat a,.nat 0] (.bQ [.nat 0,.nat 0,.val (.bool false)]):=by
 refine bB [] Tryz.func148 ?_;intro W0 w0 ρ0 hE;conv=>whnf
 refine⟨[],_,[],[],yM 0,aF,ak,ar, ?_⟩;conv=>whnf
 refine⟨λ_=> ?_,λh=>by cases h⟩;conv=>whnf
 exact au.refl _
theorem Pr (xs:List Int) (n:Nat) (hn:n<=xs.length) (hl:xs.length<4611686018427387904) (K:Nat) (wr:Bool):
  aL Tryz.prog 177 [.aM K 1 0 n] [(K,⟨23,wr,.ints .u32 xs⟩)] (.aM K 1 0 (ji xs n)) [] []:=by
 refine aL.vF ?_;refine gY (Z:=[]) aH bC Tryz.func177 rfl aD (args:=[.aM 0 1 0 n]) (fk:=[(0,⟨23,false,.ints .u32 xs⟩)]) (c:=.aM 0 1 0 (ji xs n)) (new:=[]) (upd:=[]) ?_ rfl (λ_=>K) ?_ ?_
 ·exact⟨rfl,rfl,rfl,rfl,rfl,(λ_ _ h=>by cases h),(λk b h hw=>by simp at h;rw[h.2]at hw;cases hw),rfl,rfl,rfl,rfl⟩
 ·exact⟨(λq q' b b' h h' a8=>by simp at h h';omega),(λ_ _ h=>by simp[az]at h),(λ_ _ h=>by simp[az]at h)⟩
 intro W0 w0 ρ0 hE;conv=>whnf
 refine av hE (λk=>k) [0] [0] (λm fr hp=>m<=n/\ji xs m=ji xs n/\fr=[(0,.aM 0 1 0 m)]/\hp=[(0,⟨23,false,.ints .u32 xs⟩)]) n ?_ ?_ ?_
 ·kernel_rfl
 ·exact⟨aa,rfl,rfl,rfl⟩
 rintro m _ _ ⟨hm,hc,rfl,rfl⟩;conv=>whnf
 refine⟨λh=> ?_,λh=> ?_⟩
 ·have h0:0<m:=by have:=of_decide_eq_true h;omega
  obtain⟨m,rfl⟩:∃k,m=k+1:=⟨m - 1,aa⟩;have hd:decide (((m+1:Nat):Int)>0)=true:=decide_eq_true aa;have hw:ε.wrap (((m+1:Nat):Int) - 1)=(m:Int):=by rw[wrap_i64 aa aa];omega
  rw[hd];conv=>whnf
  refine⟨λ_=> ?_,λh=>by cases h⟩;conv=>whnf
  refine⟨λ_=> ?_,λh=>by cases h⟩;conv=>whnf
  refine⟨λ_=> ?_,λh=>by cases h⟩;conv=>whnf
  refine⟨λ_=> ?_,λh=>by cases h⟩;conv=>whnf
  rw[hw];refine⟨⟨aa,aa⟩, ?_⟩;conv=>whnf
  refine⟨λ_=> ?_,λh=>by cases h⟩;conv=>whnf
  refine⟨aa, ?_⟩;conv=>whnf
  rw[show 0+(m:Int).toNat=m from by omega];refine⟨λ_=> ?_,λh=>by cases h⟩;conv=>whnf
  refine⟨.val (.bool (xs.getD m 0==0)),[],[],[],nK rfl (ai rfl) (λ_=>ai rfl) (λhb=>by cases hb) rfl (c2:=.any),aF,ak,ar, ?_⟩;conv=>whnf
  refine⟨λh=> ?_,λh=> ?_⟩
  ·have hx:xs.getD m 0=0:=by simpa using h
   conv=>whnf
   rw[hw];refine⟨aa, ?_⟩;conv=>whnf
   rw[show((m:Int) - 0).toNat=m from by omega];refine⟨m,λk=>k,[0],[0],aa,aD,aa, ?_,rfl,rfl⟩;rw[<-hc,ji,if_pos hx]
  ·have hx:¬xs.getD m 0=0:=by simpa using h
   conv=>whnf
   rw[<-hc,ji,if_neg hx];exact⟨au.refl _,(λ_ _ h=>by cases h),(λ_ _ h=>by cases h)⟩
 ·have h0:m=0:=by have:=of_decide_eq_false h;omega
  subst h0;rw[show decide (((0:Nat):Int)>0)=false from rfl];conv=>whnf
  iterate 6
   refine⟨λh=>(by cases h),λ_=> ?_⟩;conv=>whnf
  refine⟨.val (.bool false),[],[],[],nK rfl (ai rfl) (λhb=>by cases hb) (λ_=>ai rfl) rfl (c1:=.any),aF,ak,ar, ?_⟩;conv=>whnf
  refine⟨λh=>(by cases h),λ_=> ?_⟩;conv=>whnf
  rw[<-hc];exact⟨au.refl _,(λ_ _ h=>by cases h),(λ_ _ h=>by cases h)⟩
theorem Ps (xs:List Int) (hx:gQ xs) (i:Nat) (hi:i<2):
  ID .u64 (aA xs i) (lR .u64 (Ζ.wrap (xs.getD i 0)) ((32*i:Nat):Int))=aA xs (i+1):=by
 obtain⟨a0,a1⟩:=hx 0;obtain⟨b0,b1⟩:=hx 1;have hc:i=0\/i=1:=aa;rcases hc with rfl|rfl
 ·obtain⟨w,hw⟩:=Α a0;have e:lR .u64 (Ζ.wrap (xs.getD 0 0)) ((32*0:Nat):Int)=(w:Int):=by
   rw[hw,wrap_u64 aa aa];show Ζ.wrap ((w:Int)*1)=w;rw[aiE,wrap_u64 aa aa]
  rw[e,show aA xs 0=((0:Nat):Int)from rfl,yL aa aa,Nat.zero_or];simp only[aA,hw,ag1,aiE,aka]
 ·obtain⟨w,hw⟩:=Α b0;obtain⟨v,hv⟩:=Α a0;have e:lR .u64 (Ζ.wrap (xs.getD 1 0)) ((32*1:Nat):Int)=((4294967296*w:Nat):Int):=by
   rw[hw,wrap_u64 aa aa];show Ζ.wrap ((w:Int)*4294967296)=_;rw[wrap_u64 aa aa];omega
  have e1:aA xs 1=(v:Int):=by simp only[aA,hv,ag1,aiE,aka]
  have e2:aA xs (1+1)=((v+w*4294967296:Nat):Int):=by
   simp only[aA,hv,hw,ag1,aiE,aka,ϫ,aml];omega
  rw[e,e1,e2,yL aa aa,akF];have:=aep (i:=32) (b:=v) aa w;rw[show 4294967296*w=2^32*w from rfl,<-this];omega
def gE (xs:List Int):List Int:=xs.flatMap λx=>(bJ x.toNat).map λb=>((b.toNat:Nat):Int)
theorem Ay (xs:List Int):(gE xs).length=4*xs.length:=by
 induction xs with
 |nil=>rfl
 |cons x xs ih=>
  rw[gE,abi,ξ,<-gE,ih];simp[bJ];omega
theorem Gz {xs:List Int} {i:Nat} (h:i<xs.length):gE (xs.take (i+1))=gE (xs.take i)++gE [xs.getD i 0]:=by
 rw[aij,gE,List.flatMap_append];have:xs[i]? =some (xs.getD i 0):=by rw[δ,φ h];rfl
 rw[this];rfl
theorem Vu (n:Nat):abO.wrap (n:Int)=((n % 256:Nat):Int):=by simp[agE,abG,aen]
theorem Jh {x:Int} (h0:0<=x):gE [x]=[abO.wrap x,abO.wrap (lG .u32 x 8),abO.wrap (lG .u32 x 16),abO.wrap (lG .u32 x 24)]:=by
 obtain⟨n,rfl⟩:=Α h0;have s8:lG .u32 (n:Int) 8=((n/256:Nat):Int):=jr .u32 (s:=8) ax;have s16:lG .u32 (n:Int) 16=((n/65536:Nat):Int):=jr .u32 (s:=16) ax;have s24:lG .u32 (n:Int) 24=((n/16777216:Nat):Int):=jr .u32 (s:=24) ax;rw[s8,s16,s24,Vu,Vu,Vu,Vu];simp only[gE,bJ,abi,List.flatMap_nil,ϲ,List.map_nil,ϣ,ι,aiL]
theorem GA {xs:List Int} (h:gQ xs):(gE xs).map (λv=>aal v.toNat)=(xs.map Int.toNat).flatMap bJ:=by
 induction xs with
 |nil=>rfl
 |cons x xs ih=>
  have hw:gQ xs:=λi=>by have:=h (i+1);simpa using this
  rw[gE,abi,List.map_append,<-gE,ih hw,ϲ,abi];congr 1;rw[alV];have:((λv:Int=>aal v.toNat)∘λb:UInt8=>((b.toNat:Nat):Int))=id:=by funext b;simp
  rw[this,ama]
theorem aa9 {xs:List Int} {k:Nat} (hx:gQ xs) (hk:k<=xs.length) (h2:2<k) (ht:xs.getD (k - 1) 0≠0):
  bU (aA xs k).toNat=[.int .u64 0,.string ⟨((gE (xs.take k)).map (λv=>aal v.toNat)).toArray⟩]:=by
 have h1:=Am k xs hx hk (.inr ht);obtain⟨j,rfl⟩:∃j,k=j+1:=⟨k - 1,aa⟩;have KD:=vI hx (k:=j) (by simpa using ht);have hp:(4294967296:Int)^2<=4294967296^j:=by
  have:(4294967296:Nat)^2<=4294967296^j:=ύ ax aa;rw[<-db,<-db];exact ak6.2 this
 have q9:¬(aA xs (j+1)).toNat<18446744073709551616:=by
  have:(4294967296:Int)^2=18446744073709551616:=ax;omega
 have hw:gQ (xs.take (j+1)):=λi=>by
  rw[getD_take];split
  ·exact hx i
  ·decide
 simp only[bU,low,sQ,q9,if_false];rw[GA hw,<-h1,af,alV];have:(Int.toNat∘Int.ofNat)=id:=by funext n;rfl
 rw[this,ama]
theorem xg (xs:List Int) (n:Nat) (hn:n<=xs.length) (hl:xs.length<1099511627776) (hx:gQ xs) (K:Nat) (wr:Bool):
  aL Tryz.prog 154 [.aM K 1 0 n] [(K,⟨23,wr,.ints .u32 xs⟩)] (.nat (aA xs n).toNat) [] []:=by
 refine aL.vF ?_;refine gY (Z:=[]) aH bC Tryz.func154 rfl aD (args:=[.aM 0 1 0 n]) (fk:=[(0,⟨23,false,.ints .u32 xs⟩)]) (c:=.nat (aA xs n).toNat) (new:=[]) (upd:=[]) ?_ rfl (λ_=>K) ?_ ?_
 ·exact⟨rfl,rfl,rfl,rfl,rfl,(λ_ _ h=>by cases h),(λk b h hw=>by simp at h;rw[h.2]at hw;cases hw),rfl,rfl,rfl,rfl⟩
 ·exact⟨(λq q' b b' h h' a8=>by simp at h h';omega),(λ_ _ h=>by simp[az]at h),(λ_ _ h=>by simp[az]at h)⟩
 intro W0 w0 ρ0 hE;conv=>whnf
 refine⟨_,_,[],[],Pr xs n hn aa 0 false,eB rfl,ak,ar, ?_⟩;have hle:=Em xs n;have uI:=Al xs n;rw[<-vH xs n];generalize ji xs n=k at*;conv=>whnf
 by_cases hk:k<=2
 ·have t1:decide ((k:Int)<=2)=true:=by simp;omega
  rw[t1]
  (repeat(first|(refine ag rfl rfl ?_;conv=>whnf)))
  refine av hE (λk=>k) [2,3,14,15,16] [0,2] (λm fr hp=>∃i,m=k - i/\i<=k/\fr=[(2,.ptr 2 0 0 0),(3,.val (.int .u64 (aA xs i))),(14,.aM 0 1 0 k),(15,.val (.int .i64 k)),(16,.val (.int .i64 (i:Nat)))]/\hp=[(0,⟨23,false,.ints .u32 xs⟩),(2,⟨43,true,.one [.nat 0]⟩)]) k ?_ ?_ ?_
  ·kernel_rfl
  ·exact⟨0,rfl,aa,rfl,rfl⟩
  rintro m _ _ ⟨i,rfl,hi,rfl,rfl⟩;conv=>whnf
  refine⟨λh=> ?_,λh=> ?_⟩
  ·have nz:i<k:=by have:=of_decide_eq_true h;omega
   conv=>whnf
   have hw:ε.wrap (32*(i:Int))=((32*i:Nat):Int):=by rw[wrap_i64 aa aa];omega
   have YI:ε.wrap ((i:Int)+1)=((i+1:Nat):Int):=by rw[wrap_i64 aa aa];omega
   (repeat(first|(refine Ξ Q5 ?_;conv=>whnf)|(rw[hw];conv=>whnf)))
   rw[show 0+(i:Int).toNat=i from aa,YI,Ps xs hx i aa];exact⟨k - (i+1),λk=>k,[2,3,14,15,16],[0,2],aa,aD,i+1,rfl,aa,rfl,rfl⟩
  ·have nz:i=k:=by have:=of_decide_eq_false h;omega
   subst nz;conv=>whnf
   have hb:=iG hx i;have h0:=cj hx i;have ie:(4294967296:Int)^i<=18446744073709551616:=by
    have:i=0\/i=1\/i=2:=aa;rcases this with rfl|rfl|rfl<;>decide
   obtain⟨v,hv⟩:=Α h0;rw[hv]at hb ⊢;exact⟨Ax aa,(λ_ _ h=>by cases h),(λ_ _ h=>by cases h)⟩
 ·have t1:decide ((k:Int)<=2)=false:=by simp;omega
  have e1:ε.wrap (4*(k:Int))=((4*k:Nat):Int):=by rw[wrap_i64 aa aa];omega
  (repeat((first|refine ae rfl rfl ?_|refine Ξ Q5 ?_|rw[t1]|rw[e1]);conv=>whnf))
  refine av hE (λk=>k) [2,6,35,36,37] [0,2,34] (λm fr hp=>∃i,m=k - i/\i<=k/\fr=[(2,.ptr 2 0 0 0),(6,.aM 34 1 0 (4*i)),(35,.aM 0 1 0 k),(36,.val (.int .i64 k)),(37,.val (.int .i64 (i:Nat)))]/\hp=[(0,⟨23,false,.ints .u32 xs⟩),(2,⟨43,true,.one [.nat 0]⟩),(34,⟨5,true,.ints .u8 (gE (xs.take i))⟩)]) k ?_ ?_ ?_
  ·kernel_rfl
  ·exact⟨0,rfl,aa,rfl,rfl⟩
  rintro m _ _ ⟨i,rfl,hi,rfl,rfl⟩;conv=>whnf
  refine⟨λh=> ?_,λh=> ?_⟩
  ·have nz:i<k:=by have:=of_decide_eq_true h;omega
   conv=>whnf
   have hb:=hx i;have hlen:(gE (xs.take i)).length=4*i:=by rw[Ay,ψ];omega
   have YI:ε.wrap ((i:Int)+1)=((i+1:Nat):Int):=by rw[wrap_i64 aa aa];omega
   have hs:=Gz (xs:=xs) (i:=i) aa;rw[Jh hb.1]at hs
   (repeat(first|(refine Ξ Q5 ?_;conv=>whnf)|(rw[show 0+(i:Int).toNat=i from by omega];conv=>whnf)))
   (repeat(first|(rw[YI];conv=>whnf)))
   refine⟨k - (i+1),dA [(54,34)],[2,6,35,36,37],[0,2,54],aa,aD,i+1,rfl,aa,rfl, ?_⟩;rw[hs]
   conv=>lhs;whnf
   rw[<-hlen,adi];rfl
  ·have nz:i=k:=by have:=of_decide_eq_false h;omega
   subst nz;conv=>whnf
   have hlen:(gE (xs.take i)).length=4*i:=by rw[Ay,ψ];omega
   refine⟨_,[(34,⟨5,true,.ints .u8 (gE (xs.take i))⟩)],[],Gd (P:=Tryz.prog) (i:=0) (n:=4*i) rfl (ai rfl) (aH.get (t:=221) rfl) rfl (aH.get (t:=5) rfl) rfl (aH.get (t:=9) rfl) rfl (η ..) aa,eB rfl,ak, ?_⟩;rw[afg,<-hlen,adi];conv=>whnf
   skip
   refine⟨fb (l:=bU (aA xs i).toNat) ?_ rfl (λ_ h=>by cases h),(λ_ _ h=>by cases h),(λ_ _ h=>by cases h)⟩;rw[aa9 hx aa aa (uI.resolve_left aa)];rfl
theorem aeu (n:Nat):n&&& 4294967295=n % 4294967296:=by
 have:=Nat.and_two_pow_sub_one_eq_mod n 32;simpa using this
theorem Ep {n:Nat} (h:n<18446744073709551616):DU .u64 (n:Int) 4294967295=((n % 4294967296:Nat):Int):=by
 have:=O1 (x:=n) (y:=4294967295) h ax;rw[aeu]at this;exact this
theorem gR (n:Nat):lG .u64 (n:Int) 32=((n/4294967296:Nat):Int):=jr .u64 (s:=32) ax
theorem aba (x y:Nat):
  x/4294967296*(y/4294967296)+(x/4294967296*(y % 4294967296)+x % 4294967296*(y % 4294967296)/4294967296)/4294967296+((x/4294967296*(y % 4294967296)+x % 4294967296*(y % 4294967296)/4294967296) % 4294967296+x % 4294967296*(y/4294967296))/4294967296=x*y/18446744073709551616:=by
 have e1:x*y=(x/4294967296*(y/4294967296))*18446744073709551616+(x/4294967296*(y % 4294967296))*4294967296+(x % 4294967296*(y/4294967296))*4294967296+x % 4294967296*(y % 4294967296):=by
  have sU:x=4294967296*(x/4294967296)+x % 4294967296:=aa;have IU:y=4294967296*(y/4294967296)+y % 4294967296:=aa;generalize x/4294967296=a at*;generalize x % 4294967296=b at*;generalize y/4294967296=c at*;generalize y % 4294967296=d at*;rw[sU,IU,gx,afm,afm,Nat.mul_mul_mul_comm,Ϛ 4294967296 a d,ai3 b 4294967296 c];omega
 generalize x/4294967296*(y/4294967296)=A at*;generalize x/4294967296*(y % 4294967296)=B at*;generalize x % 4294967296*(y/4294967296)=C at*;generalize x % 4294967296*(y % 4294967296)=D at*;omega
theorem Vv (x y:Nat) (hx:x<18446744073709551616) (hy:y<18446744073709551616):
  C0 153 [.val (.int .u64 x),.val (.int .u64 y)] (.bQ [.val (.int .u64 (x*y/18446744073709551616:Nat)),.val (.int .u64 (x*y % 18446744073709551616:Nat))]):=by
 refine bB [] Tryz.func153 ?_;intro W0 w0 ρ0 hE;conv=>whnf
 iterate 5
  refine⟨ax, ?_⟩;conv=>whnf
 have hh:=aba x y;have elo:Ζ.wrap ((x:Int)*y)=((x*y % 18446744073709551616:Nat):Int):=by rw[rW,<-Ρ];omega
 rw[elo,gR x,gR y,Ep hx,Ep hy];have ba:x/4294967296<=4294967295:=aa;have bb:x % 4294967296<=4294967295:=aa;have bc:y/4294967296<=4294967295:=aa;have bd:y % 4294967296<=4294967295:=aa;generalize x/4294967296=a at*;generalize x % 4294967296=b at*;generalize y/4294967296=c at*;generalize y % 4294967296=d at*;have pac:=Ϧ ba bc;have pad:=Ϧ ba bd;have pbc:=Ϧ bb bc;have pbd:=Ϧ bb bd;have wu:∀{n:Nat},n<18446744073709551616->Ζ.wrap (n:Int)=n:=λh=>wrap_u64 aa aa
 rw[<-Ρ,<-Ρ,<-Ρ,<-Ρ,wu (n:=a*c) aa,wu (n:=a*d) aa,wu (n:=b*d) aa,wu (n:=b*c) aa,gR (b*d),<-Ϫ,wu (n:=a*d+b*d/4294967296) aa,gR,Ep aa,<-Ϫ,<-Ϫ,wu (n:=a*c+(a*d+b*d/4294967296)/4294967296) aa,wu (n:=(a*d+b*d/4294967296) % 4294967296+b*c) aa,gR,<-Ϫ,hh,wu aa];exact au.refl _
theorem eY {n:Nat} (h:n<18446744073709551616):Ζ.wrap (n:Int)=n:=wrap_u64 aa aa
theorem qw {n:Nat} (h:n<4294967296):Φ.wrap (n:Int)=n:=wrap_u32 aa aa
theorem rf (n:Nat):Φ.wrap (n:Int)=((n % 4294967296:Nat):Int):=by rw[wrap_u32'];omega
theorem nP (x y c:Nat) (hx:x<4294967296) (hy:y<4294967296) (hc:c<=1):
  C0 197 [.val (.int .u32 x),.val (.int .u32 y),.val (.int .u32 c)] (.bQ [.val (.int .u32 ((x+y+c) % 4294967296:Nat)),.val (.int .u32 ((x+y+c)/4294967296:Nat))]):=by
 have e1:Ζ.wrap (Ζ.wrap (Ζ.wrap (x:Int)+Ζ.wrap (y:Int))+Ζ.wrap (c:Int))=((x+y+c:Nat):Int):=by
  rw[eY (n:=x) aa,eY (n:=y) aa,eY (n:=c) aa,<-Ϫ,eY aa,<-Ϫ,eY aa]
 have e2:Φ.wrap (lG .u64 ((x+y+c:Nat):Int) 32)=(((x+y+c)/4294967296:Nat):Int):=by rw[gR,qw aa]
 refine bB [] Tryz.func197 ?_;intro W0 w0 ρ0 hE;conv=>whnf
 (repeat(first|(refine Ξ Q5 ?_;conv=>whnf)))
 rw[e1,e2,rf];exact au.refl _
theorem yO {x y:Nat} (hx:x<4294967296) (hy:y<4294967296):ID .u32 x y=((x|||y:Nat):Int):=by
 have:x|||y<4294967296:=ali (n:=32) hx hy
 have e1:(acN Φ.bits (x:Int)).toNat=x:=by simp[agV,abG];omega
 have e2:(acN Φ.bits (y:Int)).toNat=y:=by simp[agV,abG];omega
 rw[ID,BitVec.toNat_or,e1,e2];exact qw this
theorem Az {x y:Nat} (hx:x<4294967296) (hy:y<4294967296):B4 .u32 x y=((x^^^y:Nat):Int):=by
 have:x^^^y<4294967296:=ahs (n:=32) hx hy;have e1:(acN Φ.bits (x:Int)).toNat=x:=by simp[agV,abG];omega
 have e2:(acN Φ.bits (y:Int)).toNat=y:=by simp[agV,abG];omega
 rw[B4,BitVec.toNat_xor,e1,e2];exact qw this
theorem aev {n:Nat} (h:n<4294967296):n/2147483648=if n.testBit 31 then 1 else 0:=by
 rw[ai5];simp only[ahy,decide_eq_true_eq];split<;>omega
theorem KY {n:Nat} (h:n<4294967296):n.testBit 31=decide (2147483648<=n):=by
 rw[ai5,decide_eq_decide];simp only[ahy];omega
theorem borrow (x y c:Nat) (hx:x<4294967296) (hy:y<4294967296) (hc:c<=1):
  ((((4294967295^^^x)&&& y)|||((4294967295^^^(x^^^y))&&& ((x+4294967296 - y - c) % 4294967296)))/2147483648:Nat)=if x<y+c then 1 else 0:=by
 have hd:(x+4294967296 - y - c) % 4294967296<4294967296:=ab8 _ ax;rw[aev (ali (n:=32) (ahu (n:=32) _ hy) (ahu (n:=32) _ hd)),Nat.testBit_or,alE,alE,ajx,ajx,ajx,KY hx,KY hy,KY hd,KY (n:=4294967295) ax];by_cases h1:2147483648<=x<;>by_cases h2:2147483648<=y<;>simp[h1,h2]<;>(try split)<;>(try split)<;>omega
theorem Er (x y c:Nat) (hx:x<4294967296) (hy:y<4294967296) (hc:c<=1):
  C0 195 [.val (.int .u32 x),.val (.int .u32 y),.val (.int .u32 c)] (.bQ [.val (.int .u32 ((x+4294967296 - y - c) % 4294967296:Nat)),.val (.int .u32 ((if x<y+c then 1 else 0:Nat)))]):=by
 have hd:(x+4294967296 - y - c) % 4294967296<4294967296:=ab8 _ ax;have e1:Φ.wrap (Φ.wrap ((x:Int) - y) - c)=(((x+4294967296 - y - c) % 4294967296:Nat):Int):=by rw[wrap_u32',wrap_u32'];omega
 have hb:=borrow x y c hx hy hc;have e2:B4 .u32 (if Φ.signed=true then -1 else Φ.max) (x:Int)=((4294967295^^^x:Nat):Int):=Az (x:=4294967295) ax hx;have YJ:x^^^y<4294967296:=ahs (n:=32) hx hy;have e3:B4 .u32 (x:Int) y=((x^^^y:Nat):Int):=Az hx hy;have e4:B4 .u32 (if Φ.signed=true then -1 else Φ.max) ((x^^^y:Nat):Int)=((4294967295^^^(x^^^y):Nat):Int):=Az (x:=4294967295) ax YJ;have Pt:4294967295^^^x<4294967296:=ahs (n:=32) ax hx;have agW:4294967295^^^(x^^^y)<4294967296:=ahs (n:=32) ax YJ;have e5:DU .u32 ((4294967295^^^x:Nat):Int) y=(((4294967295^^^x)&&& y:Nat):Int):=Gr Pt hy;have e6:DU .u32 ((4294967295^^^(x^^^y):Nat):Int) (((x+4294967296 - y - c) % 4294967296:Nat):Int)=(((4294967295^^^(x^^^y))&&& ((x+4294967296 - y - c) % 4294967296):Nat):Int):=Gr agW hd;have e7:=yO (ahu (n:=32) (4294967295^^^x) hy) (ahu (n:=32) (4294967295^^^(x^^^y)) hd);have e8:∀n:Nat,lG .u32 (n:Int) 31=((n/2147483648:Nat):Int):=λn=>jr .u32 (s:=31) ax
 refine bB [] Tryz.func195 ?_;intro W0 w0 ρ0 hE;conv=>whnf
 (repeat(first|(refine Ξ Q5 ?_;conv=>whnf)))
 rw[e1,e2,e3,e4,e5,e6,e7,e8,hb];exact au.refl _
theorem Vw (h l y:Nat) (hh:h<y) (hl:l<4294967296) (hy:y<4294967296):
  C0 209 [.val (.int .u32 h),.val (.int .u32 l),.val (.int .u32 y)] (.bQ [.val (.int .u32 ((h*4294967296+l)/y:Nat)),.val (.int .u32 ((h*4294967296+l) % y:Nat))]):=by
 have t1:(((y:Nat):Int) != 0)=true:=by simp;omega
 have t2:decide ((y:Int)<=(h:Int))=false:=by simp;omega
 have e1:lR .u64 (Ζ.wrap (h:Int)) 32=((h*4294967296:Nat):Int):=by
  rw[eY aa];show Ζ.wrap ((h:Int)*4294967296)=_;rw[show(h:Int)*4294967296=((h*4294967296:Nat):Int)from aa,eY aa]
 have e2:ID .u64 ((h*4294967296:Nat):Int) (l:Int)=((h*4294967296+l:Nat):Int):=by
  rw[yL aa aa,Ϣ,<-aep (i:=32) (b:=l) aa h]
 have hq:(h*4294967296+l)/y<4294967296:=afX (by
  have:=ο 4294967296 (show h+1<=y by omega)
  rw[Ϣ y];omega)
 have hr:(h*4294967296+l) % y<y:=ab8 _ aa;have e3:((h*4294967296+l:Nat):Int).tdiv (y:Int)=(((h*4294967296+l)/y:Nat):Int):=rfl;have e4:((h*4294967296+l:Nat):Int).tmod (y:Int)=(((h*4294967296+l) % y:Nat):Int):=rfl;refine bB [] Tryz.func209 ?_;intro W0 w0 ρ0 hE;conv=>whnf
 (repeat((first|refine ag rfl rfl ?_|refine ae rfl rfl ?_|refine aq aD ?_|refine Ξ Q5 ?_|refine an er ?_|rw[t1]|rw[t2]|rw[e1]|rw[eY (n:=l) aa]|rw[eY (n:=y) aa]|rw[e2]|rw[e3]|rw[e4]|rw[eY (n:=(h*4294967296+l)/y) aa]|rw[qw hq]|rw[qw (n:=(h*4294967296+l) % y) aa]);conv=>whnf));exact au.refl _
theorem aew {n k:Nat} (h0:2^k<=n) (h1:n<2^(k+1)):sz n=k+1:=by
 have:=eW.2 h1;have h2:¬sz n<=k:=λh=>by have:=eW.1 h;omega
 omega
theorem AE {n k:Nat} (h:0<n/2^k):sz n=sz (n/2^k)+k:=by
 generalize hm:n/2^k=m at*;have Ux:m≠0:=aa;obtain⟨j,hj⟩:∃j,sz m=j+1:=⟨sz m - 1,by have:=O2 Ux;omega⟩;have h1:m<2^(j+1):=eW.1 aa;have h2:2^j<=m:=by
  refine Nat.le_of_not_lt λh=> ?_
  have:=eW.2 h;omega
 have hd:=abp n (2^k);have hl:=ab8 n (aeo k);rw[hm]at hd;rw[hj,aew (n:=n) (k:=j+k)]
 ·omega
 ·rw[acU];have:=ϧ (2^k) h2;rw[Ϣ (2^j)];omega
 ·rw[show j+k+1=k+(j+1)from aa,acU];have:=ϧ (2^k) (show m+1<=2^(j+1)from h1);rw[afm,alp]at this;omega
def Es (s:ByteArray):Bool:=decide (s.size=256)&&(List.range 256).all (λj=>s.data.getD j 0==aal (sz j))
theorem r8 {s:ByteArray} {j:Nat} (hj:j<256) (hs:Es s=true):(0<=(j:Int)/\(j:Int)<(s.size:Int)):=by
 simp only[Es,Μ,decide_eq_true_eq]at hs;omega
theorem YK:∀j,j<256->sz j<256:=λj hj=>ϓ (eW.2 (show j<2^8 from hj)) ax
theorem yP {s:ByteArray} {j:Nat} (hj:j<256) (hs:Es s=true):(s.data.getD (j:Int).toNat 0).toNat=sz j:=by
 simp only[Es,Μ,decide_eq_true_eq,List.all_eq_true,List.mem_range,beq_iff_eq]at hs;rw[ι,hs.2 j hj];have:=YK j hj;simp only[aiL];omega
theorem wu8 {n:Nat} (h:n<256):abO.wrap (n:Int)=n:=by simp[agE,abG,aen];omega
theorem aex {n:Nat} (h:n<9223372036854775808):ε.wrap (n:Int)=n:=wrap_i64 aa aa
theorem Et (x:Nat) (hx:x<4294967296):
  C0 198 [.val (.int .u32 x)] (.val (.int .i64 (sz x))):=by
 have s16:lG .u32 (x:Int) 16=((x/65536:Nat):Int):=jr .u32 (s:=16) ax;have s8:∀y:Nat,lG .u32 (y:Int) 8=((y/256:Nat):Int):=λy=>jr .u32 (s:=8) ax
 have fin:∀(j:Nat) (k:Int),j<256->(sz x:Int)=sz j+k->0<=k->k<=24->ε.wrap (k+ε.wrap ((sz j:Nat):Int))=(sz x:Nat):=λj k hj h hk kQ=>by
  have:=YK j hj;rw[aex (n:=sz j) aa,wrap_i64 aa aa];omega
 refine bB [] Tryz.func198 ?_;intro W0 w0 ρ0 hE;conv=>whnf
 by_cases h1:65536<=x
 ·have t1:decide ((x:Int)>=65536)=true:=by simp;omega
  by_cases h2:256<=x/65536
  ·have t2:decide (((x/65536:Nat):Int)>=256)=true:=by simp;omega
   (repeat((first|refine ag rfl rfl ?_|refine Ξ Q5 ?_|rw[t1]|rw[s16]|rw[t2]|rw[s8]|rw[wu8 (n:=x/65536/256) aa]);conv=>whnf))
   refine⟨r8 aa aD, ?_⟩;conv=>whnf
   skip
   rw[yP (j:=x/65536/256) aa,show ε.wrap (ε.wrap (16+8)+ε.wrap ((sz (x/65536/256):Nat):Int))=ε.wrap (24+ε.wrap ((sz (x/65536/256):Nat):Int))from rfl,fin (x/65536/256) 24 aa ?_ aa aa]
   ·exact au.refl _
   ·rw[AE (n:=x) (k:=24) aa,ϔ];rfl
   ·kernel_rfl
  ·have t2:decide (((x/65536:Nat):Int)>=256)=false:=by simp;omega
   (repeat((first|refine ag rfl rfl ?_|refine ae rfl rfl ?_|refine Ξ Q5 ?_|rw[t1]|rw[s16]|rw[t2]|rw[wu8 (n:=x/65536) aa]);conv=>whnf))
   refine⟨r8 aa aD, ?_⟩;conv=>whnf
   skip
   rw[yP (j:=x/65536) aa,fin (x/65536) 16 aa ?_ aa aa]
   ·exact au.refl _
   ·rw[AE (n:=x) (k:=16) aa];rfl
   ·kernel_rfl
 ·have t1:decide ((x:Int)>=65536)=false:=by simp;omega
  by_cases h2:256<=x
  ·have t2:decide ((x:Int)>=256)=true:=by simp;omega
   (repeat((first|refine ag rfl rfl ?_|refine ae rfl rfl ?_|refine Ξ Q5 ?_|rw[t1]|rw[t2]|rw[s8]|rw[wu8 (n:=x/256) aa]);conv=>whnf))
   refine⟨r8 aa aD, ?_⟩;conv=>whnf
   skip
   rw[yP (j:=x/256) aa,show ε.wrap (0+8)=8 from rfl,fin (x/256) 8 aa ?_ aa aa]
   ·exact au.refl _
   ·rw[AE (n:=x) (k:=8) aa];rfl
   ·kernel_rfl
  ·have t2:decide ((x:Int)>=256)=false:=by simp;omega
   (repeat((first|refine ae rfl rfl ?_|rw[t1]|rw[t2]|rw[wu8 (n:=x) aa]);conv=>whnf))
   refine⟨r8 aa aD, ?_⟩;conv=>whnf
   skip
   rw[yP (j:=x) aa,fin x 0 aa aa aa aa]
   ·exact au.refl _
   ·kernel_rfl
theorem abb (x:Nat) (hx:x<4294967296):
  C0 217 [.val (.int .u32 x)] (.val (.int .i64 ((32 - sz x:Nat)))):=by
 have k1:=Et x hx;have:=eW.2 (show x<2^32 from hx);have e:ε.wrap (32 - ((sz x:Nat):Int))=((32 - sz x:Nat):Int):=by rw[wrap_i64 aa aa];omega
 refine bB [] Tryz.func217 ?_;intro W0 w0 ρ0 hE;conv=>whnf
 (repeat(first|(refine aN aJ ?_;conv=>whnf)|(rw[e];conv=>whnf)))
 exact au.refl _
def cC (n:Nat):List Int:=if n<18446744073709551616 then[((n % 4294967296:Nat):Int),((n/4294967296:Nat):Int)]else af n
theorem cN (n:Nat):(af n).length<=(cC n).length:=by
 unfold cC;split
 ·rename_i h;exact iX (k:=2) (by simpa using h)
 ·exact ζ _
theorem Ji {n:Nat} (h:n<18446744073709551616):cC n=[((n % 4294967296:Nat):Int),((n/4294967296:Nat):Int)]:=by rw[cC,if_pos h]
theorem oM (n:Nat):gQ (cC n):=by
 unfold cC;split
 ·refine El λx hx=> ?_
  simp only[Λ,afT,or_false]at hx;rcases hx with rfl|rfl<;>omega
 ·exact aY n
theorem M9 {n:Nat} (h:n<18446744073709551616):ji [((n % 4294967296:Nat):Int),((n/4294967296:Nat):Int)] 2=(af n).length:=by
 have e1:∀m:Nat,m<4294967296->m≠0->af m=[(m:Int)]:=λm hm h0=>by
  rw[iM h0,Υ hm,Ϯ hm,iL]
 by_cases h1:n/4294967296=0
 ·by_cases h2:n=0
  ·subst h2;rfl
  ·rw[e1 n aa h2];have:n % 4294967296≠0:=aa;simp[ji,h1];omega
 ·have hn:n≠0:=aa;rw[iM hn,e1 _ aa h1];simp[ji];omega
theorem GB {n:Nat} (h:n<18446744073709551616) (hn:n≠0):af n=if n/4294967296=0 then[((n % 4294967296:Nat):Int)]else[((n % 4294967296:Nat):Int),((n/4294967296:Nat):Int)]:=by
 rw[iM hn];split
 ·rename_i h1;rw[h1,iL]
 ·rename_i h1;rw[iM h1,Ϯ (a:=n/4294967296) aa,iL,Υ (a:=n/4294967296) aa]
theorem eH {n i:Nat} (hi:i<(af n).length):(cC n).getD i 0=(af n).getD i 0:=by
 unfold cC;split
 ·rename_i h;have hn:n≠0:=λh0=>by subst h0;simp[iL]at hi
  rw[GB h hn]at hi ⊢;split at hi
  ·rename_i h1;obtain rfl:i=0:=by simpa using hi
   rw[if_pos h1];rfl
  ·rename_i h1;rw[if_neg h1]
 ·rfl
theorem AF (n:Nat):aA (cC n) (af n).length=n:=by
 rw[uG (ys:=af n) (λi hi=>eH hi),fJ]
theorem xh (n:Nat) (K:Nat) (h:n<18446744073709551616):
  aL Tryz.prog 155 [.nat n] [] (.aM K 1 0 (af n).length) [(K,⟨23,true,.ints .u32 (cC n)⟩)] []:=by
 rw[Ji h];refine gY (Z:=[]) aH bC Tryz.func155 rfl aD (args:=[.nat n]) (fk:=[]) (c:=.aM 16 1 0 (af n).length) (new:=[(16,⟨23,true,.ints .u32 [((n % 4294967296:Nat):Int),((n/4294967296:Nat):Int)]⟩)]) (upd:=[]) ?_ rfl (λ_=>K) ?_ ?_
 ·exact⟨rfl,rfl,rfl,rfl,rfl,(λ_ _ h=>by cases h),(λk b h hw=>by cases h),rfl,rfl,rfl,rfl⟩
 ·exact⟨(λq q' b b' h h' a8=>by cases h),(λm m' h1 h2 a8=>by simp[az]at h1 h2;omega),(λ_ _ h1 h2=>by simp[az]at h2)⟩
 intro W0 w0 ρ0 hE;conv=>whnf
 rw[dO,decide_eq_true h];have e1:Φ.wrap (n:Int)=((n % 4294967296:Nat):Int):=rf n;have e2:Φ.wrap (lG .u64 (n:Int) 32)=((n/4294967296:Nat):Int):=by rw[gR,qw aa]
 (repeat((first|refine ag rfl rfl ?_|refine Ξ Q5 ?_|rw[cD h]|rw[e1]|rw[e2]);conv=>whnf))
 refine⟨_,_,[],[],Pr [((n % 4294967296:Nat):Int),((n/4294967296:Nat):Int)] 2 (ζ 2) (by simp) 16 true,eB rfl,ak,ar, ?_⟩;rw[M9 h];conv=>whnf
 skip
 exact⟨au.refl _,vM rfl,(λ_ _ h=>by cases h)⟩
theorem aey (l:List Nat) (i k:Nat) (hk:k<4):(l.flatMap bJ).getD (4*i+k) 0=if i<l.length then(bJ (l.getD i 0)).getD k 0 else 0:=by
 induction l generalizing i with
 |nil=>simp
 |cons x l ih=>
  have h4:(bJ x).length=4:=rfl;rw[abi];cases i with
  |zero=>
   rw[δ,List.getElem?_append_left aa,Nat.mul_zero,υ,if_pos (by simp),aeL,δ]
  |succ i=>
   have:=ih i;rw[δ]at this;rw[δ,List.getElem?_append_right aa,h4,show 4*(i+1)+k - 4=4*i+k from aa,this,abt];simp
theorem Pu {n i k:Nat} (h:¬n<18446744073709551616) (hi:i<(af n).length) (hk:k<4):
  (((sQ n).data.getD (4*i+k) 0).toNat:Int)=(af n).getD i 0/256^k % 256:=by
 have q9:sQ n=⟨((words n).flatMap bJ).toArray⟩:=by simp[sQ,h]
 have e1:(af n).getD i 0=(((words n).getD i 0:Nat):Int):=by
  simp only[af,δ,List.getElem?_map];cases (words n)[i]? <;>rfl
 have nz:i<(words n).length:=by rw[<-vK];exact hi
 rw[q9,e1];show((((words n).flatMap bJ).toArray.getD (4*i+k) 0).toNat:Int)=_;have e2:((words n).flatMap bJ).toArray.getD (4*i+k) 0=((words n).flatMap bJ).getD (4*i+k) 0:=by
  rw[Array.getD_eq_getD_getElem?,δ];simp
 rw[e2,aey _ _ _ hk,if_pos nz];have hc:k=0\/k=1\/k=2\/k=3:=aa;rcases hc with rfl|rfl|rfl|rfl<;>simp[bJ,aiL]<;>omega
theorem Pv {n:Nat} (h:¬n<18446744073709551616):(sQ n).size=4*(af n).length:=by
 have q9:sQ n=⟨((words n).flatMap bJ).toArray⟩:=by simp[sQ,h]
 rw[q9,vK];show((words n).flatMap bJ).toArray.size=_;rw[List.size_toArray];generalize words n=l;induction l with
 |nil=>rfl
 |cons x l ih=>rw[abi,ξ,ih,ϊ,show(bJ x).length=4 from rfl];omega
theorem Vx {x:Int} {k:Nat} (hx:0<=x/\x<4294967296) (hk:k<4):
  ID .u32 (x % 256^k) (lR .u32 (Φ.wrap (x/256^k % 256)) ((8*k:Nat):Int))=x % 256^(k+1):=by
 obtain⟨n,rfl⟩:=Α hx.1;have key:∀(p:Nat) (s:Nat),s<=24->p=2^s->ID .u32 ((n % p:Nat):Int) (lR .u32 (((n/p % 256:Nat)):Int) (s:Int))=((n % (p*256):Nat):Int):=by
  intro p s hs hp;have jh:0<p:=by rw[hp];exact aeo s
  have aez:p<=16777216:=by rw[hp];exact Ι (ύ ax hs) ax
  have h1:n % p<p:=ab8 _ jh;have h2:n/p % 256<256:=ab8 _ ax;have e:lR .u32 (((n/p % 256:Nat)):Int) (s:Int)=((p*(n/p % 256):Nat):Int):=by
   have Pw:min (s:Int).toNat Φ.bits=s:=by simp[abG];omega
   rw[lR,Pw];have:((n/p % 256:Nat):Int)*2^s=((p*(n/p % 256):Nat):Int):=by
    rw[Ρ,hp,ae1,Int.mul_comm];rfl
   rw[this];refine qw ?_;have:=Ϧ aez (show n/p % 256<=255 by omega);omega
  have aE:p*(n/p % 256)<4294967296:=by
   have:=Ϧ aez (show n/p % 256<=255 by omega);omega
  rw[e,yO aa aE,akF,hp,<-aep (by rw[<-hp];exact h1),<-hp,Nat.mod_mul,afk]
 have hp:(256:Int)^k=((256^k:Nat):Int):=by rw[ae1];rfl
 have cl:(256:Int)^(k+1)=((256^k*256:Nat):Int):=by rw[<-ϙ,ae1];rfl
 have:=key (256^k) (8*k) aa (by rw[ajl]);rw[hp,cl];simp only[<-als,<-Int.natCast_ediv];rw[show(((n/256^k:Nat):Int) % 256)=((n/256^k % 256:Nat):Int)from by rw[als];rfl,qw aa];exact this
theorem Na (n:Nat) (K:Nat) (h:¬n<18446744073709551616) (hl:(af n).length<1099511627776):
  aL Tryz.prog 155 [.nat n] [] (.aM K 1 0 (af n).length) [(K,⟨23,true,.ints .u32 (cC n)⟩)] []:=by
 rw[show cC n=af n from if_neg h];refine gY (Z:=[]) aH bC Tryz.func155 rfl aD (args:=[.nat n]) (fk:=[]) (c:=.aM 22 1 0 (af n).length) (new:=[(22,⟨23,true,.ints .u32 (af n)⟩)]) (upd:=[]) ?_ rfl (λ_=>K) ?_ ?_
 ·exact⟨rfl,rfl,rfl,rfl,rfl,(λ_ _ h=>by cases h),(λk b h hw=>by cases h),rfl,rfl,rfl,rfl⟩
 ·exact⟨(λq q' b b' h h' a8=>by cases h),(λm m' h1 h2 a8=>by simp[az]at h1 h2;omega),(λ_ _ h1 h2=>by simp[az]at h2)⟩
 intro W0 w0 ρ0 hE;conv=>whnf
 rw[dO,decide_eq_false h];have hs:=Pv h;have eL:ε.wrap (((sQ n).size:Int).tdiv 4)=((af n).length:Int):=by
  rw[hs,show((4*(af n).length:Nat):Int)=4*((af n).length:Int)from aa,Int.mul_tdiv_cancel_left _ ax,aex aa]
 have hb:=λi k hi hk=>Pu (n:=n) (i:=i) (k:=k) h hi hk
 have agX:=aY n;generalize hw:af n=ws at*
 (repeat(first|(refine ae rfl rfl ?_;conv=>whnf)|(refine Ξ Q5 ?_;conv=>whnf)|(rw[eL];conv=>whnf)))
 refine av hE (λk=>k) [1,3,24,25] [1,22] (λm fr hp=>∃i,m=ws.length - i/\i<=ws.length/\fr=[(1,.ptr 1 0 0 0),(3,.aM 22 1 0 ws.length),(24,.val (.int .i64 ws.length)),(25,.val (.int .i64 (i:Nat)))]/\hp=[(1,⟨43,true,.one [.nat n]⟩),(22,⟨23,true,.ints .u32 (ws.take i++θ (ws.length - i) 0)⟩)]) ws.length ?_ ?_ ?_
 ·kernel_rfl
 ·exact⟨0,rfl,aa,rfl,rfl⟩
 rintro m _ _ ⟨i,rfl,hi,rfl,rfl⟩;conv=>whnf
 refine⟨λh=> ?_,λh=> ?_⟩
 ·have nz:i<ws.length:=by have:=of_decide_eq_true h;omega
  conv=>whnf
  skip
  have oy:ws.take i++θ (ws.length - i) (0:Int)=ws.take i++(ws.getD i 0 % 256^0)::θ (ws.length - (i+1)) 0:=by
   rw[show ws.length - i=(ws.length - (i+1))+1 from aa,List.replicate_succ];congr 2;rw[ag1];omega
  rw[oy];have aE:(ws.take i).length=i:=by rw[ψ];omega
  have oc:∀(a:Int) r,(ws.take i++a::r).getD i 0=a:=λa r=>by
   rw[lf,aE,if_neg aa,af0];rfl
  have n8:∀(a v:Int) r,(ws.take i++a::r).set i v=ws.take i++v::r:=λa v r=>by
   rw[List.set_append_right _ _ aa,aE,af0];rfl
  have hx:=agX i;refine av hE (λk=>k) [1,3,4,24,25,28] [1,22] (λm fr hp=>∃k,m=4 - k/\k<=4/\fr=[(1,.ptr 1 0 0 0),(3,.aM 22 1 0 ws.length),(4,.val (.int .i64 (i:Nat))),(24,.val (.int .i64 ws.length)),(25,.val (.int .i64 (i:Nat))),(28,.val (.int .i64 (k:Nat)))]/\hp=[(1,⟨43,true,.one [.nat n]⟩),(22,⟨23,true,.ints .u32 (ws.take i++(ws.getD i 0 % 256^k)::θ (ws.length - (i+1)) 0)⟩)]) 4 ?_ ?_ ?_
  ·kernel_rfl
  ·exact⟨0,rfl,aa,rfl,rfl⟩
  rintro m _ _ ⟨k,rfl,hk,rfl,rfl⟩;conv=>whnf
  refine⟨λh=> ?_,λh=> ?_⟩
  ·have kQ:k<4:=by have:=of_decide_eq_true h;omega
   conv=>whnf
   have f1:ε.wrap (4*(i:Int))=((4*i:Nat):Int):=by rw[wrap_i64 aa aa];omega
   have f2:ε.wrap (((4*i:Nat):Int)+(k:Int))=((4*i+k:Nat):Int):=by rw[wrap_i64 aa aa];omega
   have f3:ε.wrap (8*(k:Int))=((8*k:Nat):Int):=by rw[wrap_i64 aa aa];omega
   have f4:ε.wrap ((k:Int)+1)=((k+1:Nat):Int):=by rw[wrap_i64 aa aa];omega
   have hll:(ws.take i++(ws.getD i 0 % 256^k)::θ (ws.length - (i+1)) 0).length=ws.length:=by
    simp only[ξ,ϊ,List.length_replicate,aE];omega
   have aeA:0+(i:Int).toNat<(ws.take i++(ws.getD i 0 % 256^k)::θ (ws.length - (i+1)) 0).length:=by rw[hll];omega
   have f5:(((sQ n).data.getD ((4*i+k:Nat):Int).toNat 0).toNat:Int)=ws.getD i 0/256^k % 256:=hb i k nz kQ;have f6:=Vx hx kQ
   (repeat((first|refine aq aD ?_|refine Ξ Q5 ?_|rw[show 0+(i:Int).toNat=i from by omega]|rw[oc]|rw[f1]|rw[f2]|rw[f3]);conv=>whnf))
   rw[n8,f5,f6,f4];exact⟨4 - (k+1),λk=>k,[1,3,4,24,25,28],[1,22],aa,aD,k+1,rfl,aa,rfl,rfl⟩
  ·have kQ:k=4:=by have:=of_decide_eq_false h;omega
   subst kQ;have f4:ε.wrap ((i:Int)+1)=((i+1:Nat):Int):=by rw[wrap_i64 aa aa];omega
   have vP:ws.take i++(ws.getD i 0 % 256^4)::θ (ws.length - (i+1)) 0=ws.take (i+1)++θ (ws.length - (i+1)) 0:=by
    rw[show(256:Int)^4=4294967296 from rfl,Int.emod_eq_of_lt hx.1 hx.2,aij,List.append_assoc];have:ws[i]? =some (ws.getD i 0):=by rw[δ,φ nz];rfl
    rw[this];rfl
   rw[vP];conv=>whnf
   (repeat(first|(rw[f4];conv=>whnf)))
   exact⟨ws.length - (i+1),λk=>k,[1,3,24,25],[1,22],aa,aD,i+1,rfl,aa,rfl,rfl⟩
 ·have nz:i=ws.length:=by have:=of_decide_eq_false h;omega
  subst nz;conv=>whnf
  rw[adi,af0,List.replicate_zero,ϣ];exact⟨au.refl _,vM rfl,(λ_ _ h=>by cases h)⟩
theorem jt (n:Nat) (K:Nat) (hl:(af n).length<1099511627776):
  aL Tryz.prog 155 [.nat n] [] (.aM K 1 0 (af n).length) [(K,⟨23,true,.ints .u32 (cC n)⟩)] []:=by
 by_cases h:n<18446744073709551616
 ·exact xh n K h
 ·exact Na n K h hl
theorem abd (z:Int):C0 231 [.val (.int .i64 z)] (.val (.int .i64 z.sign)):=by
 refine bB [] Tryz.func231 ?_;intro W0 w0 ρ0 hE;conv=>whnf
 skip
 have e:(if (if z<1 then z else 1)> -1 then(if z<1 then z else 1)else -1)=z.sign:=by
  rcases Int.lt_trichotomy z 0 with h|h|h
  ·rw[ϕ h];split<;>(try split at*)<;>omega
  ·subst h;rfl
  ·rw[ϰ h];split<;>(try split at*)<;>omega
 rw[e];exact au.refl _
theorem CY {xs ys:List Int} {j:Nat}:∀{n:Nat},j<=n->(∀i,j<=i->i<n->xs.getD i 0=ys.getD i 0)->aA xs n - aA ys n=aA xs j - aA ys j
 |0,h,_=>by obtain rfl:j=0:=aa
            rfl
 |n+1,h,he=>by
  by_cases hj:j=n+1
  ·rw[hj]
  ·have:=CY (n:=n) aa (λi h1 h2=>he i h1 aa);rw[aA,aA,he n aa aa];omega
theorem AG {xs ys:List Int} (hx:gQ xs) (hy:gQ ys) {j:Nat} (h:xs.getD j 0<ys.getD j 0):aA xs (j+1)<aA ys (j+1):=by
 have h1:=iG hx j;have h2:=cj hy j;have h3:(xs.getD j 0+1)*4294967296^j<=ys.getD j 0*4294967296^j:=Int.mul_le_mul_of_nonneg_right aa (Int.le_of_lt (oG j));rw[amm,aml]at h3;rw[aA,aA];omega
theorem x9 {xs ys:List Int} (hx:gQ xs) (hy:gQ ys) {n m:Nat} (h:n<m) (ht:ys.getD (m - 1) 0≠0):aA xs n<aA ys m:=by
 obtain⟨j,rfl⟩:∃j,m=j+1:=⟨m - 1,aa⟩;have h1:=iG hx n;have h2:=vI hy (k:=j) (by simpa using ht);have h3:(4294967296:Int)^n<=4294967296^j:=by
  have:(4294967296:Nat)^n<=4294967296^j:=ύ ax aa;rw[<-db,<-db];exact ak6.2 this
 omega
theorem aeB (xs ys:List Int) (n m:Nat) (hn:n<=xs.length) (hm:m<=ys.length) (UN:xs.length<4611686018427387904) (MI:ys.length<4611686018427387904) (hx:gQ xs) (hy:gQ ys)
  (hxt:n=0\/xs.getD (n - 1) 0≠0) (hyt:m=0\/ys.getD (m - 1) 0≠0) (K L:Nat) (wr wr':Bool):
  aL Tryz.prog 216 [.aM K 1 0 n,.aM L 1 0 m] [(K,⟨23,wr,.ints .u32 xs⟩),(L,⟨23,wr',.ints .u32 ys⟩)] (.val (.int .i64 (aA xs n - aA ys m).sign)) [] []:=by
 refine aL.vF ?_;refine gY (Z:=[]) aH bC Tryz.func216 rfl aD (args:=[.aM 0 1 0 n,.aM 1 1 0 m]) (fk:=[(0,⟨23,false,.ints .u32 xs⟩),(1,⟨23,false,.ints .u32 ys⟩)]) (c:=.val (.int .i64 (aA xs n - aA ys m).sign)) (new:=[]) (upd:=[]) (cb.of rfl rfl rfl rfl rfl rfl rfl rfl rfl rfl rfl) rfl (dA [(0,K),(1,L)]) (bl.ro rfl) ?_;intro W0 w0 ρ0 hE;conv=>whnf
 by_cases Ox:n=m
 ·subst Ox;have t1:(((n:Nat):Int) != (n:Nat))=false:=by simp
  have e0:ε.wrap ((n:Int) - 1)=(n:Int) - 1:=wrap_i64 aa aa
  (repeat(first|(refine ae rfl rfl ?_;conv=>whnf)|(rw[bne_self_eq_false];conv=>whnf)|(rw[e0];conv=>whnf)))
  refine av hE (λk=>k) [0,1,5] [0,1] (λm fr hp=>m<=n/\(∀i,m<=i->i<n->xs.getD i 0=ys.getD i 0)/\fr=[(0,.aM 0 1 0 n),(1,.aM 1 1 0 n),(5,.val (.int .i64 ((m:Int) - 1)))]/\hp=[(0,⟨23,false,.ints .u32 xs⟩),(1,⟨23,false,.ints .u32 ys⟩)]) n ?_ ?_ ?_
  ·kernel_rfl
  ·exact⟨aa,(λi h1 h2=>aa),rfl,rfl⟩
  rintro j _ _ ⟨hj,heq,rfl,rfl⟩;rw[CY (j:=j) hj heq];by_cases h0:j=0
  ·subst h0;have t2:decide (((0:Nat):Int) - 1>=0)=false:=rfl;conv=>whnf
   (repeat(first|(refine ae rfl rfl ?_;conv=>whnf)))
   exact⟨au.refl _,(λ_ _ h=>by cases h),(λ_ _ h=>by cases h)⟩
  ·obtain⟨i,rfl⟩:∃i,j=i+1:=⟨j - 1,aa⟩;have ei:(((i+1:Nat):Int) - 1)=(i:Int):=aa;rw[ei];have t2:decide ((i:Int)>=0)=true:=decide_eq_true aa;have e1:0+(i:Int).toNat=i:=aa;have e2:ε.wrap ((i:Int) - 1)=(i:Int) - 1:=wrap_i64 aa aa;by_cases a8:xs.getD i 0=ys.getD i 0
   ·have t3:(xs.getD i 0 != ys.getD i 0)=false:=by rw[a8];exact bne_self_eq_false _
    conv=>whnf
    (repeat((first|refine ag rfl rfl ?_|refine ae rfl rfl ?_|refine aq aD ?_|refine Ξ Q5 ?_|rw[t2]|rw[e1]|rw[t3]|rw[e2]);conv=>whnf))
    exact⟨i,λk=>k,[0,1,5],[0,1],aa,aD,aa,(λq h1 h2=>by
     by_cases hq:q=i
     ·rw[hq];exact a8
     ·exact heq q aa h2),rfl,rfl⟩
   ·have t3:(xs.getD i 0 != ys.getD i 0)=true:=bne_iff_ne.2 a8;by_cases aE:xs.getD i 0<ys.getD i 0
    ·have t4:decide (xs.getD i 0<ys.getD i 0)=true:=decide_eq_true aE;have:=AG hx hy aE;rw[ϕ aa];conv=>whnf
     (repeat((first|refine ag rfl rfl ?_|refine aq aD ?_|refine Ξ Q5 ?_|rw[t2]|rw[e1]|rw[t3]|rw[t4]);conv=>whnf))
     exact⟨au.refl _,(λ_ _ h=>by cases h),(λ_ _ h=>by cases h)⟩
    ·have t4:decide (xs.getD i 0<ys.getD i 0)=false:=decide_eq_false aE;have:=AG hy hx (j:=i) aa;rw[ϰ aa];conv=>whnf
     (repeat((first|refine ag rfl rfl ?_|refine ae rfl rfl ?_|refine aq aD ?_|refine Ξ Q5 ?_|rw[t2]|rw[e1]|rw[t3]|rw[t4]);conv=>whnf))
     exact⟨au.refl _,(λ_ _ h=>by cases h),(λ_ _ h=>by cases h)⟩
 ·have t1:(((n:Nat):Int) != (m:Nat))=true:=bne_iff_ne.2 aa;have e0:ε.wrap ((n:Int) - m)=(n:Int) - m:=wrap_i64 aa aa;have k1:=abd ((n:Int) - m);have e:((n:Int) - m).sign=(aA xs n - aA ys m).sign:=by
   by_cases h:n<m
   ·have:=x9 hx hy h (hyt.resolve_left aa);rw[ϕ aa,ϕ aa]
   ·have:=x9 hy hx (show m<n by omega) (hxt.resolve_left aa);rw[ϰ aa,ϰ aa]
  rw[e]at k1
  (repeat((first|refine ag rfl rfl ?_|refine aN aJ ?_|rw[t1]|rw[e0]);conv=>whnf))
  exact⟨au.refl _,(λ_ _ h=>by cases h),(λ_ _ h=>by cases h)⟩
theorem Jj (n:Nat):(af n).length=0\/(cC n).getD ((af n).length - 1) 0≠0:=by
 by_cases h:n=0
 ·subst h;exact .inl rfl
 ·obtain⟨h1,h2⟩:=oH h;exact .inr (by rw[eH aa];exact h2)
theorem KZ {n M:Nat} (h:sz n<=32*M):(af n).length<=M:=iX (by
 have:=eW.1 h
 rwa [ajl]at this)
theorem xi (n:Nat) {M:Nat} (h:(af n).length<=M) (h2:2<=M):(cC n).length<=M:=by
 unfold cC;split
 ·exact h2
 ·exact h
theorem GC (a b:Nat) (ha:(af a).length<1099511627776) (hb:(af b).length<1099511627776):
  C0 193 [.nat a,.nat b] (.val (.int .i64 ((a:Int) - b).sign)):=by
 by_cases h:a<18446744073709551616/\b<18446744073709551616
 ·exact Pp a b h.1 h.2
 ·have ka:=jt a 1001 ha;have kb:=jt b 1002 hb;have kc:=aeB (cC a) (cC b) (af a).length (af b).length (cN a) (cN b) (by have:=xi a (M:=1099511627776) aa aa;omega) (by have:=xi b (M:=1099511627776) aa aa;omega) (oM a) (oM b) (Jj a) (Jj b) 1001 1002 true true;rw[AF,AF]at kc;refine bB [] Tryz.func193 ?_;intro W0 w0 ρ0 hE;conv=>whnf
  by_cases h1:a<18446744073709551616
  ·rw[dO,decide_eq_true h1]
   (repeat(first|(refine ag rfl rfl ?_;conv=>whnf)|(refine an er ?_;conv=>whnf)))
   rw[dO,decide_eq_false (show ¬b<18446744073709551616 by omega)]
   (repeat((first|refine ae rfl rfl ?_|refine aq aD ?_|refine oe aJ rfl ?_|refine adq aJ rfl rfl ?_);conv=>whnf));exact au.refl _
  ·rw[dO,decide_eq_false h1]
   (repeat((first|refine ae rfl rfl ?_|refine aq aD ?_|refine oe aJ rfl ?_|refine adq aJ rfl rfl ?_|refine an dZ ?_);conv=>whnf));exact au.refl _
theorem cS (n:Nat) {k:Nat} (h:(af n).length<=k):aA (af n) k=n:=by
 rw[fv (k:=(af n).length) (λi h1 _=>ep h1) h,fJ]
theorem Nb (n:Nat):(cC n).take (af n).length=af n:=by
 refine List.ext_getElem? λi=> ?_
 have hl:=cN n;by_cases hi:i<(af n).length
 ·have h:=eH (n:=n) hi;rw[δ,δ,φ hi,φ (show i<(cC n).length by omega)]at h;rw[List.getElem?_take,if_pos hi,φ hi,φ (show i<(cC n).length by omega)];simpa using h
 ·rw[Ϙ (l:=af n) aa,Ϙ (by rw[ψ];omega)]
theorem iZ (n:Nat):x7 (.ints .u32 (θ ((af n).length+1) 0)) 0 (.ints .u32 (cC n)) 0 (af n).length=some (.ints .u32 (af n++[0])):=by
 simp only[x7,if_true,List.take_zero,List.nil_append,afg,υ,Nb,List.drop_replicate];rw[show(af n).length+1 - (af n).length=1 from by omega];rfl
theorem oN {xs:List Int} (h:gQ xs):gQ (xs++[0]):=by
 intro i;rw[lf];split
 ·exact h i
 ·cases i - xs.length with
  |zero=>decide
  |succ j=>simp
theorem mw (xs:List Int) (j:Nat):(xs++[0]).getD j 0=xs.getD j 0:=by
 rw[lf];split
 ·rfl
 ·rename_i h;rw[ep (xs:=xs) aa];cases j - xs.length<;>simp
theorem oO {X Y out:List Int} {i o w c:Nat} (hi:i<out.length) (ho:out.getD i 0=o) (hX:X.getD i 0=o) (hY:Y.getD i 0=w) (hv:aA out i+c*4294967296^i=aA X i+aA Y i):
  aA (out.set i (((o+w+c) % 4294967296:Nat):Int)) (i+1)+(((o+w+c)/4294967296:Nat):Int)*4294967296^(i+1)=aA X (i+1)+aA Y (i+1):=by
 rw[aA,aA,aA,dw (ζ i),aT,if_pos ⟨rfl,hi⟩,hX,hY,ϫ];have hd:(((o+w+c) % 4294967296:Nat):Int)=(o:Int)+w+c - (((o+w+c)/4294967296:Nat):Int)*4294967296:=aa;rw[hd];generalize (((o+w+c)/4294967296:Nat):Int)=q;generalize (4294967296:Int)^i=P at*;grind
theorem r9 {x y lx ly c:Nat} {v:Int} (hc:c<=1) (h0:0<=v) (hv:v+c*4294967296^(lx+1)=x+y) (hx:x<4294967296^lx) (hy:y<4294967296^ly) (hl:ly<=lx):v.toNat=x+y:=by
 have h1:4294967296^ly<=4294967296^lx:=ύ ax hl;have h2:(4294967296:Int)^(lx+1)=((4294967296^lx:Nat):Int)*4294967296:=by rw[db,ϫ]
 rw[h2]at hv;have ot:c=0\/c=1:=aa;rcases ot with rfl|rfl<;>omega
theorem YL (a b:Nat) (ha:(af a).length<549755813888) (hb:(af b).length<549755813888):
  C0 151 [.nat a,.nat b] (.nat (a+b)):=by
 by_cases hs:a+b<18446744073709551616
 ·exact aer a b hs
 ·have ka:=jt a 1001 aa;have kb:=jt b 1002 aa;refine bB [] Tryz.func151 ?_;intro W0 w0 ρ0 hE;conv=>whnf
  by_cases h1:a<18446744073709551616
  ·rw[dO,decide_eq_true h1]
   (repeat(first|(refine ag rfl rfl ?_;conv=>whnf)|(refine an er ?_;conv=>whnf)))
   by_cases h2:b<18446744073709551616
   ·rw[dO,decide_eq_true h2];have k64:=KX a b h1 h2;rw[show(a+b)/18446744073709551616=1 from by omega]at k64
    (repeat((first|refine ag rfl rfl ?_|refine ae rfl rfl ?_|refine aq aD ?_|refine aN aJ ?_|refine oe aJ rfl ?_|rw[cD h1]|rw[cD h2]);conv=>whnf))
    skip
    by_cases hl:(af a).length<(af b).length
    ·rw[decide_eq_true (show((af a).length:Int)<((af b).length:Int) by omega)];have ew:ε.wrap (((af b).length:Int)+1)=(((af b).length+1:Nat):Int):=by rw[wrap_i64 aa aa];omega
     (repeat(first|(refine ag rfl rfl ?_;conv=>whnf)|(refine Ξ Q5 ?_;conv=>whnf)|(rw[ew];conv=>whnf)))
     refine⟨_,[(47,⟨23,true,.ints .u32 (θ ((af b).length+1) 0)⟩),(1002,⟨23,true,.ints .u32 (cC b)⟩)],[],[(47,⟨23,true,.ints .u32 (af b++[0])⟩)],rY (c:=(af b).length) (n:=(af b).length+1) rfl rfl rfl (ai rfl) (ai rfl) (aH.get (t:=207) rfl) rfl (aH.get (t:=23) rfl) (η ..) (Δ _ (η ..)) rfl rfl rfl rfl (by simp[gu]) (by show 0+_<=(cC b).length;have:=cN b;omega) (acR (ahH _)).symm (iZ b),gC rfl rfl,ak,eT (η ..) rfl rfl rfl, ?_⟩;conv=>whnf
     skip
     refine av hE (λk=>k) [4,8,9,10,52,53] [4,1001,47] (λm fr hp=>∃(i:Nat) (out:List Int) (c:Nat),m=(af b).length+1 - i/\i<=(af b).length+1/\c<=1/\out.length=(af b).length+1/\gQ out/\(∀j,i<=j->out.getD j 0=(af b).getD j 0)/\aA out i+c*4294967296^i=aA (af b) i+aA (af a) i/\
      fr=[(4,.ptr 4 0 0 0),(8,.aM 1001 1 0 (af a).length),(9,.aM 47 1 0 ((af b).length+1)),(10,.val (.int .u32 c)),(52,.val (.int .i64 (((af b).length+1:Nat)))),(53,.val (.int .i64 i))]/\hp=[(4,⟨43,true,.one [.nat 0]⟩),(1001,⟨23,true,.ints .u32 (cC a)⟩),(47,⟨23,true,.ints .u32 out⟩)]) ((af b).length+1) ?_ ?_ ?_
     ·kernel_rfl
     ·exact⟨0,af b++[0],0,aa,aa,aa,by simp,oN (aY b),(λj _=>mw _ j),by simp[aA],rfl,rfl⟩
     rintro m _ _ ⟨i,out,c,rfl,hi,hc,hlen,hw,cF,b7,rfl,rfl⟩;by_cases aE:i<(af b).length+1
     ·have t1:decide ((i:Int)<(((af b).length+1:Nat):Int))=true:=decide_eq_true aa;have e1:0+(i:Int).toNat=i:=aa;have e2:ε.wrap ((i:Int)+1)=((i+1:Nat):Int):=by rw[wrap_i64 aa aa];omega
      obtain⟨o,ho⟩:=Α (hw i).1;obtain⟨w,hww⟩:=Α (aY a i).1;have UA:=(hw i).2;have pq:=(aY a i).2;have UB:=nP o w c aa aa hc;have hX:(af b).getD i 0=o:=by rw[<-cF i (ζ _)];exact ho
      have cE:=oO aa ho hX hww b7;have ot:(o+w+c)/4294967296<=1:=aa;have eb:∀j,i+1<=j->(out.set i (((o+w+c) % 4294967296:Nat):Int)).getD j 0=(af b).getD j 0:=λj hj=>by
       rw[aT,if_neg aa];exact cF j aa
      by_cases hy:i<(af a).length
      ·have t2:decide ((i:Int)<((af a).length:Int))=true:=decide_eq_true aa;have MI:=cN a;have e3:(cC a).getD i 0=(w:Int):=by rw[eH hy];exact hww
       conv=>whnf
       (repeat((first|refine ag rfl rfl ?_|refine Ξ Q5 ?_|refine aN aJ ?_|rw[t1]|rw[t2]|rw[e1]|rw[e3]|rw[ho]);conv=>whnf))
       rw[e2];exact⟨(af b).length+1 - (i+1),λk=>k,[4,8,9,10,52,53],[4,1001,47],aa,aD,i+1,_,_,rfl,aa,ot,by simpa using hlen,hw.set aa aa,eb,cE,rfl,rfl⟩
      ·have t2:decide ((i:Int)<((af a).length:Int))=false:=decide_eq_false aa;have KO:w=0:=by have:=ep (xs:=af a) (i:=i) aa;omega
       subst KO;conv=>whnf
       (repeat((first|refine ag rfl rfl ?_|refine ae rfl rfl ?_|refine Ξ Q5 ?_|refine aN aJ ?_|rw[t1]|rw[t2]|rw[e1]|rw[ho]);conv=>whnf))
       rw[e2];exact⟨(af b).length+1 - (i+1),λk=>k,[4,8,9,10,52,53],[4,1001,47],aa,aD,i+1,_,_,rfl,aa,ot,by simpa using hlen,hw.set aa aa,eb,cE,rfl,rfl⟩
     ·have nz:i=(af b).length+1:=aa;subst nz;have t1:decide ((((af b).length+1:Nat):Int)<(((af b).length+1:Nat):Int))=false:=decide_eq_false aa;rw[cS b aa,cS a aa]at b7;have mN:(aA out ((af b).length+1)).toNat=a+b:=by
       have:=r9 hc (cj hw _) b7 (cp b) (cp a) aa;omega
      have GD:=xg out ((af b).length+1) aa aa hw 47 true;rw[mN]at GD;conv=>whnf
      (repeat(first|(refine ae rfl rfl ?_;conv=>whnf)|(refine od aJ rfl ?_;conv=>whnf)|(rw[t1];conv=>whnf)))
      exact au.refl _
    ·rw[decide_eq_false (show ¬((af a).length:Int)<((af b).length:Int) by omega)];have ew:ε.wrap (((af a).length:Int)+1)=(((af a).length+1:Nat):Int):=by rw[wrap_i64 aa aa];omega
     (repeat(first|(refine ae rfl rfl ?_;conv=>whnf)|(refine Ξ Q5 ?_;conv=>whnf)|(rw[ew];conv=>whnf)))
     refine⟨_,[(47,⟨23,true,.ints .u32 (θ ((af a).length+1) 0)⟩),(1001,⟨23,true,.ints .u32 (cC a)⟩)],[],[(47,⟨23,true,.ints .u32 (af a++[0])⟩)],rY (c:=(af a).length) (n:=(af a).length+1) rfl rfl rfl (ai rfl) (ai rfl) (aH.get (t:=207) rfl) rfl (aH.get (t:=23) rfl) (η ..) (Δ _ (η ..)) rfl rfl rfl rfl (by simp[gu]) (by show 0+_<=(cC a).length;have:=cN a;omega) (acR (ahH _)).symm (iZ a),gC rfl rfl,ak,eT (η ..) rfl rfl rfl, ?_⟩;conv=>whnf
     skip
     refine av hE (λk=>k) [4,8,9,10,52,53] [4,1002,47] (λm fr hp=>∃(i:Nat) (out:List Int) (c:Nat),m=(af a).length+1 - i/\i<=(af a).length+1/\c<=1/\out.length=(af a).length+1/\gQ out/\(∀j,i<=j->out.getD j 0=(af a).getD j 0)/\aA out i+c*4294967296^i=aA (af a) i+aA (af b) i/\
      fr=[(4,.ptr 4 0 0 0),(8,.aM 1002 1 0 (af b).length),(9,.aM 47 1 0 ((af a).length+1)),(10,.val (.int .u32 c)),(52,.val (.int .i64 (((af a).length+1:Nat)))),(53,.val (.int .i64 i))]/\hp=[(4,⟨43,true,.one [.nat 0]⟩),(1002,⟨23,true,.ints .u32 (cC b)⟩),(47,⟨23,true,.ints .u32 out⟩)]) ((af a).length+1) ?_ ?_ ?_
     ·kernel_rfl
     ·exact⟨0,af a++[0],0,aa,aa,aa,by simp,oN (aY a),(λj _=>mw _ j),by simp[aA],rfl,rfl⟩
     rintro m _ _ ⟨i,out,c,rfl,hi,hc,hlen,hw,cF,b7,rfl,rfl⟩;by_cases aE:i<(af a).length+1
     ·have t1:decide ((i:Int)<(((af a).length+1:Nat):Int))=true:=decide_eq_true aa;have e1:0+(i:Int).toNat=i:=aa;have e2:ε.wrap ((i:Int)+1)=((i+1:Nat):Int):=by rw[wrap_i64 aa aa];omega
      obtain⟨o,ho⟩:=Α (hw i).1;obtain⟨w,hww⟩:=Α (aY b i).1;have UA:=(hw i).2;have pq:=(aY b i).2;have UB:=nP o w c aa aa hc;have hX:(af a).getD i 0=o:=by rw[<-cF i (ζ _)];exact ho
      have cE:=oO aa ho hX hww b7;have ot:(o+w+c)/4294967296<=1:=aa;have eb:∀j,i+1<=j->(out.set i (((o+w+c) % 4294967296:Nat):Int)).getD j 0=(af a).getD j 0:=λj hj=>by
       rw[aT,if_neg aa];exact cF j aa
      by_cases hy:i<(af b).length
      ·have t2:decide ((i:Int)<((af b).length:Int))=true:=decide_eq_true aa;have MI:=cN b;have e3:(cC b).getD i 0=(w:Int):=by rw[eH hy];exact hww
       conv=>whnf
       (repeat((first|refine ag rfl rfl ?_|refine Ξ Q5 ?_|refine aN aJ ?_|rw[t1]|rw[t2]|rw[e1]|rw[e3]|rw[ho]);conv=>whnf))
       rw[e2];exact⟨(af a).length+1 - (i+1),λk=>k,[4,8,9,10,52,53],[4,1002,47],aa,aD,i+1,_,_,rfl,aa,ot,by simpa using hlen,hw.set aa aa,eb,cE,rfl,rfl⟩
      ·have t2:decide ((i:Int)<((af b).length:Int))=false:=decide_eq_false aa;have KO:w=0:=by have:=ep (xs:=af b) (i:=i) aa;omega
       subst KO;conv=>whnf
       (repeat((first|refine ag rfl rfl ?_|refine ae rfl rfl ?_|refine Ξ Q5 ?_|refine aN aJ ?_|rw[t1]|rw[t2]|rw[e1]|rw[ho]);conv=>whnf))
       rw[e2];exact⟨(af a).length+1 - (i+1),λk=>k,[4,8,9,10,52,53],[4,1002,47],aa,aD,i+1,_,_,rfl,aa,ot,by simpa using hlen,hw.set aa aa,eb,cE,rfl,rfl⟩
     ·have nz:i=(af a).length+1:=aa;subst nz;have t1:decide ((((af a).length+1:Nat):Int)<(((af a).length+1:Nat):Int))=false:=decide_eq_false aa;rw[cS a aa,cS b aa]at b7;have mN:(aA out ((af a).length+1)).toNat=a+b:=by
       have:=r9 hc (cj hw _) b7 (cp a) (cp b) aa;omega
      have GD:=xg out ((af a).length+1) aa aa hw 47 true;rw[mN]at GD;conv=>whnf
      (repeat(first|(refine ae rfl rfl ?_;conv=>whnf)|(refine od aJ rfl ?_;conv=>whnf)|(rw[t1];conv=>whnf)))
      exact au.refl _
   ·rw[dO,decide_eq_false h2]
    (repeat(first|(refine ae rfl rfl ?_;conv=>whnf)|(refine aq aD ?_;conv=>whnf)|(refine oe aJ rfl ?_;conv=>whnf)))
    by_cases hl:(af a).length<(af b).length
    ·rw[decide_eq_true (show((af a).length:Int)<((af b).length:Int) by omega)];have ew:ε.wrap (((af b).length:Int)+1)=(((af b).length+1:Nat):Int):=by rw[wrap_i64 aa aa];omega
     (repeat(first|(refine ag rfl rfl ?_;conv=>whnf)|(refine Ξ Q5 ?_;conv=>whnf)|(rw[ew];conv=>whnf)))
     refine⟨_,[(47,⟨23,true,.ints .u32 (θ ((af b).length+1) 0)⟩),(1002,⟨23,true,.ints .u32 (cC b)⟩)],[],[(47,⟨23,true,.ints .u32 (af b++[0])⟩)],rY (c:=(af b).length) (n:=(af b).length+1) rfl rfl rfl (ai rfl) (ai rfl) (aH.get (t:=207) rfl) rfl (aH.get (t:=23) rfl) (η ..) (Δ _ (η ..)) rfl rfl rfl rfl (by simp[gu]) (by show 0+_<=(cC b).length;have:=cN b;omega) (acR (ahH _)).symm (iZ b),gC rfl rfl,ak,eT (η ..) rfl rfl rfl, ?_⟩;conv=>whnf
     skip
     refine av hE (λk=>k) [4,8,9,10,52,53] [4,1001,47] (λm fr hp=>∃(i:Nat) (out:List Int) (c:Nat),m=(af b).length+1 - i/\i<=(af b).length+1/\c<=1/\out.length=(af b).length+1/\gQ out/\(∀j,i<=j->out.getD j 0=(af b).getD j 0)/\aA out i+c*4294967296^i=aA (af b) i+aA (af a) i/\
      fr=[(4,.ptr 4 0 0 0),(8,.aM 1001 1 0 (af a).length),(9,.aM 47 1 0 ((af b).length+1)),(10,.val (.int .u32 c)),(52,.val (.int .i64 (((af b).length+1:Nat)))),(53,.val (.int .i64 i))]/\hp=[(4,⟨43,true,.one [.nat 0]⟩),(1001,⟨23,true,.ints .u32 (cC a)⟩),(47,⟨23,true,.ints .u32 out⟩)]) ((af b).length+1) ?_ ?_ ?_
     ·kernel_rfl
     ·exact⟨0,af b++[0],0,aa,aa,aa,by simp,oN (aY b),(λj _=>mw _ j),by simp[aA],rfl,rfl⟩
     rintro m _ _ ⟨i,out,c,rfl,hi,hc,hlen,hw,cF,b7,rfl,rfl⟩;by_cases aE:i<(af b).length+1
     ·have t1:decide ((i:Int)<(((af b).length+1:Nat):Int))=true:=decide_eq_true aa;have e1:0+(i:Int).toNat=i:=aa;have e2:ε.wrap ((i:Int)+1)=((i+1:Nat):Int):=by rw[wrap_i64 aa aa];omega
      obtain⟨o,ho⟩:=Α (hw i).1;obtain⟨w,hww⟩:=Α (aY a i).1;have UA:=(hw i).2;have pq:=(aY a i).2;have UB:=nP o w c aa aa hc;have hX:(af b).getD i 0=o:=by rw[<-cF i (ζ _)];exact ho
      have cE:=oO aa ho hX hww b7;have ot:(o+w+c)/4294967296<=1:=aa;have eb:∀j,i+1<=j->(out.set i (((o+w+c) % 4294967296:Nat):Int)).getD j 0=(af b).getD j 0:=λj hj=>by
       rw[aT,if_neg aa];exact cF j aa
      by_cases hy:i<(af a).length
      ·have t2:decide ((i:Int)<((af a).length:Int))=true:=decide_eq_true aa;have MI:=cN a;have e3:(cC a).getD i 0=(w:Int):=by rw[eH hy];exact hww
       conv=>whnf
       (repeat((first|refine ag rfl rfl ?_|refine Ξ Q5 ?_|refine aN aJ ?_|rw[t1]|rw[t2]|rw[e1]|rw[e3]|rw[ho]);conv=>whnf))
       rw[e2];exact⟨(af b).length+1 - (i+1),λk=>k,[4,8,9,10,52,53],[4,1001,47],aa,aD,i+1,_,_,rfl,aa,ot,by simpa using hlen,hw.set aa aa,eb,cE,rfl,rfl⟩
      ·have t2:decide ((i:Int)<((af a).length:Int))=false:=decide_eq_false aa;have KO:w=0:=by have:=ep (xs:=af a) (i:=i) aa;omega
       subst KO;conv=>whnf
       (repeat((first|refine ag rfl rfl ?_|refine ae rfl rfl ?_|refine Ξ Q5 ?_|refine aN aJ ?_|rw[t1]|rw[t2]|rw[e1]|rw[ho]);conv=>whnf))
       rw[e2];exact⟨(af b).length+1 - (i+1),λk=>k,[4,8,9,10,52,53],[4,1001,47],aa,aD,i+1,_,_,rfl,aa,ot,by simpa using hlen,hw.set aa aa,eb,cE,rfl,rfl⟩
     ·have nz:i=(af b).length+1:=aa;subst nz;have t1:decide ((((af b).length+1:Nat):Int)<(((af b).length+1:Nat):Int))=false:=decide_eq_false aa;rw[cS b aa,cS a aa]at b7;have mN:(aA out ((af b).length+1)).toNat=a+b:=by
       have:=r9 hc (cj hw _) b7 (cp b) (cp a) aa;omega
      have GD:=xg out ((af b).length+1) aa aa hw 47 true;rw[mN]at GD;conv=>whnf
      (repeat(first|(refine ae rfl rfl ?_;conv=>whnf)|(refine od aJ rfl ?_;conv=>whnf)|(rw[t1];conv=>whnf)))
      exact au.refl _
    ·rw[decide_eq_false (show ¬((af a).length:Int)<((af b).length:Int) by omega)];have ew:ε.wrap (((af a).length:Int)+1)=(((af a).length+1:Nat):Int):=by rw[wrap_i64 aa aa];omega
     (repeat(first|(refine ae rfl rfl ?_;conv=>whnf)|(refine Ξ Q5 ?_;conv=>whnf)|(rw[ew];conv=>whnf)))
     refine⟨_,[(47,⟨23,true,.ints .u32 (θ ((af a).length+1) 0)⟩),(1001,⟨23,true,.ints .u32 (cC a)⟩)],[],[(47,⟨23,true,.ints .u32 (af a++[0])⟩)],rY (c:=(af a).length) (n:=(af a).length+1) rfl rfl rfl (ai rfl) (ai rfl) (aH.get (t:=207) rfl) rfl (aH.get (t:=23) rfl) (η ..) (Δ _ (η ..)) rfl rfl rfl rfl (by simp[gu]) (by show 0+_<=(cC a).length;have:=cN a;omega) (acR (ahH _)).symm (iZ a),gC rfl rfl,ak,eT (η ..) rfl rfl rfl, ?_⟩;conv=>whnf
     skip
     refine av hE (λk=>k) [4,8,9,10,52,53] [4,1002,47] (λm fr hp=>∃(i:Nat) (out:List Int) (c:Nat),m=(af a).length+1 - i/\i<=(af a).length+1/\c<=1/\out.length=(af a).length+1/\gQ out/\(∀j,i<=j->out.getD j 0=(af a).getD j 0)/\aA out i+c*4294967296^i=aA (af a) i+aA (af b) i/\
      fr=[(4,.ptr 4 0 0 0),(8,.aM 1002 1 0 (af b).length),(9,.aM 47 1 0 ((af a).length+1)),(10,.val (.int .u32 c)),(52,.val (.int .i64 (((af a).length+1:Nat)))),(53,.val (.int .i64 i))]/\hp=[(4,⟨43,true,.one [.nat 0]⟩),(1002,⟨23,true,.ints .u32 (cC b)⟩),(47,⟨23,true,.ints .u32 out⟩)]) ((af a).length+1) ?_ ?_ ?_
     ·kernel_rfl
     ·exact⟨0,af a++[0],0,aa,aa,aa,by simp,oN (aY a),(λj _=>mw _ j),by simp[aA],rfl,rfl⟩
     rintro m _ _ ⟨i,out,c,rfl,hi,hc,hlen,hw,cF,b7,rfl,rfl⟩;by_cases aE:i<(af a).length+1
     ·have t1:decide ((i:Int)<(((af a).length+1:Nat):Int))=true:=decide_eq_true aa;have e1:0+(i:Int).toNat=i:=aa;have e2:ε.wrap ((i:Int)+1)=((i+1:Nat):Int):=by rw[wrap_i64 aa aa];omega
      obtain⟨o,ho⟩:=Α (hw i).1;obtain⟨w,hww⟩:=Α (aY b i).1;have UA:=(hw i).2;have pq:=(aY b i).2;have UB:=nP o w c aa aa hc;have hX:(af a).getD i 0=o:=by rw[<-cF i (ζ _)];exact ho
      have cE:=oO aa ho hX hww b7;have ot:(o+w+c)/4294967296<=1:=aa;have eb:∀j,i+1<=j->(out.set i (((o+w+c) % 4294967296:Nat):Int)).getD j 0=(af a).getD j 0:=λj hj=>by
       rw[aT,if_neg aa];exact cF j aa
      by_cases hy:i<(af b).length
      ·have t2:decide ((i:Int)<((af b).length:Int))=true:=decide_eq_true aa;have MI:=cN b;have e3:(cC b).getD i 0=(w:Int):=by rw[eH hy];exact hww
       conv=>whnf
       (repeat((first|refine ag rfl rfl ?_|refine Ξ Q5 ?_|refine aN aJ ?_|rw[t1]|rw[t2]|rw[e1]|rw[e3]|rw[ho]);conv=>whnf))
       rw[e2];exact⟨(af a).length+1 - (i+1),λk=>k,[4,8,9,10,52,53],[4,1002,47],aa,aD,i+1,_,_,rfl,aa,ot,by simpa using hlen,hw.set aa aa,eb,cE,rfl,rfl⟩
      ·have t2:decide ((i:Int)<((af b).length:Int))=false:=decide_eq_false aa;have KO:w=0:=by have:=ep (xs:=af b) (i:=i) aa;omega
       subst KO;conv=>whnf
       (repeat((first|refine ag rfl rfl ?_|refine ae rfl rfl ?_|refine Ξ Q5 ?_|refine aN aJ ?_|rw[t1]|rw[t2]|rw[e1]|rw[ho]);conv=>whnf))
       rw[e2];exact⟨(af a).length+1 - (i+1),λk=>k,[4,8,9,10,52,53],[4,1002,47],aa,aD,i+1,_,_,rfl,aa,ot,by simpa using hlen,hw.set aa aa,eb,cE,rfl,rfl⟩
     ·have nz:i=(af a).length+1:=aa;subst nz;have t1:decide ((((af a).length+1:Nat):Int)<(((af a).length+1:Nat):Int))=false:=decide_eq_false aa;rw[cS a aa,cS b aa]at b7;have mN:(aA out ((af a).length+1)).toNat=a+b:=by
       have:=r9 hc (cj hw _) b7 (cp a) (cp b) aa;omega
      have GD:=xg out ((af a).length+1) aa aa hw 47 true;rw[mN]at GD;conv=>whnf
      (repeat(first|(refine ae rfl rfl ?_;conv=>whnf)|(refine od aJ rfl ?_;conv=>whnf)|(rw[t1];conv=>whnf)))
      exact au.refl _
  ·rw[dO,decide_eq_false h1]
   (repeat((first|refine ae rfl rfl ?_|refine aq aD ?_|refine oe aJ rfl ?_|refine an dZ ?_);conv=>whnf))
   by_cases hl:(af a).length<(af b).length
   ·rw[decide_eq_true (show((af a).length:Int)<((af b).length:Int) by omega)];have ew:ε.wrap (((af b).length:Int)+1)=(((af b).length+1:Nat):Int):=by rw[wrap_i64 aa aa];omega
    (repeat(first|(refine ag rfl rfl ?_;conv=>whnf)|(refine Ξ Q5 ?_;conv=>whnf)|(rw[ew];conv=>whnf)))
    refine⟨_,[(47,⟨23,true,.ints .u32 (θ ((af b).length+1) 0)⟩),(1002,⟨23,true,.ints .u32 (cC b)⟩)],[],[(47,⟨23,true,.ints .u32 (af b++[0])⟩)],rY (c:=(af b).length) (n:=(af b).length+1) rfl rfl rfl (ai rfl) (ai rfl) (aH.get (t:=207) rfl) rfl (aH.get (t:=23) rfl) (η ..) (Δ _ (η ..)) rfl rfl rfl rfl (by simp[gu]) (by show 0+_<=(cC b).length;have:=cN b;omega) (acR (ahH _)).symm (iZ b),gC rfl rfl,ak,eT (η ..) rfl rfl rfl, ?_⟩;conv=>whnf
    skip
    refine av hE (λk=>k) [4,8,9,10,52,53] [4,1001,47] (λm fr hp=>∃(i:Nat) (out:List Int) (c:Nat),m=(af b).length+1 - i/\i<=(af b).length+1/\c<=1/\out.length=(af b).length+1/\gQ out/\(∀j,i<=j->out.getD j 0=(af b).getD j 0)/\aA out i+c*4294967296^i=aA (af b) i+aA (af a) i/\
     fr=[(4,.ptr 4 0 0 0),(8,.aM 1001 1 0 (af a).length),(9,.aM 47 1 0 ((af b).length+1)),(10,.val (.int .u32 c)),(52,.val (.int .i64 (((af b).length+1:Nat)))),(53,.val (.int .i64 i))]/\hp=[(4,⟨43,true,.one [.nat 0]⟩),(1001,⟨23,true,.ints .u32 (cC a)⟩),(47,⟨23,true,.ints .u32 out⟩)]) ((af b).length+1) ?_ ?_ ?_
    ·kernel_rfl
    ·exact⟨0,af b++[0],0,aa,aa,aa,by simp,oN (aY b),(λj _=>mw _ j),by simp[aA],rfl,rfl⟩
    rintro m _ _ ⟨i,out,c,rfl,hi,hc,hlen,hw,cF,b7,rfl,rfl⟩;by_cases aE:i<(af b).length+1
    ·have t1:decide ((i:Int)<(((af b).length+1:Nat):Int))=true:=decide_eq_true aa;have e1:0+(i:Int).toNat=i:=aa;have e2:ε.wrap ((i:Int)+1)=((i+1:Nat):Int):=by rw[wrap_i64 aa aa];omega
     obtain⟨o,ho⟩:=Α (hw i).1;obtain⟨w,hww⟩:=Α (aY a i).1;have UA:=(hw i).2;have pq:=(aY a i).2;have UB:=nP o w c aa aa hc;have hX:(af b).getD i 0=o:=by rw[<-cF i (ζ _)];exact ho
     have cE:=oO aa ho hX hww b7;have ot:(o+w+c)/4294967296<=1:=aa;have eb:∀j,i+1<=j->(out.set i (((o+w+c) % 4294967296:Nat):Int)).getD j 0=(af b).getD j 0:=λj hj=>by
      rw[aT,if_neg aa];exact cF j aa
     by_cases hy:i<(af a).length
     ·have t2:decide ((i:Int)<((af a).length:Int))=true:=decide_eq_true aa;have MI:=cN a;have e3:(cC a).getD i 0=(w:Int):=by rw[eH hy];exact hww
      conv=>whnf
      (repeat((first|refine ag rfl rfl ?_|refine Ξ Q5 ?_|refine aN aJ ?_|rw[t1]|rw[t2]|rw[e1]|rw[e3]|rw[ho]);conv=>whnf))
      rw[e2];exact⟨(af b).length+1 - (i+1),λk=>k,[4,8,9,10,52,53],[4,1001,47],aa,aD,i+1,_,_,rfl,aa,ot,by simpa using hlen,hw.set aa aa,eb,cE,rfl,rfl⟩
     ·have t2:decide ((i:Int)<((af a).length:Int))=false:=decide_eq_false aa;have KO:w=0:=by have:=ep (xs:=af a) (i:=i) aa;omega
      subst KO;conv=>whnf
      (repeat((first|refine ag rfl rfl ?_|refine ae rfl rfl ?_|refine Ξ Q5 ?_|refine aN aJ ?_|rw[t1]|rw[t2]|rw[e1]|rw[ho]);conv=>whnf))
      rw[e2];exact⟨(af b).length+1 - (i+1),λk=>k,[4,8,9,10,52,53],[4,1001,47],aa,aD,i+1,_,_,rfl,aa,ot,by simpa using hlen,hw.set aa aa,eb,cE,rfl,rfl⟩
    ·have nz:i=(af b).length+1:=aa;subst nz;have t1:decide ((((af b).length+1:Nat):Int)<(((af b).length+1:Nat):Int))=false:=decide_eq_false aa;rw[cS b aa,cS a aa]at b7;have mN:(aA out ((af b).length+1)).toNat=a+b:=by
      have:=r9 hc (cj hw _) b7 (cp b) (cp a) aa;omega
     have GD:=xg out ((af b).length+1) aa aa hw 47 true;rw[mN]at GD;conv=>whnf
     (repeat(first|(refine ae rfl rfl ?_;conv=>whnf)|(refine od aJ rfl ?_;conv=>whnf)|(rw[t1];conv=>whnf)))
     exact au.refl _
   ·rw[decide_eq_false (show ¬((af a).length:Int)<((af b).length:Int) by omega)];have ew:ε.wrap (((af a).length:Int)+1)=(((af a).length+1:Nat):Int):=by rw[wrap_i64 aa aa];omega
    (repeat(first|(refine ae rfl rfl ?_;conv=>whnf)|(refine Ξ Q5 ?_;conv=>whnf)|(rw[ew];conv=>whnf)))
    refine⟨_,[(47,⟨23,true,.ints .u32 (θ ((af a).length+1) 0)⟩),(1001,⟨23,true,.ints .u32 (cC a)⟩)],[],[(47,⟨23,true,.ints .u32 (af a++[0])⟩)],rY (c:=(af a).length) (n:=(af a).length+1) rfl rfl rfl (ai rfl) (ai rfl) (aH.get (t:=207) rfl) rfl (aH.get (t:=23) rfl) (η ..) (Δ _ (η ..)) rfl rfl rfl rfl (by simp[gu]) (by show 0+_<=(cC a).length;have:=cN a;omega) (acR (ahH _)).symm (iZ a),gC rfl rfl,ak,eT (η ..) rfl rfl rfl, ?_⟩;conv=>whnf
    skip
    refine av hE (λk=>k) [4,8,9,10,52,53] [4,1002,47] (λm fr hp=>∃(i:Nat) (out:List Int) (c:Nat),m=(af a).length+1 - i/\i<=(af a).length+1/\c<=1/\out.length=(af a).length+1/\gQ out/\(∀j,i<=j->out.getD j 0=(af a).getD j 0)/\aA out i+c*4294967296^i=aA (af a) i+aA (af b) i/\
     fr=[(4,.ptr 4 0 0 0),(8,.aM 1002 1 0 (af b).length),(9,.aM 47 1 0 ((af a).length+1)),(10,.val (.int .u32 c)),(52,.val (.int .i64 (((af a).length+1:Nat)))),(53,.val (.int .i64 i))]/\hp=[(4,⟨43,true,.one [.nat 0]⟩),(1002,⟨23,true,.ints .u32 (cC b)⟩),(47,⟨23,true,.ints .u32 out⟩)]) ((af a).length+1) ?_ ?_ ?_
    ·kernel_rfl
    ·exact⟨0,af a++[0],0,aa,aa,aa,by simp,oN (aY a),(λj _=>mw _ j),by simp[aA],rfl,rfl⟩
    rintro m _ _ ⟨i,out,c,rfl,hi,hc,hlen,hw,cF,b7,rfl,rfl⟩;by_cases aE:i<(af a).length+1
    ·have t1:decide ((i:Int)<(((af a).length+1:Nat):Int))=true:=decide_eq_true aa;have e1:0+(i:Int).toNat=i:=aa;have e2:ε.wrap ((i:Int)+1)=((i+1:Nat):Int):=by rw[wrap_i64 aa aa];omega
     obtain⟨o,ho⟩:=Α (hw i).1;obtain⟨w,hww⟩:=Α (aY b i).1;have UA:=(hw i).2;have pq:=(aY b i).2;have UB:=nP o w c aa aa hc;have hX:(af a).getD i 0=o:=by rw[<-cF i (ζ _)];exact ho
     have cE:=oO aa ho hX hww b7;have ot:(o+w+c)/4294967296<=1:=aa;have eb:∀j,i+1<=j->(out.set i (((o+w+c) % 4294967296:Nat):Int)).getD j 0=(af a).getD j 0:=λj hj=>by
      rw[aT,if_neg aa];exact cF j aa
     by_cases hy:i<(af b).length
     ·have t2:decide ((i:Int)<((af b).length:Int))=true:=decide_eq_true aa;have MI:=cN b;have e3:(cC b).getD i 0=(w:Int):=by rw[eH hy];exact hww
      conv=>whnf
      (repeat((first|refine ag rfl rfl ?_|refine Ξ Q5 ?_|refine aN aJ ?_|rw[t1]|rw[t2]|rw[e1]|rw[e3]|rw[ho]);conv=>whnf))
      rw[e2];exact⟨(af a).length+1 - (i+1),λk=>k,[4,8,9,10,52,53],[4,1002,47],aa,aD,i+1,_,_,rfl,aa,ot,by simpa using hlen,hw.set aa aa,eb,cE,rfl,rfl⟩
     ·have t2:decide ((i:Int)<((af b).length:Int))=false:=decide_eq_false aa;have KO:w=0:=by have:=ep (xs:=af b) (i:=i) aa;omega
      subst KO;conv=>whnf
      (repeat((first|refine ag rfl rfl ?_|refine ae rfl rfl ?_|refine Ξ Q5 ?_|refine aN aJ ?_|rw[t1]|rw[t2]|rw[e1]|rw[ho]);conv=>whnf))
      rw[e2];exact⟨(af a).length+1 - (i+1),λk=>k,[4,8,9,10,52,53],[4,1002,47],aa,aD,i+1,_,_,rfl,aa,ot,by simpa using hlen,hw.set aa aa,eb,cE,rfl,rfl⟩
    ·have nz:i=(af a).length+1:=aa;subst nz;have t1:decide ((((af a).length+1:Nat):Int)<(((af a).length+1:Nat):Int))=false:=decide_eq_false aa;rw[cS a aa,cS b aa]at b7;have mN:(aA out ((af a).length+1)).toNat=a+b:=by
      have:=r9 hc (cj hw _) b7 (cp a) (cp b) aa;omega
     have GD:=xg out ((af a).length+1) aa aa hw 47 true;rw[mN]at GD;conv=>whnf
     (repeat(first|(refine ae rfl rfl ?_;conv=>whnf)|(refine od aJ rfl ?_;conv=>whnf)|(rw[t1];conv=>whnf)))
     exact au.refl _
theorem Px (a b:Nat) (ha:(af a).length<549755813888) (hb:(af b).length<549755813888) (h:a<b):
  C0 149 [.nat a,.nat b] (.bQ [.nat 0,.val (.bool false)]):=by
 have k1:=GC a b aa aa;rw[ϕ (show(a:Int) - b<0 by omega)]at k1;refine bB [] Tryz.func149 ?_;intro W0 w0 ρ0 hE;conv=>whnf
 (repeat(first|(refine ag rfl rfl ?_;conv=>whnf)|(refine aN aJ ?_;conv=>whnf)));exact au.refl _
theorem Py {X Y out:List Int} {i o w c:Nat} (hi:i<out.length) (ho:out.getD i 0=o) (hX:X.getD i 0=o) (hY:Y.getD i 0=w) (hv:aA out i - c*4294967296^i=aA X i - aA Y i)
  (FO:o<4294967296) (hwl:w<4294967296) (hc:c<=1):
  aA (out.set i (((o+4294967296 - w - c) % 4294967296:Nat):Int)) (i+1) - ((if o<w+c then 1 else 0:Nat):Int)*4294967296^(i+1)=aA X (i+1) - aA Y (i+1):=by
 rw[aA,aA,aA,dw (ζ i),aT,if_pos ⟨rfl,hi⟩,hX,hY,ϫ];have hd:(((o+4294967296 - w - c) % 4294967296:Nat):Int)=(o:Int) - w - c+((if o<w+c then 1 else 0:Nat):Int)*4294967296:=by
  split<;>omega
 rw[hd];generalize ((if o<w+c then 1 else 0:Nat):Int)=q;generalize (4294967296:Int)^i=P at*;grind
theorem YM (a b:Nat) (ha:(af a).length<549755813888) (h:b<=a):
  C0 149 [.nat a,.nat b] (.bQ [.nat (a - b),.val (.bool true)]):=by
 by_cases hs:a<18446744073709551616
 ·exact aes a b hs h
 ·have Vy:(af b).length<=(af a).length:=iX (ϓ h (cp a));have k1:=GC a b aa aa;have ht:decide (((a:Int) - b).sign<0)=false:=decide_eq_false Q33;have ka:=jt a 1001 aa;have kb:=jt b 1002 aa;refine bB [] Tryz.func149 ?_;intro W0 w0 ρ0 hE;conv=>whnf
  (repeat(first|(refine ae rfl rfl ?_;conv=>whnf)|(refine aN aJ ?_;conv=>whnf)|(rw[ht];conv=>whnf)))
  rw[dO,decide_eq_false hs]
  (repeat(first|(refine ae rfl rfl ?_;conv=>whnf)|(refine aq aD ?_;conv=>whnf)|(refine oe aJ rfl ?_;conv=>whnf)))
  rw[show cC a=af a from if_neg hs]
  refine av hE (λk=>k) [4,6,7,8,30,31] [4,1001,1002] (λm fr hp=>∃(i:Nat) (out:List Int) (c:Nat),m=(af a).length - i/\i<=(af a).length/\c<=1/\out.length=(af a).length/\gQ out/\(∀j,i<=j->out.getD j 0=(af a).getD j 0)/\aA out i - c*4294967296^i=aA (af a) i - aA (af b) i/\
   fr=[(4,.ptr 4 0 0 0),(6,.aM 1001 1 0 (af a).length),(7,.aM 1002 1 0 (af b).length),(8,.val (.int .u32 c)),(30,.val (.int .i64 ((af a).length:Nat))),(31,.val (.int .i64 i))]/\hp=[(4,⟨43,true,.one [.nat 0]⟩),(1001,⟨23,true,.ints .u32 out⟩),(1002,⟨23,true,.ints .u32 (cC b)⟩)]) (af a).length ?_ ?_ ?_
  ·kernel_rfl
  ·exact⟨0,af a,0,aa,aa,aa,rfl,aY a,(λj _=>rfl),by simp[aA],rfl,rfl⟩
  rintro m _ _ ⟨i,out,c,rfl,hi,hc,hlen,hw,cF,b7,rfl,rfl⟩;by_cases aE:i<(af a).length
  ·have t1:decide ((i:Int)<((af a).length:Int))=true:=decide_eq_true aa;have e1:0+(i:Int).toNat=i:=aa;have e2:ε.wrap ((i:Int)+1)=((i+1:Nat):Int):=by rw[wrap_i64 aa aa];omega
   obtain⟨o,ho⟩:=Α (hw i).1;obtain⟨w,hww⟩:=Α (aY b i).1;have UA:=(hw i).2;have pq:=(aY b i).2;have UB:=Er o w c aa aa hc;have hX:(af a).getD i 0=o:=by rw[<-cF i (ζ _)];exact ho
   have cE:=Py aa ho hX hww b7 aa aa hc;have ot:(if o<w+c then 1 else 0:Nat)<=1:=by split<;>omega
   have eb:∀j,i+1<=j->(out.set i (((o+4294967296 - w - c) % 4294967296:Nat):Int)).getD j 0=(af a).getD j 0:=λj hj=>by
    rw[aT,if_neg aa];exact cF j aa
   by_cases hy:i<(af b).length
   ·have t2:decide ((i:Int)<((af b).length:Int))=true:=decide_eq_true aa;have MI:=cN b;have e3:(cC b).getD i 0=(w:Int):=by rw[eH hy];exact hww
    conv=>whnf
    (repeat((first|refine ag rfl rfl ?_|refine Ξ Q5 ?_|refine aN aJ ?_|rw[t1]|rw[t2]|rw[e1]|rw[e3]|rw[ho]);conv=>whnf))
    rw[e2];exact⟨(af a).length - (i+1),λk=>k,[4,6,7,8,30,31],[4,1001,1002],aa,aD,i+1,_,_,rfl,aa,ot,by simpa using hlen,hw.set aa aa,eb,cE,rfl,rfl⟩
   ·have t2:decide ((i:Int)<((af b).length:Int))=false:=decide_eq_false aa;have KO:w=0:=by have:=ep (xs:=af b) (i:=i) aa;omega
    subst KO;conv=>whnf
    (repeat((first|refine ag rfl rfl ?_|refine ae rfl rfl ?_|refine Ξ Q5 ?_|refine aN aJ ?_|rw[t1]|rw[t2]|rw[e1]|rw[ho]);conv=>whnf))
    rw[e2];exact⟨(af a).length - (i+1),λk=>k,[4,6,7,8,30,31],[4,1001,1002],aa,aD,i+1,_,_,rfl,aa,ot,by simpa using hlen,hw.set aa aa,eb,cE,rfl,rfl⟩
  ·have nz:i=(af a).length:=aa;subst nz;have t1:decide (((af a).length:Int)<((af a).length:Int))=false:=decide_eq_false aa;rw[cS a aa,cS b aa]at b7;have mN:(aA out (af a).length).toNat=a - b:=by
    have h1:=iG hw (af a).length;have h2:=oG (af a).length;have Jk:c=0\/c=1:=aa;rcases Jk with rfl|rfl<;>omega
   have GD:=xg out (af a).length aa aa hw 1001 true;rw[mN]at GD;conv=>whnf
   (repeat(first|(refine ae rfl rfl ?_;conv=>whnf)|(refine od aJ rfl ?_;conv=>whnf)|(rw[t1];conv=>whnf)))
   exact au.refl _
theorem Jl (p:Nat) (h:p<340282366920938463463374607431768211456):
  aA [((p % 18446744073709551616 % 4294967296:Nat):Int),((p % 18446744073709551616/4294967296:Nat):Int),((p/18446744073709551616 % 4294967296:Nat):Int),((p/18446744073709551616/4294967296:Nat):Int)] 4=p/\
  gQ [((p % 18446744073709551616 % 4294967296:Nat):Int),((p % 18446744073709551616/4294967296:Nat):Int),((p/18446744073709551616 % 4294967296:Nat):Int),((p/18446744073709551616/4294967296:Nat):Int)]:=by
 constructor
 ·simp only[aA,aeL,abt,ϫ,ag1];omega
 ·refine El λx hx=> ?_
  simp only[Λ,afT,or_false]at hx;rcases hx with rfl|rfl|rfl|rfl<;>omega
theorem Vz (a b:Nat) (ha:a<18446744073709551616) (hb:b<18446744073709551616):
  C0 94 [.nat a,.nat b] (.nat (a*b)):=by
 have k1:=Vv a b ha hb;have hp:a*b<340282366920938463463374607431768211456:=by
  have:=Ϧ (show a<=18446744073709551615 by omega) (show b<=18446744073709551615 by omega);omega
 obtain⟨h1,h2⟩:=Jl (a*b) hp;have e1:Φ.wrap ((a*b % 18446744073709551616:Nat):Int)=((a*b % 18446744073709551616 % 4294967296:Nat):Int):=rf _;have e2:Φ.wrap (lG .u64 ((a*b % 18446744073709551616:Nat):Int) 32)=((a*b % 18446744073709551616/4294967296:Nat):Int):=by rw[gR,qw aa]
 have e3:Φ.wrap ((a*b/18446744073709551616:Nat):Int)=((a*b/18446744073709551616 % 4294967296:Nat):Int):=rf _;have e4:Φ.wrap (lG .u64 ((a*b/18446744073709551616:Nat):Int) 32)=((a*b/18446744073709551616/4294967296:Nat):Int):=by rw[gR,qw aa]
 have so:=xg _ 4 (by simp) (by simp) h2 41 true;rw[h1,ι]at so;refine bB [] Tryz.func94 ?_;intro W0 w0 ρ0 hE;conv=>whnf
 rw[dO,decide_eq_true ha]
 (repeat(first|(refine ag rfl rfl ?_;conv=>whnf)|(refine an er ?_;conv=>whnf)))
 rw[dO,decide_eq_true hb]
 (repeat((first|refine ag rfl rfl ?_|refine Ξ Q5 ?_|refine aN aJ ?_|refine od aJ rfl ?_|rw[cD ha]|rw[cD hb]|rw[e1]|rw[e2]|rw[e3]|rw[e4]);conv=>whnf))
 exact au.refl _
theorem GF {out o2 Y:List Int} {i k o w v c:Nat} (hi:i+k<o2.length) (ho:o2.getD (i+k) 0=o) (hout:out.getD (i+k) 0=o) (hY:Y.getD k 0=v)
  (hv:aA o2 (i+k)+c*4294967296^(i+k)=aA out (i+k)+w*4294967296^i*aA Y k):
  aA (o2.set (i+k) (((c+(w*v+o)) % 4294967296:Nat):Int)) (i+(k+1))+(((c+(w*v+o))/4294967296:Nat):Int)*4294967296^(i+(k+1))=aA out (i+(k+1))+w*4294967296^i*aA Y (k+1):=by
 rw[show i+(k+1)=(i+k)+1 from aa,aA,aA,aA,dw (ζ _),aT,if_pos ⟨rfl,hi⟩,hout,hY,ϫ];have hd:(((c+(w*v+o)) % 4294967296:Nat):Int)=(c:Int)+(w*v+o) - (((c+(w*v+o))/4294967296:Nat):Int)*4294967296:=by
  have:=abp (c+(w*v+o)) 4294967296;have h2:((w*v:Nat):Int)=(w:Int)*v:=Ρ _ _;omega
 rw[hd];rw[aiU]at hv ⊢;generalize (((c+(w*v+o))/4294967296:Nat):Int)=q;generalize (4294967296:Int)^i=P at*;generalize (4294967296:Int)^k=Q at*;grind
theorem K3 {out o2 X:List Int} {i l w c b:Nat} {Y:List Int} (hi:i+l<o2.length) (ho:o2.getD (i+l) 0=0) (hX:X.getD i 0=w) (hY:aA Y l=b)
  (b7:aA out (i+l)=aA X i*b) (hv:aA o2 (i+l)+c*4294967296^(i+l)=aA out (i+l)+w*4294967296^i*aA Y l):
  aA (o2.set (i+l) (c:Int)) (i+l+1)=aA X (i+1)*b:=by
 rw[aA,aA,dw (ζ _),aT,if_pos ⟨rfl,hi⟩,hX,hv,b7,hY];generalize (4294967296:Int)^i=P at*;grind
theorem YN (a b:Nat) (ha:(af a).length<274877906944) (hb:(af b).length<274877906944):
  C0 94 [.nat a,.nat b] (.nat (a*b)):=by
 by_cases hs:a<18446744073709551616/\b<18446744073709551616
 ·exact Vz a b hs.1 hs.2
 ·have ka:=jt a 1001 aa;have kb:=jt b 1002 aa;have ew:ε.wrap (((af a).length:Int)+((af b).length:Int))=(((af a).length+(af b).length:Nat):Int):=by rw[wrap_i64 aa aa];omega
  refine bB [] Tryz.func94 ?_;intro W0 w0 ρ0 hE;conv=>whnf
  by_cases h1:a<18446744073709551616
  ·rw[dO,decide_eq_true h1]
   (repeat(first|(refine ag rfl rfl ?_;conv=>whnf)|(refine an er ?_;conv=>whnf)))
   rw[dO,decide_eq_false (show ¬b<18446744073709551616 by omega)]
   (repeat((first|refine ae rfl rfl ?_|refine aq aD ?_|refine Ξ Q5 ?_|refine oe aJ rfl ?_|rw[ew]);conv=>whnf))
   refine av hE (λk=>k) [4,8,9,53,54,55] [4,1001,1002,52] (λm fr hp=>∃(i:Nat) (out:List Int),m=(af a).length - i/\i<=(af a).length/\out.length=(af a).length+(af b).length/\gQ out/\(∀j,i+(af b).length<=j->out.getD j 0=0)/\aA out (i+(af b).length)=aA (af a) i*b/\
    fr=[(4,.ptr 4 0 0 0),(8,.aM 1002 1 0 (af b).length),(9,.aM 52 1 0 ((af a).length+(af b).length)),(53,.aM 1001 1 0 (af a).length),(54,.val (.int .i64 ((af a).length:Nat))),(55,.val (.int .i64 i))]/\hp=[(4,⟨43,true,.one [.nat 0]⟩),(1001,⟨23,true,.ints .u32 (cC a)⟩),(1002,⟨23,true,.ints .u32 (cC b)⟩),(52,⟨23,true,.ints .u32 out⟩)]) (af a).length ?_ ?_ ?_
   ·kernel_rfl
   ·exact⟨0,θ ((af a).length+(af b).length) 0,rfl,aa,by simp,(λi=>by rw[bA];decide),(λj _=>bA),by rw[fv (k:=0) (λi _ _=>bA) aa];simp[aA],rfl,rfl⟩
   rintro m _ _ ⟨i,out,rfl,hi,hlen,hw,hz,b7,rfl,rfl⟩;by_cases aE:i<(af a).length
   ·have t1:decide ((i:Int)<((af a).length:Int))=true:=decide_eq_true aa;have e1:0+(i:Int).toNat=i:=aa;have e2:ε.wrap ((i:Int)+1)=((i+1:Nat):Int):=by rw[wrap_i64 aa aa];omega
    obtain⟨w,hww⟩:=Α (aY a i).1;have pq:=(aY a i).2;have FJ:=cN a;have e3:(cC a).getD i 0=(w:Int):=by rw[eH aE];exact hww
    conv=>whnf
    (repeat((first|refine ag rfl rfl ?_|refine Ξ Q5 ?_|rw[t1]|rw[e1]|rw[e3]);conv=>whnf))
    refine av hE (λk=>k) [4,8,9,10,11,12,53,54,55,60,61,62] [4,1001,1002,52] (λm fr hp=>∃(k:Nat) (o2:List Int) (c:Nat),m=(af b).length - k/\k<=(af b).length/\c<4294967296/\o2.length=(af a).length+(af b).length/\gQ o2/\(∀j,i+k<=j->o2.getD j 0=out.getD j 0)/\aA o2 (i+k)+c*4294967296^(i+k)=aA out (i+k)+w*4294967296^i*aA (af b) k/\
     fr=[(4,.ptr 4 0 0 0),(8,.aM 1002 1 0 (af b).length),(9,.aM 52 1 0 ((af a).length+(af b).length)),(10,.val (.int .i64 i)),(11,.val (.int .u32 w)),(12,.val (.int .u64 c)),(53,.aM 1001 1 0 (af a).length),(54,.val (.int .i64 ((af a).length:Nat))),(55,.val (.int .i64 i)),(60,.aM 1002 1 0 (af b).length),(61,.val (.int .i64 ((af b).length:Nat))),(62,.val (.int .i64 k))]/\hp=[(4,⟨43,true,.one [.nat 0]⟩),(1001,⟨23,true,.ints .u32 (cC a)⟩),(1002,⟨23,true,.ints .u32 (cC b)⟩),(52,⟨23,true,.ints .u32 o2⟩)]) (af b).length ?_ ?_ ?_
    ·kernel_rfl
    ·exact⟨0,out,0,rfl,aa,aa,hlen,hw,(λj _=>rfl),by simp[aA],rfl,rfl⟩
    rintro m _ _ ⟨k,o2,c,rfl,hk,hc,eg,hw2',cF,hval2,rfl,rfl⟩;have e4:ε.wrap ((k:Int)+1)=((k+1:Nat):Int):=by rw[wrap_i64 aa aa];omega
    have hbl:=cN b;by_cases hklt:k<(af b).length
    ·have t2:decide ((k:Int)<((af b).length:Int))=true:=decide_eq_true aa;have e5:0+(k:Int).toNat=k:=aa;have e6:ε.wrap ((i:Int)+k)=((i+k:Nat):Int):=by rw[wrap_i64 aa aa];omega
     have e7:0+((i+k:Nat):Int).toNat=i+k:=aa;obtain⟨v,hvv⟩:=Α (aY b k).1;have hv2:=(aY b k).2;obtain⟨o,ho⟩:=Α (hw2' (i+k)).1;have UA:=(hw2' (i+k)).2;have e8:(cC b).getD k 0=(v:Int):=by rw[eH hklt];exact hvv
     have hpv:w*v<=4294967295*4294967295:=Ϧ aa aa;have e9:Ζ.wrap ((c:Int)+Ζ.wrap (Ζ.wrap (Ζ.wrap (w:Int)*Ζ.wrap (v:Int))+Ζ.wrap (o:Int)))=((c+(w*v+o):Nat):Int):=by
      rw[eY (n:=w) aa,eY (n:=v) aa,eY (n:=o) aa,<-Ρ,eY (n:=w*v) aa,<-Ϫ,eY (n:=w*v+o) aa,<-Ϫ,eY aa]
     have GG:Φ.wrap ((c+(w*v+o):Nat):Int)=(((c+(w*v+o)) % 4294967296:Nat):Int):=rf _;have YO:lG .u64 ((c+(w*v+o):Nat):Int) 32=(((c+(w*v+o))/4294967296:Nat):Int):=gR _;have ot:(c+(w*v+o))/4294967296<4294967296:=aa;have cE:=GF (i:=i) (k:=k) (Y:=af b) aa ho (by rw[<-cF (i+k) (ζ _)];exact ho) hvv hval2;conv=>whnf
     (repeat((first|refine ag rfl rfl ?_|refine Ξ Q5 ?_|rw[t2]|rw[e5]|rw[e8]|rw[e6]|rw[e7]|rw[ho]|rw[e9]|rw[GG]|rw[YO]|rw[e4]);conv=>whnf))
     exact⟨(af b).length - (k+1),λk=>k,[4,8,9,10,11,12,53,54,55,60,61,62],[4,1001,1002,52],aa,aD,k+1,_,_,rfl,aa,ot,by simpa using eg,hw2'.set aa aa,(λj hj=>by rw[aT,if_neg aa];exact cF j aa),cE,rfl,rfl⟩
    ·have kQ:k=(af b).length:=aa;subst kQ;have t2:decide (((af b).length:Int)<((af b).length:Int))=false:=decide_eq_false aa;have e6:ε.wrap ((i:Int)+((af b).length:Int))=((i+(af b).length:Nat):Int):=by rw[wrap_i64 aa aa];omega
     have e7:0+((i+(af b).length:Nat):Int).toNat=i+(af b).length:=aa;have e8:Φ.wrap (c:Int)=(c:Int):=qw hc;have jB:=K3 (X:=af a) (o2:=o2) aa (by rw[cF _ (ζ _)];exact hz _ (ζ _)) hww (fJ b) b7 hval2;conv=>whnf
     (repeat((first|refine ae rfl rfl ?_|refine Ξ Q5 ?_|rw[t2]|rw[e6]|rw[e7]|rw[e8]|rw[e2]);conv=>whnf))
     exact⟨(af a).length - (i+1),λk=>k,[4,8,9,53,54,55],[4,1001,1002,52],aa,aD,i+1,_,rfl,aa,by simpa using eg,hw2'.set aa aa,(λj hj=>by rw[aT,if_neg aa,cF j aa];exact hz j aa),by rw[show i+1+(af b).length=i+(af b).length+1 from by omega];exact jB,rfl,rfl⟩
   ·have nz:i=(af a).length:=aa;subst nz;have t1:decide (((af a).length:Int)<((af a).length:Int))=false:=decide_eq_false aa;rw[fJ]at b7;have mN:(aA out ((af a).length+(af b).length)).toNat=a*b:=by
     rw[b7,<-Ρ,ι]
    have GD:=xg out ((af a).length+(af b).length) aa aa hw 52 true;rw[mN]at GD;conv=>whnf
    (repeat(first|(refine ae rfl rfl ?_;conv=>whnf)|(refine od aJ rfl ?_;conv=>whnf)|(rw[t1];conv=>whnf)))
    exact au.refl _
  ·rw[dO,decide_eq_false h1]
   (repeat((first|refine ae rfl rfl ?_|refine aq aD ?_|refine Ξ Q5 ?_|refine oe aJ rfl ?_|refine an dZ ?_|rw[ew]);conv=>whnf))
   refine av hE (λk=>k) [4,8,9,53,54,55] [4,1001,1002,52] (λm fr hp=>∃(i:Nat) (out:List Int),m=(af a).length - i/\i<=(af a).length/\out.length=(af a).length+(af b).length/\gQ out/\(∀j,i+(af b).length<=j->out.getD j 0=0)/\aA out (i+(af b).length)=aA (af a) i*b/\
    fr=[(4,.ptr 4 0 0 0),(8,.aM 1002 1 0 (af b).length),(9,.aM 52 1 0 ((af a).length+(af b).length)),(53,.aM 1001 1 0 (af a).length),(54,.val (.int .i64 ((af a).length:Nat))),(55,.val (.int .i64 i))]/\hp=[(4,⟨43,true,.one [.nat 0]⟩),(1001,⟨23,true,.ints .u32 (cC a)⟩),(1002,⟨23,true,.ints .u32 (cC b)⟩),(52,⟨23,true,.ints .u32 out⟩)]) (af a).length ?_ ?_ ?_
   ·kernel_rfl
   ·exact⟨0,θ ((af a).length+(af b).length) 0,rfl,aa,by simp,(λi=>by rw[bA];decide),(λj _=>bA),by rw[fv (k:=0) (λi _ _=>bA) aa];simp[aA],rfl,rfl⟩
   rintro m _ _ ⟨i,out,rfl,hi,hlen,hw,hz,b7,rfl,rfl⟩;by_cases aE:i<(af a).length
   ·have t1:decide ((i:Int)<((af a).length:Int))=true:=decide_eq_true aa;have e1:0+(i:Int).toNat=i:=aa;have e2:ε.wrap ((i:Int)+1)=((i+1:Nat):Int):=by rw[wrap_i64 aa aa];omega
    obtain⟨w,hww⟩:=Α (aY a i).1;have pq:=(aY a i).2;have FJ:=cN a;have e3:(cC a).getD i 0=(w:Int):=by rw[eH aE];exact hww
    conv=>whnf
    (repeat((first|refine ag rfl rfl ?_|refine Ξ Q5 ?_|rw[t1]|rw[e1]|rw[e3]);conv=>whnf))
    refine av hE (λk=>k) [4,8,9,10,11,12,53,54,55,60,61,62] [4,1001,1002,52] (λm fr hp=>∃(k:Nat) (o2:List Int) (c:Nat),m=(af b).length - k/\k<=(af b).length/\c<4294967296/\o2.length=(af a).length+(af b).length/\gQ o2/\(∀j,i+k<=j->o2.getD j 0=out.getD j 0)/\aA o2 (i+k)+c*4294967296^(i+k)=aA out (i+k)+w*4294967296^i*aA (af b) k/\
     fr=[(4,.ptr 4 0 0 0),(8,.aM 1002 1 0 (af b).length),(9,.aM 52 1 0 ((af a).length+(af b).length)),(10,.val (.int .i64 i)),(11,.val (.int .u32 w)),(12,.val (.int .u64 c)),(53,.aM 1001 1 0 (af a).length),(54,.val (.int .i64 ((af a).length:Nat))),(55,.val (.int .i64 i)),(60,.aM 1002 1 0 (af b).length),(61,.val (.int .i64 ((af b).length:Nat))),(62,.val (.int .i64 k))]/\hp=[(4,⟨43,true,.one [.nat 0]⟩),(1001,⟨23,true,.ints .u32 (cC a)⟩),(1002,⟨23,true,.ints .u32 (cC b)⟩),(52,⟨23,true,.ints .u32 o2⟩)]) (af b).length ?_ ?_ ?_
    ·kernel_rfl
    ·exact⟨0,out,0,rfl,aa,aa,hlen,hw,(λj _=>rfl),by simp[aA],rfl,rfl⟩
    rintro m _ _ ⟨k,o2,c,rfl,hk,hc,eg,hw2',cF,hval2,rfl,rfl⟩;have e4:ε.wrap ((k:Int)+1)=((k+1:Nat):Int):=by rw[wrap_i64 aa aa];omega
    have hbl:=cN b;by_cases hklt:k<(af b).length
    ·have t2:decide ((k:Int)<((af b).length:Int))=true:=decide_eq_true aa;have e5:0+(k:Int).toNat=k:=aa;have e6:ε.wrap ((i:Int)+k)=((i+k:Nat):Int):=by rw[wrap_i64 aa aa];omega
     have e7:0+((i+k:Nat):Int).toNat=i+k:=aa;obtain⟨v,hvv⟩:=Α (aY b k).1;have hv2:=(aY b k).2;obtain⟨o,ho⟩:=Α (hw2' (i+k)).1;have UA:=(hw2' (i+k)).2;have e8:(cC b).getD k 0=(v:Int):=by rw[eH hklt];exact hvv
     have hpv:w*v<=4294967295*4294967295:=Ϧ aa aa;have e9:Ζ.wrap ((c:Int)+Ζ.wrap (Ζ.wrap (Ζ.wrap (w:Int)*Ζ.wrap (v:Int))+Ζ.wrap (o:Int)))=((c+(w*v+o):Nat):Int):=by
      rw[eY (n:=w) aa,eY (n:=v) aa,eY (n:=o) aa,<-Ρ,eY (n:=w*v) aa,<-Ϫ,eY (n:=w*v+o) aa,<-Ϫ,eY aa]
     have GG:Φ.wrap ((c+(w*v+o):Nat):Int)=(((c+(w*v+o)) % 4294967296:Nat):Int):=rf _;have YO:lG .u64 ((c+(w*v+o):Nat):Int) 32=(((c+(w*v+o))/4294967296:Nat):Int):=gR _;have ot:(c+(w*v+o))/4294967296<4294967296:=aa;have cE:=GF (i:=i) (k:=k) (Y:=af b) aa ho (by rw[<-cF (i+k) (ζ _)];exact ho) hvv hval2;conv=>whnf
     (repeat((first|refine ag rfl rfl ?_|refine Ξ Q5 ?_|rw[t2]|rw[e5]|rw[e8]|rw[e6]|rw[e7]|rw[ho]|rw[e9]|rw[GG]|rw[YO]|rw[e4]);conv=>whnf))
     exact⟨(af b).length - (k+1),λk=>k,[4,8,9,10,11,12,53,54,55,60,61,62],[4,1001,1002,52],aa,aD,k+1,_,_,rfl,aa,ot,by simpa using eg,hw2'.set aa aa,(λj hj=>by rw[aT,if_neg aa];exact cF j aa),cE,rfl,rfl⟩
    ·have kQ:k=(af b).length:=aa;subst kQ;have t2:decide (((af b).length:Int)<((af b).length:Int))=false:=decide_eq_false aa;have e6:ε.wrap ((i:Int)+((af b).length:Int))=((i+(af b).length:Nat):Int):=by rw[wrap_i64 aa aa];omega
     have e7:0+((i+(af b).length:Nat):Int).toNat=i+(af b).length:=aa;have e8:Φ.wrap (c:Int)=(c:Int):=qw hc;have jB:=K3 (X:=af a) (o2:=o2) aa (by rw[cF _ (ζ _)];exact hz _ (ζ _)) hww (fJ b) b7 hval2;conv=>whnf
     (repeat((first|refine ae rfl rfl ?_|refine Ξ Q5 ?_|rw[t2]|rw[e6]|rw[e7]|rw[e8]|rw[e2]);conv=>whnf))
     exact⟨(af a).length - (i+1),λk=>k,[4,8,9,53,54,55],[4,1001,1002,52],aa,aD,i+1,_,rfl,aa,by simpa using eg,hw2'.set aa aa,(λj hj=>by rw[aT,if_neg aa,cF j aa];exact hz j aa),by rw[show i+1+(af b).length=i+(af b).length+1 from by omega];exact jB,rfl,rfl⟩
   ·have nz:i=(af a).length:=aa;subst nz;have t1:decide (((af a).length:Int)<((af a).length:Int))=false:=decide_eq_false aa;rw[fJ]at b7;have mN:(aA out ((af a).length+(af b).length)).toNat=a*b:=by
     rw[b7,<-Ρ,ι]
    have GD:=xg out ((af a).length+(af b).length) aa aa hw 52 true;rw[mN]at GD;conv=>whnf
    (repeat(first|(refine ae rfl rfl ?_;conv=>whnf)|(refine od aJ rfl ?_;conv=>whnf)|(rw[t1];conv=>whnf)))
    exact au.refl _
theorem K4 (xs:List Int) (n:Nat) (hn:n<=xs.length) (hl:xs.length<1099511627776) (hx:gQ xs) (y:Nat) (hy0:y≠0) (hy:y<4294967296) (K Q:Nat) (hKQ:Q≠K) (wr:Bool) (X:Nat) (hX:aA xs n=X):
  aL Tryz.prog 176 [.aM K 1 0 n,.val (.int .u32 y)] [(K,⟨23,wr,.ints .u32 xs⟩)] (.bQ [.aM Q 1 0 n,.val (.int .u32 (X % y:Nat))]) [(Q,⟨23,true,.ints .u32 (bK (X/y) n)⟩)] []:=by
 refine aL.vF ?_;refine gY (Z:=[]) aH bC Tryz.func176 rfl aD (args:=[.aM 0 1 0 n,.val (.int .u32 y)]) (fk:=[(0,⟨23,false,.ints .u32 xs⟩)]) (c:=.bQ [.aM 9 1 0 n,.val (.int .u32 (X % y:Nat))]) (new:=[(9,⟨23,true,.ints .u32 (bK (X/y) n)⟩)]) (upd:=[]) (cb.of rfl rfl rfl rfl rfl rfl rfl rfl rfl rfl rfl) rfl (dA [(0,K),(9,Q)]) (bl.Ya rfl (λq hq=>by simp[az]at hq;subst hq;exact hKQ)) ?_;intro W0 w0 ρ0 hE;conv=>whnf
 have e0:ε.wrap ((n:Int) - 1)=(n:Int) - 1:=wrap_i64 aa aa
 (repeat(first|(refine Ξ Q5 ?_;conv=>whnf)|(rw[e0];conv=>whnf)))
 refine av hE (λk=>k) [0,1,4,5,6] [0,9] (λj fr hp=>∃(q:List Int) (r:Nat),j<=n/\q.length=n/\gQ q/\(∀i,i<j->q.getD i 0=0)/\r<y/\aA q n*y+r*4294967296^j=X - aA xs j/\
  fr=[(0,.aM 0 1 0 n),(1,.val (.int .u32 y)),(4,.aM 9 1 0 n),(5,.val (.int .u32 r)),(6,.val (.int .i64 ((j:Int) - 1)))]/\hp=[(0,⟨23,false,.ints .u32 xs⟩),(9,⟨23,true,.ints .u32 q⟩)]) n ?_ ?_ ?_
 ·kernel_rfl
 ·exact⟨θ n 0,0,aa,by simp,(λi=>by rw[bA];decide),(λi _=>bA),aa,by rw[fv (k:=0) (λi _ _=>bA) aa,hX];simp[aA],rfl,rfl⟩
 rintro j _ _ ⟨q,r,hj,hql,hq,Jm,hr,b7,rfl,rfl⟩;by_cases h0:j=0
 ·subst h0;have t2:decide (((0:Nat):Int) - 1>=0)=false:=rfl;obtain⟨Qv,hQ⟩:=Α (cj hq n);have hX2:Qv*y+r=X:=by
   rw[hQ,ag1,aiE,aA,aiG,<-Ρ]at b7;omega
  have hdiv:X/y=Qv:=by rw[<-hX2,afk,Nat.add_mul_div_right _ _ aa,Ϯ hr,υ]
  have abf:X % y=r:=by rw[<-hX2,afk,ajK,Υ hr]
  rw[hdiv,abf,<-q7 hql hq hQ];conv=>whnf
  (repeat(first|(refine ae rfl rfl ?_;conv=>whnf)))
  exact⟨au.refl _,vM rfl,(λ_ _ h=>by cases h)⟩
 ·obtain⟨i,rfl⟩:∃i,j=i+1:=⟨j - 1,aa⟩;have ei:(((i+1:Nat):Int) - 1)=(i:Int):=aa;rw[ei];have t2:decide ((i:Int)>=0)=true:=decide_eq_true aa;have e1:0+(i:Int).toNat=i:=aa;have e2:ε.wrap ((i:Int) - 1)=(i:Int) - 1:=wrap_i64 aa aa;obtain⟨w,hww⟩:=Α (hx i).1;have pq:=(hx i).2;have kd:=Vw r w y hr aa hy;have YP:(r*4294967296+w) % y<y:=ab8 _ aa
  have hqd:(r*4294967296+w)/y<4294967296:=afX (by
   have:=ο 4294967296 (show r+1<=y by omega)
   rw[Ϣ y];omega)
  have cE:aA (q.set i (((r*4294967296+w)/y:Nat):Int)) n*y+(((r*4294967296+w) % y:Nat):Int)*4294967296^i=X - aA xs i:=by
   rw[oJ aa aa,Jm i aa,aiG];have hdm:((y:Int)*(((r*4294967296+w)/y:Nat):Int)+(((r*4294967296+w) % y:Nat):Int))=(r:Int)*4294967296+w:=by
    have:=abp (r*4294967296+w) y;rw[<-Ρ,<-Ϫ,this];omega
   rw[ϫ,aA,hww]at b7;generalize (((r*4294967296+w)/y:Nat):Int)=d at*;generalize (((r*4294967296+w) % y:Nat):Int)=e at*;generalize (4294967296:Int)^i=P at*;grind
  conv=>whnf
  (repeat((first|refine ag rfl rfl ?_|refine Ξ Q5 ?_|refine aN aJ ?_|rw[t2]|rw[e1]|rw[hww]|rw[e2]);conv=>whnf))
  exact⟨i,λk=>k,[0,1,4,5,6],[0,9],aa,aD,_,_,aa,by simpa using hql,hq.set (ak5 _) (aiT.2 hqd),(λj hj=>by rw[aT,if_neg aa];exact Jm j aa),YP,cE,rfl,rfl⟩
theorem abg {w s c:Nat} (hs:s<32) (hc:c<2^s) (hw:w<4294967296):
  ID .u32 (lR .u32 (w:Int) (s:Int)) (c:Int)=((w*2^s % 4294967296+c:Nat):Int)/\w*2^s % 4294967296+c<4294967296:=by
 have Pw:min (s:Int).toNat Φ.bits=s:=by simp[abG];omega
 have e:lR .u32 (w:Int) (s:Int)=((w*2^s % 4294967296:Nat):Int):=by
  rw[lR,Pw,show(w:Int)*2^s=((w*2^s:Nat):Int)from by rw[Ρ,ae1];rfl];exact rf _
 have hW:4294967296=2^(32 - s)*2^s:=by rw[<-acU,show 32 - s+s=32 from by omega]
 have e2:w*2^s % 4294967296=2^s*(w % 2^(32 - s)):=by
  rw[hW,Nat.mul_mod_mul_right,Ϣ]
 have hm:w*2^s % 4294967296<4294967296:=ab8 _ ax;have aE:w % 2^(32 - s)<2^(32 - s):=ab8 _ (aeo _);have mN:w*2^s % 4294967296+c<4294967296:=by
  rw[e2];have:=ϧ (2^s) (show w % 2^(32 - s)+1<=2^(32 - s)from aE);rw[Ϣ (2^s) (2^(32 - s)),<-hW,afm,alp]at this;omega
 refine⟨?_,mN⟩;rw[e,yO hm aa];congr 1;rw[e2,<-aep hc]
theorem CZ (xs:List Int) (n:Nat) (hn:n<=xs.length) (hl:xs.length<1099511627776) (hx:gQ xs) (s:Nat) (hs:s<32) (K Q:Nat) (hKQ:Q≠K) (wr:Bool) (X:Nat) (hX:aA xs n=X):
  aL Tryz.prog 218 [.aM K 1 0 n,.val (.int .i64 s)] [(K,⟨23,wr,.ints .u32 xs⟩)] (.aM Q 1 0 (n+1)) [(Q,⟨23,true,.ints .u32 (bK (X*2^s) (n+1))⟩)] []:=by
 refine aL.vF ?_;refine gY (Z:=[]) aH bC Tryz.func218 rfl aD (args:=[.aM 0 1 0 n,.val (.int .i64 s)]) (fk:=[(0,⟨23,false,.ints .u32 xs⟩)]) (c:=.aM 12 1 0 (n+1)) (new:=[(12,⟨23,true,.ints .u32 (bK (X*2^s) (n+1))⟩)]) (upd:=[]) (cb.of rfl rfl rfl rfl rfl rfl rfl rfl rfl rfl rfl) rfl (dA [(0,K),(12,Q)]) (bl.Ya rfl (λq hq=>by simp[az]at hq;subst hq;exact hKQ)) ?_;intro W0 w0 ρ0 hE;conv=>whnf
 have ew:ε.wrap ((n:Int)+1)=((n+1:Nat):Int):=by rw[wrap_i64 aa aa];omega
 (repeat(first|(refine Ξ Q5 ?_;conv=>whnf)|(rw[ew];conv=>whnf)))
 refine av hE (λk=>k) [0,1,5,6,13,14,15] [0,12] (λm fr hp=>∃(i:Nat) (out:List Int) (c:Nat),m=n - i/\i<=n/\out.length=n+1/\gQ out/\c<2^s/\aA out i+c*4294967296^i=aA xs i*2^s/\
  fr=[(0,.aM 0 1 0 n),(1,.val (.int .i64 s)),(5,.aM 12 1 0 (n+1)),(6,.val (.int .u32 c)),(13,.aM 0 1 0 n),(14,.val (.int .i64 n)),(15,.val (.int .i64 i))]/\hp=[(0,⟨23,false,.ints .u32 xs⟩),(12,⟨23,true,.ints .u32 out⟩)]) n ?_ ?_ ?_
 ·kernel_rfl
 ·exact⟨0,θ (n+1) 0,0,aa,aa,by simp,(λi=>by rw[bA];decide),aeo s,by simp[aA],rfl,rfl⟩
 rintro m _ _ ⟨i,out,c,rfl,hi,hlen,hw,hc,b7,rfl,rfl⟩;have agZ:2^s<=2147483648:=Ι (ύ ax (show s<=31 by omega)) ax;by_cases aE:i<n
 ·have t1:decide ((i:Int)<(n:Int))=true:=decide_eq_true aa;have e1:0+(i:Int).toNat=i:=aa;have e2:ε.wrap ((i:Int)+1)=((i+1:Nat):Int):=by rw[wrap_i64 aa aa];omega
  obtain⟨w,hww⟩:=Α (hx i).1;have pq:=(hx i).2;obtain⟨f1,f2⟩:=abg (w:=w) hs hc aa;have X9:w*2^s<=4294967295*2147483648:=Ϧ aa agZ;have f3:Φ.wrap (lG .u64 (lR .u64 (Ζ.wrap (w:Int)) (s:Int)) 32)=((w*2^s/4294967296:Nat):Int):=by
   have Pw:min (s:Int).toNat Ζ.bits=s:=by simp[abG];omega
   rw[eY (n:=w) aa,lR,Pw,show(w:Int)*2^s=((w*2^s:Nat):Int)from by rw[Ρ,ae1];rfl,eY aa,gR,qw aa]
  have ot:w*2^s/4294967296<2^s:=afX (by
   exact ag8 aa (aeo s))
  have cE:aA (out.set i ((w*2^s % 4294967296+c:Nat):Int)) (i+1)+((w*2^s/4294967296:Nat):Int)*4294967296^(i+1)=aA xs (i+1)*2^s:=by
   rw[aA,aA,dw (ζ _),aT,if_pos ⟨rfl,aa⟩,hww,ϫ];have hd:((w*2^s % 4294967296+c:Nat):Int)=(w:Int)*2^s+c - ((w*2^s/4294967296:Nat):Int)*4294967296:=by
    have:=abp (w*2^s) 4294967296;have h2:((w*2^s:Nat):Int)=(w:Int)*2^s:=by rw[Ρ,ae1];rfl
    omega
   rw[hd];generalize ((w*2^s/4294967296:Nat):Int)=q;generalize (4294967296:Int)^i=P at*;generalize (2:Int)^s=S at*;grind
  conv=>whnf
  (repeat((first|refine ag rfl rfl ?_|refine Ξ Q5 ?_|rw[t1]|rw[e1]|rw[hww]|rw[f1]|rw[f3]|rw[e2]);conv=>whnf))
  exact⟨n - (i+1),λk=>k,[0,1,5,6,13,14,15],[0,12],aa,aD,i+1,_,_,rfl,aa,by simpa using hlen,hw.set aa aa,ot,cE,rfl,rfl⟩
 ·have nz:i=n:=aa;subst nz;have t1:decide ((i:Int)<(i:Int))=false:=decide_eq_false aa;have e1:0+(i:Int).toNat=i:=aa;have FF:c<4294967296:=aa;have jB:aA (out.set i (c:Int)) (i+1)=((X*2^s:Nat):Int):=by
   rw[aA,dw (ζ _),aT,if_pos ⟨rfl,aa⟩,b7,hX,Ρ,ae1];rfl
  rw[<-q7 (xs:=out.set i (c:Int)) (by simpa using hlen) (hw.set aa aa) jB];conv=>whnf
  (repeat((first|refine ae rfl rfl ?_|refine Ξ Q5 ?_|rw[t1]|rw[e1]);conv=>whnf))
  exact⟨au.refl _,vM rfl,(λ_ _ h=>by cases h)⟩
theorem abh (us:List Int) (hl:us.length<1099511627776) (hu:gQ us) (K:Nat) (U:Nat) (hU:aA us us.length=U):
  aL Tryz.prog 220 [.aM K 1 0 us.length] [(K,⟨23,true,.ints .u32 us⟩)] (.bQ []) [] [(K,⟨23,true,.ints .u32 (bK (U/2) us.length)⟩)]:=by
 refine gY (Z:=[]) aH bC Tryz.func220 rfl aD (args:=[.aM 0 1 0 us.length]) (fk:=[(0,⟨23,true,.ints .u32 us⟩)]) (c:=.bQ []) (new:=[]) (upd:=[(0,⟨23,true,.ints .u32 (bK (U/2) us.length)⟩)]) (cb.of rfl rfl rfl rfl rfl rfl rfl rfl rfl rfl rfl) rfl (λ_=>K) bl.upd ?_;intro W0 w0 ρ0 hE;conv=>whnf
 skip
 refine av hE (λk=>k) [0,4,5] [0] (λm fr hp=>∃(i:Nat) (o:List Int),m=us.length - i/\i<=us.length/\o.length=us.length/\gQ o/\(∀j,i<=j->o.getD j 0=us.getD j 0)/\2*aA o i+us.getD 0 0 % 2=aA us i+us.getD i 0 % 2*4294967296^i/\
  fr=[(0,.aM 0 1 0 us.length),(4,.val (.int .i64 us.length)),(5,.val (.int .i64 i))]/\hp=[(0,⟨23,true,.ints .u32 o⟩)]) us.length ?_ ?_ ?_
 ·kernel_rfl
 ·exact⟨0,us,aa,aa,rfl,hu,(λ_ _=>rfl),by simp[aA],rfl,rfl⟩
 rintro m _ _ ⟨i,o,rfl,hi,hlen,hw,cF,b7,rfl,rfl⟩;by_cases aE:i<us.length
 ·have t1:decide ((i:Int)<(us.length:Int))=true:=decide_eq_true aa;have e1:0+(i:Int).toNat=i:=aa;have e2:ε.wrap ((i:Int)+1)=((i+1:Nat):Int):=by rw[wrap_i64 aa aa];omega
  obtain⟨w,hww⟩:=Α (hu i).1;have pq:=(hu i).2;have Pz:o.getD i 0=(w:Int):=by rw[cF i (ζ _)];exact hww
  have f1:lG .u32 (w:Int) 1=((w/2:Nat):Int):=jr .u32 (s:=1) ax;obtain⟨z,hz⟩:=Α (hu (i+1)).1;have nu:=(hu (i+1)).2;have f2:∀q:Nat,q<2147483648->ID .u32 (q:Int) (lR .u32 (z:Int) 31)=((q+z % 2*2147483648:Nat):Int):=λq hq=>by
   have e:lR .u32 (z:Int) 31=((2147483648*(z % 2):Nat):Int):=by
    show Φ.wrap ((z:Int)*2147483648)=_;rw[show(z:Int)*2147483648=((z*2147483648:Nat):Int)from aa,rf];congr 1;omega
   rw[e,yO aa aa,akF,show 2147483648*(z % 2)=2^31*(z % 2)from rfl,<-aep (i:=31) hq];congr 1;omega
  have cE:∀t:Int,t=us.getD (i+1) 0 % 2->2*aA (o.set i (((w/2:Nat):Int)+t*2147483648)) (i+1)+us.getD 0 0 % 2=aA us (i+1)+us.getD (i+1) 0 % 2*4294967296^(i+1):=λt ht=>by
   rw[<-ht,aA,aA,dw (ζ _),aT,if_pos ⟨rfl,aa⟩,hww,ϫ];rw[hww]at b7;have hd:2*((w/2:Nat):Int)=(w:Int) - (w:Int) % 2:=aa;generalize ((w/2:Nat):Int)=q at*;generalize (w:Int) % 2=p at*;generalize (4294967296:Int)^i=P at*;generalize us.getD 0 0 % 2=b at*;grind
  have eb:∀(v:Int) j,i+1<=j->(o.set i v).getD j 0=us.getD j 0:=λv j hj=>by
   rw[aT,if_neg aa];exact cF j aa
  by_cases hn:i+1<us.length
  ·have t2:decide (((i+1:Nat):Int)<(us.length:Int))=true:=decide_eq_true aa;have e3:0+((i+1:Nat):Int).toNat=i+1:=aa;have g1:∀v:Int,(o.set i v).getD i 0=v:=λv=>by rw[aT,if_pos ⟨rfl,aa⟩]
   have g2:∀v:Int,(o.set i v).getD (i+1) 0=(z:Int):=λv=>by rw[eb v _ (ζ _)];exact hz
   have g3:∀u v:Int,(o.set i u).set i v=o.set i v:=λu v=>by rw[List.set_set]
   have g4:((w/2+z % 2*2147483648:Nat):Int)=((w/2:Nat):Int)+us.getD (i+1) 0 % 2*2147483648:=by rw[hz];omega
   conv=>whnf
   have g5:∀v:Int,(o.set i v).length=us.length:=λv=>by simpa using hlen
   (repeat((first|refine ag rfl rfl ?_|refine aq aD ?_|refine Ξ Q5 ?_|rw[t1]|rw[e1]|rw[Pz]|rw[f1]|rw[e2]|rw[t2]|rw[e3]|rw[g1]|rw[g2]|rw[f2 (w/2) aa]|rw[g3]|rw[g4]);conv=>whnf))
   exact⟨us.length - (i+1),λk=>k,[0,4,5],[0],aa,aD,i+1,_,rfl,aa,by simpa using hlen,hw.set aa aa,eb _,cE _ rfl,rfl,rfl⟩
  ·have t2:decide (((i+1:Nat):Int)<(us.length:Int))=false:=decide_eq_false aa;have Cy:us.getD (i+1) 0=0:=ep aa;have:=cE 0 (by rw[Cy];rfl);rw[ajT,ajU]at this;conv=>whnf
   (repeat((first|refine ag rfl rfl ?_|refine ae rfl rfl ?_|refine Ξ Q5 ?_|rw[t1]|rw[e1]|rw[Pz]|rw[f1]|rw[e2]|rw[t2]);conv=>whnf))
   exact⟨us.length - (i+1),λk=>k,[0,4,5],[0],aa,aD,i+1,_,rfl,aa,by simpa using hlen,hw.set aa aa,eb _,this,rfl,rfl⟩
 ·have nz:i=us.length:=aa;subst nz;have t1:decide ((us.length:Int)<(us.length:Int))=false:=decide_eq_false aa;rw[ep (xs:=us) (i:=us.length) (ζ _),hU]at b7;have jB:aA o us.length=((U/2:Nat):Int):=by
   rw[show(0:Int) % 2=0 from rfl,ajT,ajU]at b7;omega
  rw[<-q7 hlen hw jB];conv=>whnf
  (repeat(first|(refine ae rfl rfl ?_;conv=>whnf)|(rw[t1];conv=>whnf)))
  exact⟨au.refl _,(λ_ _ h=>by cases h),vM rfl⟩
theorem vQ {v m L i:Nat} (hv:v<4294967296^m) (hi:m<=i):(bK v L).getD i 0=0:=by
 by_cases h2:i<L
 ·rw[lg h2,Ϯ (Ϟ hv (ύ ax hi))];rfl
 ·exact ep (by rw[dj];omega)
theorem AH {o:List Int} {L m v:Nat} (hl:o.length=L) (hw:gQ o) (hz:∀j,m<=j->o.getD j 0=0) (hm:m<=L) (hv:aA o m=v):o=bK v L:=
 q7 hl hw (by rw[fv (k:=m) (λi h1 _=>hz i h1) hm,hv])
theorem Nc {o us vs:List Int} {s i d w c l x:Nat} (hi:s+i<o.length) (hx:us.getD (s+i) 0=x) (hv:vs.getD i 0=w) (hl:l<=1) (UN:x<4294967296)
  (b7:aA o (s+i)=aA us (s+i) - d*aA vs i*4294967296^s+((c:Int)+l)*4294967296^(s+i)):
  aA (o.set (s+i) (((x+4294967296 - (c+d*w) % 4294967296 - l) % 4294967296:Nat):Int)) (s+(i+1))=aA us (s+(i+1)) - d*aA vs (i+1)*4294967296^s+((((c+d*w)/4294967296:Nat):Int)+((if x<(c+d*w) % 4294967296+l then 1 else 0:Nat):Int))*4294967296^(s+(i+1)):=by
 rw[show s+(i+1)=(s+i)+1 from aa,aA,aA,aA,dw (ζ _),aT,if_pos ⟨rfl,hi⟩,hx,hv,ϫ];have FG:(c+d*w) % 4294967296<4294967296:=ab8 _ ax;have hd:(((x+4294967296 - (c+d*w) % 4294967296 - l) % 4294967296:Nat):Int)=(x:Int) - (((c+d*w) % 4294967296:Nat):Int) - l+((if x<(c+d*w) % 4294967296+l then 1 else 0:Nat):Int)*4294967296:=by
  split<;>omega
 have hc:(((c+d*w) % 4294967296:Nat):Int)=(c:Int)+d*w - (((c+d*w)/4294967296:Nat):Int)*4294967296:=by
  have:=abp (c+d*w) 4294967296;have h2:((d*w:Nat):Int)=(d:Int)*w:=Ρ _ _;omega
 rw[hd,hc,b7,aiU];generalize ((if x<(c+d*w) % 4294967296+l then 1 else 0:Nat):Int)=l';generalize (((c+d*w)/4294967296:Nat):Int)=q;generalize (4294967296:Int)^s=S;generalize (4294967296:Int)^i=P;grind
theorem PA {o us vs:List Int} {s n d c l x:Nat} (hi:s+n<o.length) (hx:us.getD (s+n) 0=x) (hl:l<=1) (hc:c<4294967296) (UN:x<4294967296)
  (b7:aA o (s+n)=aA us (s+n) - d*aA vs n*4294967296^s+((c:Int)+l)*4294967296^(s+n)):
  aA (o.set (s+n) (((x+4294967296 - c - l) % 4294967296:Nat):Int)) (s+n+1)=aA us (s+n+1) - d*aA vs n*4294967296^s+((if x<c+l then 1 else 0:Nat):Int)*4294967296^(s+n+1):=by
 rw[aA,aA,dw (ζ _),aT,if_pos ⟨rfl,hi⟩,hx,ϫ];have hd:(((x+4294967296 - c - l) % 4294967296:Nat):Int)=(x:Int) - c - l+((if x<c+l then 1 else 0:Nat):Int)*4294967296:=by
  split<;>omega
 rw[hd,b7];generalize ((if x<c+l then 1 else 0:Nat):Int)=l';generalize (4294967296:Int)^(s+n)=S;generalize (4294967296:Int)^s=P;grind
theorem PB {R D B l:Nat} {v:Int} (hl:l<=1) (h0:0<=v) (h1:v<B) (hR:R<B) (hv:v=(R:Int) - D+l*B):
  decide ((l:Int)>0)=decide (R<D)/\v=(((R+B - D) % B:Nat):Int):=by
 have Jk:l=0\/l=1:=aa;rcases Jk with rfl|rfl
 ·have h2:D<=R:=aa;refine⟨by rw[decide_eq_false (show ¬R<D by omega)];rfl, ?_⟩;rw[show R+B - D=(R - D)+B from aa,ai6,Υ aa];omega
 ·have h2:R<D:=aa;refine⟨by rw[decide_eq_true h2];rfl, ?_⟩;rw[Υ aa];omega
theorem PC (L s n R d V:Nat) (vs:List Int) (hL:L<1099511627776) (VA:s+n+1<=L) (hR:R<4294967296^(s+n+1)) (hvl:vs.length<1099511627776) (hn:n<=vs.length) (VB:gQ vs) (hV:aA vs n=V) (hd:d<4294967296)
  (K Q:Nat) (hKQ:K≠Q):
  aL Tryz.prog 219 [.aM K 1 s (n+1),.aM Q 1 0 n,.val (.int .u64 d)] [(K,⟨23,true,.ints .u32 (bK R L)⟩),(Q,⟨23,true,.ints .u32 vs⟩)]
   (.val (.bool (decide (R<d*V*4294967296^s)))) [] [(K,⟨23,true,.ints .u32 (bK ((R+4294967296^(s+n+1) - d*V*4294967296^s) % 4294967296^(s+n+1)) L)⟩),(Q,⟨23,true,.ints .u32 vs⟩)]:=by
 refine gY (Z:=[]) aH bC Tryz.func219 rfl aD (args:=[.aM 0 1 s (n+1),.aM 1 1 0 n,.val (.int .u64 d)]) (fk:=[(0,⟨23,true,.ints .u32 (bK R L)⟩),(1,⟨23,true,.ints .u32 vs⟩)])
  (c:=.val (.bool (decide (R<d*V*4294967296^s)))) (new:=[]) (upd:=[(0,⟨23,true,.ints .u32 (bK ((R+4294967296^(s+n+1) - d*V*4294967296^s) % 4294967296^(s+n+1)) L)⟩),(1,⟨23,true,.ints .u32 vs⟩)]) (cb.of rfl rfl rfl rfl rfl rfl rfl rfl rfl rfl rfl) rfl (dA [(0,K),(1,Q)]) (bl.two hKQ) ?_
 intro W0 w0 ρ0 hE;conv=>whnf
 skip
 have ag0:(bK R L).length=L:=dj R L;have AI:gQ (bK R L):=iq R L;have PD:aA (bK R L) (s+n+1)=R:=by
  have h1:=fv (xs:=bK R L) (k:=s+n+1) (n:=L) (λi h1 _=>vQ hR h1) VA;rw[<-h1,iY,Υ (Ϟ hR (ύ ax VA))]
 have qv:∀(o:List Int) (v:Nat),o.length=L->gQ o->(∀j,s+n+1<=j->o.getD j 0=0)->aA o (s+n+1)=v->o=bK v L:=λo v h1 h2 h3 h4=>AH h1 h2 h3 VA h4
 have hz:∀j,s+n+1<=j->(bK R L).getD j 0=0:=λj hj=>vQ hR hj
 generalize bK R L=us at*
 refine av hE (λk=>k) [0,1,2,7,8,12,13,14] [0,1] (λm fr hp=>∃(i:Nat) (o:List Int) (c l:Nat),m=n - i/\i<=n/\o.length=L/\gQ o/\c<4294967296/\l<=1/\(∀j,s+i<=j->o.getD j 0=us.getD j 0)/\aA o (s+i)=aA us (s+i) - d*aA vs i*4294967296^s+((c:Int)+l)*4294967296^(s+i)/\
  fr=[(0,.aM 0 1 s (n+1)),(1,.aM 1 1 0 n),(2,.val (.int .u64 d)),(7,.val (.int .u64 c)),(8,.val (.int .u32 l)),(12,.aM 1 1 0 n),(13,.val (.int .i64 n)),(14,.val (.int .i64 i))]/\hp=[(0,⟨23,true,.ints .u32 o⟩),(1,⟨23,true,.ints .u32 vs⟩)]) n ?_ ?_ ?_
 ·kernel_rfl
 ·exact⟨0,us,0,0,aa,aa,ag0,AI,aa,aa,(λ_ _=>rfl),by simp[aA],rfl,rfl⟩
 rintro m _ _ ⟨i,o,c,l,rfl,hi,hlen,hw,hc,hl,cF,b7,rfl,rfl⟩;obtain⟨x,hx⟩:=Α (AI (s+i)).1;have Om:=(AI (s+i)).2;have YQ:o.getD (s+i) 0=(x:Int):=by rw[cF _ (ζ _)];exact hx
 by_cases aE:i<n
 ·have t1:decide ((i:Int)<(n:Int))=true:=decide_eq_true aa;have e1:0+(i:Int).toNat=i:=aa;have e1s:s+(i:Int).toNat=s+i:=aa;have e2:ε.wrap ((i:Int)+1)=((i+1:Nat):Int):=by rw[wrap_i64 aa aa];omega
  obtain⟨w,hww⟩:=Α (VB i).1;have pq:=(VB i).2;have hp:d*w<=4294967295*4294967295:=Ϧ aa aa;have e9:Ζ.wrap ((c:Int)+Ζ.wrap ((d:Int)*Ζ.wrap (w:Int)))=((c+d*w:Nat):Int):=by
   rw[eY (n:=w) aa,<-Ρ,eY (n:=d*w) aa,<-Ϫ,eY aa]
  have GG:Φ.wrap ((c+d*w:Nat):Int)=(((c+d*w) % 4294967296:Nat):Int):=rf _;have YO:lG .u64 ((c+d*w:Nat):Int) 32=(((c+d*w)/4294967296:Nat):Int):=gR _;have UB:=Er x ((c+d*w) % 4294967296) l aa aa hl;have cE:=Nc (o:=o) (us:=us) (vs:=vs) aa hx hww hl aa b7;have ot:(c+d*w)/4294967296<4294967296:=aa;have ux:(if x<(c+d*w) % 4294967296+l then 1 else 0:Nat)<=1:=by split<;>omega
  conv=>whnf
  (repeat((first|refine ag rfl rfl ?_|refine Ξ Q5 ?_|refine aN aJ ?_|rw[t1]|rw[e1]|rw[e1s]|rw[hww]|rw[YQ]|rw[e9]|rw[GG]|rw[YO]|rw[e2]);conv=>whnf))
  exact⟨n - (i+1),λk=>k,[0,1,2,7,8,12,13,14],[0,1],aa,aD,i+1,_,_,_,rfl,aa,by simpa using hlen,hw.set aa aa,ot,ux,(λj hj=>by rw[aT,if_neg aa];exact cF j aa),cE,rfl,rfl⟩
 ·have nz:i=n:=aa;subst nz;have t1:decide ((i:Int)<(i:Int))=false:=decide_eq_false aa;have e1s:s+(i:Int).toNat=s+i:=aa;have e8:Φ.wrap (c:Int)=(c:Int):=qw hc;have UB:=Er x c l aa hc hl;have jB:=PA aa hx hl hc aa b7;have ux:(if x<c+l then 1 else 0:Nat)<=1:=by split<;>omega
  have B6:gQ (o.set (s+i) (((x+4294967296 - c - l) % 4294967296:Nat):Int)):=hw.set aa aa;have FO:(o.set (s+i) (((x+4294967296 - c - l) % 4294967296:Nat):Int)).length=L:=by simpa using hlen
  obtain⟨Ob,Jn⟩:=PB (R:=R) (D:=d*V*4294967296^s) (B:=4294967296^(s+i+1)) ux (cj B6 _) (by rw[db];exact iG B6 _) hR (by rw[jB,PD,hV,Ρ,Ρ,db,db]);have MG:=qv _ _ FO B6 (λj hj=>by rw[aT,if_neg aa,cF j aa];exact hz j hj) Jn;conv=>whnf
  (repeat((first|refine ae rfl rfl ?_|refine Ξ Q5 ?_|refine aN aJ ?_|rw[t1]|rw[e1s]|rw[e8]|rw[YQ]);conv=>whnf))
  rw[<-MG,<-Ob];exact⟨au.refl _,(λ_ _ h=>by cases h),gC rfl rfl⟩
def Hid (p:Prop):Prop:=p
theorem Hid.out {p:Prop} (h:Hid p):p:=h
theorem aX {α:Type} [LT α] {a b:α} {q:Prop} (h:a<b) (hq:q):a<b/\q:=⟨h,hq⟩
theorem kA {α:Type} [LE α] {a b:α} {q:Prop} (h:a<=b) (hq:q):a<=b/\q:=⟨h,hq⟩
theorem ao {a b q:Prop} (h:a/\b) (hq:q):(a/\b)/\q:=⟨h,hq⟩
theorem bn {α:Type} {a b:α} {q:Prop} (h:a≠b) (hq:q):a≠b/\q:=⟨h,hq⟩
theorem PE {V R P S W d r:Nat} (hP:0<P) (hS:0<S) (hW:0<W) (h1:d*(V/P/W)+r=R/(P*S)/W) (h2:r*W+R/(P*S) % W<d*(V/P % W)):R<d*V*S:=by
 have e1:=abp (V/P) W;have e2:=abp (R/(P*S)) W;have hV:=ac5 V P;have hPS:0<P*S:=agj hP hS;have hR:=afC (a:=R) hPS;generalize V/P=V2 at*;generalize R/(P*S)=R2 at*;generalize V2/W=v1 at*;generalize V2 % W=v2 at*;generalize R2/W=t at*;generalize R2 % W=u0 at*;have h3:R2+1<=d*V2:=by
  rw[<-e1,<-e2,<-h1,afm,afm];have:d*(W*v1)=W*(d*v1):=by rw[ai3]
  have:W*r=r*W:=Ϣ _ _;omega
 have h4:(R2+1)*(P*S)<=d*V*S:=by
  refine Ι (ο _ h3) ?_;rw[show d*V2*(P*S)=d*(V2*P)*S from by simp only[Ϛ]];exact ο _ (ϧ _ hV)
 rw[gx,ajk]at h4;omega
theorem Nd {V R P S W d r:Nat} (hP:0<P) (hS:0<S) (hW:0<W) (hd:d<W) (h1:d*(V/P/W)+r=R/(P*S)/W) (h2:d*(V/P % W)<=r*W+R/(P*S) % W) (hV:W*P<=V):d*V*S<=R+V*S:=by
 have e1:=abp (V/P) W;have e2:=abp (R/(P*S)) W;have hV2:=afC (a:=V) hP;have hR:=ac5 R (P*S);generalize V/P=V2 at*;generalize R/(P*S)=R2 at*;generalize V2/W=v1 at*;generalize V2 % W=v2 at*;generalize R2/W=t at*;generalize R2 % W=u0 at*;have h3:d*V2<=R2:=by
  rw[<-e1,<-e2,<-h1,afm,afm];have:d*(W*v1)=W*(d*v1):=by rw[ai3]
  have:W*r=r*W:=Ϣ _ _;omega
 have h4:d*V<=d*V2*P+d*P:=by
  rw[Ϛ,<-afm];exact ϧ _ aa
 have h5:d*P<=V:=Ι (ο _ (aiD hd)) hV;have h6:d*V*S<=(R2*P+V)*S:=ο _ (Ι h4 (Nat.add_le_add (ο _ h3) h5));rw[show(R2*P+V)*S=R2*(P*S)+V*S from by rw[gx,Ϛ]]at h6;omega
theorem Nf {V R P S W d r:Nat} (hP:0<P) (hS:0<S) (hW:0<W) (hd:d<W) (h1:d*(V/P/W)+r=R/(P*S)/W) (hr:W<=r):d*V*S<=R:=by
 have hPW:0<P*W:=agj hP hW;have hV2:=afC (a:=V) hPW;have hR:=ac5 R (P*S*W);rw[ϔ]at h1;rw[ϔ]at h1;generalize V/(P*W)=v1 at*;generalize R/(P*S*W)=t at*;have h3:d*V<=(d*v1+W)*(P*W):=by
  have h4:d*V<=d*(v1*(P*W)+P*W):=ϧ _ aa;rw[afm,<-Ϛ]at h4;rw[gx];exact Ι h4 (Nat.add_le_add_left (ο _ (aiD hd)) _)
 have h5:d*V*S<=(d*v1+r)*(P*W)*S:=ο _ (Ι h3 (ο _ aa));rw[h1,show t*(P*W)*S=t*(P*S*W)from by simp only[Ϛ,Ϣ S W]]at h5;omega
theorem Jo {V R P S W d r:Nat} (hP:0<P) (hS:0<S) (hW:0<W) (h1:d*(V/P/W)+r=R/(P*S)/W) (hr:W<=r) (hR:R<V*(S*W)):d<W:=by
 have hPW:0<P*W:=agj hP hW;have hV2:=afC (a:=V) hPW;have hR2:=ac5 R (P*S*W);rw[ϔ]at h1;rw[ϔ]at h1;generalize V/(P*W)=v1 at*;generalize R/(P*S*W)=t at*;refine Ο λhc=> ?_
 have h2:W*v1<=d*v1:=ο _ aa;have h3:W*v1+W<=t:=aa;have h4:(W*v1+W)*(P*S*W)<=R:=Ι (ο _ h3) hR2;have h5:V*(S*W)<=(v1*(P*W)+P*W)*(S*W):=ο _ aa;rw[show(v1*(P*W)+P*W)*(S*W)=(W*v1+W)*(P*S*W)from by grind]at h5;omega
theorem Jp {V R P S W d:Nat} (hP:0<P) (hS:0<S) (hW:0<W) (hv:0<V/P/W) (hd:R/(P*S)/W/(V/P/W)=d):R<(d+1)*V*S:=by
 have hPW:0<P*W:=agj hP hW;have ag4:0<P*S*W:=agj (agj hP hS) hW;have hV2:=ac5 V (P*W);have hR2:=afC (a:=R) ag4;rw[ϔ R,ϔ V]at hd;rw[ϔ]at hv;have aE:=afC (a:=R/(P*S*W)) hv;rw[hd]at aE;generalize V/(P*W)=v1 at*;generalize R/(P*S*W)=t at*;have h1:t+1<=(d+1)*v1:=by rw[gx];omega
 have h2:(t+1)*(P*S*W)<=(d+1)*V*S:=by
  refine Ι (ο _ h1) ?_;rw[show(d+1)*v1*(P*S*W)=(d+1)*(v1*(P*W))*S from by grind];exact ο _ (ϧ _ hV2)
 rw[gx,ajk]at h2;omega
theorem C1 {o us vs:List Int} {s i x w c:Nat} (hi:s+i<o.length) (hx:us.getD (s+i) 0=x) (hw:vs.getD i 0=w)
  (hv:aA o (s+i)+c*4294967296^(s+i)=aA us (s+i)+aA vs i*4294967296^s):
  aA (o.set (s+i) (((x+w+c) % 4294967296:Nat):Int)) (s+(i+1))+(((x+w+c)/4294967296:Nat):Int)*4294967296^(s+(i+1))=aA us (s+(i+1))+aA vs (i+1)*4294967296^s:=by
 rw[show s+(i+1)=(s+i)+1 from aa,aA,aA,aA,dw (ζ _),aT,if_pos ⟨rfl,hi⟩,hx,hw,ϫ];have hd:(((x+w+c) % 4294967296:Nat):Int)=(x:Int)+w+c - (((x+w+c)/4294967296:Nat):Int)*4294967296:=aa;rw[hd];rw[aiU]at hv ⊢;generalize (((x+w+c)/4294967296:Nat):Int)=q;generalize (4294967296:Int)^i=P at*;generalize (4294967296:Int)^s=Q at*;grind
theorem GH {o us vs:List Int} {s n x c R' V:Nat} (hi:s+n<o.length) (hx:us.getD (s+n) 0=x) (hc:c<=1) (UN:x<4294967296) (hu:aA us (s+n+1)=R') (hV:aA vs n=V)
  (hv:aA o (s+n)+c*4294967296^(s+n)=aA us (s+n)+aA vs n*4294967296^s) (h0:gQ (o.set (s+n) (((x+c) % 4294967296:Nat):Int))):
  aA (o.set (s+n) (((x+c) % 4294967296:Nat):Int)) (s+n+1)=(((R'+V*4294967296^s) % 4294967296^(s+n+1):Nat):Int):=by
 have h1:=cj h0 (s+n+1);have h2:=iG h0 (s+n+1);rw[aA]at hu;have h3:aA (o.set (s+n) (((x+c) % 4294967296:Nat):Int)) (s+n+1)=((R'+V*4294967296^s:Nat):Int) - (((x+c)/4294967296:Nat):Int)*4294967296^(s+n+1):=by
  rw[aA,dw (ζ _),aT,if_pos ⟨rfl,hi⟩,Ϫ,<-hu,hx,Ρ,<-hV,db,ϫ];have hd:(((x+c) % 4294967296:Nat):Int)=(x:Int)+c - (((x+c)/4294967296:Nat):Int)*4294967296:=aa;rw[hd];generalize (((x+c)/4294967296:Nat):Int)=q;generalize (4294967296:Int)^(s+n)=P at*;generalize (4294967296:Int)^s=Q at*;grind
 rw[<-db]at h2;rw[h3]at h1 h2 ⊢;rw[<-db]at*;have e1:(((x+c)/4294967296:Nat):Int)*((4294967296^(s+n+1):Nat):Int)=((((x+c)/4294967296)*4294967296^(s+n+1):Nat):Int):=(Ρ _ _).symm;rw[e1]at h1 h2 ⊢;generalize (x+c)/4294967296=t at*;generalize 4294967296^(s+n+1)=B at*;generalize V*4294967296^s=D at*;have h5:R'+D=(R'+D - t*B)+t*B:=aa;rw[h5,ajK,Υ aa];omega
theorem GI {R d D B:Nat} (h:d*D<=R) (hB:R<B):(R+B - d*D) % B=R - d*D:=by
 rw[show R+B - d*D=(R - d*D)+B from aa,ai6,Υ aa]
theorem GJ {R d D B:Nat} (h:R<d*D) (h2:d*D<=R+D) (hB:R<B) (hD:D<=B):((R+B - d*D) % B+D) % B=R - (d - 1)*D/\(d - 1)*D<=R/\R<(d - 1+1)*D/\0<d:=by
 have hd:0<d:=by
  rcases Nat.eq_zero_or_pos d with rfl|h'
  ·simp at h
  ·exact h'
 have e:d*D=(d - 1)*D+D:=by rw[<-Nat.succ_mul];congr 1;omega
 have e2:(d - 1+1)*D=d*D:=by congr 1;omega
 rw[e2];refine⟨?_,aa,h,hd⟩;rw[Υ (show R+B - d*D<B by omega)];rw[show R+B - d*D+D=(R - (d - 1)*D)+B from aa,ai6,Υ aa]
theorem Ng {ys:List Int} (hy:gQ ys) {n y Y s V:Nat} (h2:2<=n) (hyt:ys.getD (n - 1) 0=y) (hY:aA ys n=Y) (hs:32 - sz y=s) (hV:Y*2^s=V) (h1:1<=sz y) (h32:sz y<=32):
  V<4294967296^n/\2147483648*4294967296^(n - 1)<=V:=by
 have hn:n=(n - 1)+1:=aa;have ha:=cj hy (n - 1);have hb:=iG hy (n - 1);rw[hn,aA,hyt]at hY;rw[<-db]at hb hY;have e1:(y:Int)*((4294967296^(n - 1):Nat):Int)=((y*4294967296^(n - 1):Nat):Int):=(Ρ _ _).symm;rw[e1]at hY;have hY1:y*4294967296^(n - 1)<=Y:=aa;have hY2:Y<(y+1)*4294967296^(n - 1):=by rw[gx,ajk];omega
 have ZM:y<2^sz y:=eW.1 (ζ _);have YR:2^(sz y - 1)<=y:=by
  refine Ο λh=> ?_
  have:=eW.2 (show y<2^(sz y - 1) by omega);omega
 have p1:2^sz y*2^s=4294967296:=by rw[<-acU,show sz y+s=32 from by omega]
 have p2:2^(sz y - 1)*2^s=2147483648:=by rw[<-acU,show sz y - 1+s=31 from by omega]
 have hs0:0<2^s:=aeo s;have hQ:4294967296^n=4294967296^(n - 1)*4294967296:=by rw[<-ϙ];congr 1
 rw[hQ,<-hV];generalize 4294967296^(n - 1)=Q at*;generalize 2^s=T at*;constructor
 ·have h3:Y*T<(y+1)*Q*T:=ag8 hY2 hs0;have h4:(y+1)*Q*T<=2^sz y*Q*T:=ο _ (ο _ ZM);rw[show 2^sz y*Q*T=Q*(2^sz y*T)from by rw[Ϣ (2^sz y) Q,Ϛ],p1]at h4;omega
 ·have h3:2^(sz y - 1)*Q*T<=Y*T:=ο _ (Ι (ο _ YR) hY1);rw[show 2^(sz y - 1)*Q*T=(2^(sz y - 1)*T)*Q from by rw[Ϛ,Ϣ Q T,Ϛ],p2]at h3;exact h3
theorem Jq {k n:Nat} (h2:2<=n):4294967296^(k+(n - 2))=4294967296^(n - 2)*4294967296^k/\4294967296^(k+(n - 1))=4294967296^(n - 2)*4294967296^k*4294967296/\4294967296^(k+n)=4294967296^(n - 2)*4294967296^k*4294967296*4294967296/\
  4294967296^(n - 1)=4294967296^(n - 2)*4294967296/\4294967296^n=4294967296^(n - 2)*4294967296*4294967296/\4294967296^(k+n+1)=4294967296^(n - 2)*4294967296^k*4294967296*4294967296*4294967296:=by
 have e0:4294967296^(k+(n - 2))=4294967296^(n - 2)*4294967296^k:=by rw[acU,Ϣ]
 refine⟨e0, ?_, ?_, ?_, ?_, ?_⟩
 ·rw[<-e0,<-ϙ];congr 1;omega
 ·rw[<-e0,<-ϙ,<-ϙ];congr 1;omega
 ·rw[<-ϙ];congr 1;omega
 ·rw[<-ϙ,<-ϙ];congr 1;omega
 ·rw[<-e0,<-ϙ,<-ϙ,<-ϙ];congr 1;omega
theorem Jr {X V s l n:Nat} (hX:X<4294967296^l) (hs:s<32) (hV:2147483648*4294967296^(n - 1)<=V) (h2:2<=n) (hnl:n<=l):X*2^s<V*4294967296^(l+1 - n):=by
 have h3:2^s<=2147483648:=Ι (ύ ax (show s<=31 by omega)) ax;have e:4294967296^l=4294967296^(n - 1)*4294967296^(l+1 - n):=by rw[<-acU];congr 1;omega
 have h4:2147483648*4294967296^(n - 1)*4294967296^(l+1 - n)<=V*4294967296^(l+1 - n):=ο _ hV;rw[Ϛ,<-e,Ϣ]at h4;have h5:X*2^s<4294967296^l*2147483648:=Ϟ (ag8 hX (aeo s)) (ϧ _ h3);omega
theorem Js {R V P S k n l:Nat} (h2:2<=n) (hk:k+n<l+1) (hP:4294967296^(n - 2)=P) (hS:4294967296^k=S) (hVn:V<4294967296^n) (hVg:2147483648*4294967296^(n - 1)<=V) (hR:R<V*(S*4294967296)):
  R<4294967296^(k+n+1)/\V*4294967296^k<=4294967296^(k+n+1)/\4294967296*P<=V/\(2147483648<=V/P/4294967296/\V/P/4294967296<4294967296)/\R/(P*S)/4294967296<18446744073709551616/\
  (bK R (l+1)).getD (k+n) 0=((R/(P*S)/4294967296/4294967296:Nat):Int)/\(bK R (l+1)).getD (k+(n - 1)) 0=((R/(P*S)/4294967296 % 4294967296:Nat):Int)/\(bK R (l+1)).getD (k+(n - 2)) 0=((R/(P*S) % 4294967296:Nat):Int)/\
  (bK V (n+1)).getD (n - 1) 0=((V/P/4294967296:Nat):Int)/\(bK V (n+1)).getD (n - 2) 0=((V/P % 4294967296:Nat):Int):=by
 obtain⟨q1,q2,q3,q4,q5,q6⟩:=Jq (k:=k) h2;rw[hP]at q1 q2 q3 q4 q5 q6;rw[hS]at q1 q2 q3 q6;have hP0:0<P:=by rw[<-hP];exact acS ax
 have hS0:0<S:=by rw[<-hS];exact acS ax
 have hPS:0<P*S:=agj hP0 hS0;rw[q5]at hVn;rw[q4]at hVg;have c1:V*(S*4294967296)<=P*S*4294967296*4294967296*4294967296:=by
  refine Ι (ο _ (aiD hVn)) (Nat.le_of_eq ?_);grind
 have hRB:R<P*S*4294967296*4294967296*4294967296:=Ϟ hR c1;have c2:V*S<=P*S*4294967296*4294967296*4294967296:=Ι (ϧ _ aa) c1;have d1:V/P/4294967296=V/(P*4294967296):=ϔ _ _ _;have aeF:V/P/4294967296<4294967296:=by
  rw[d1];exact afX hVn
 have ag5:2147483648<=V/P/4294967296:=by
  rw[d1];exact(Nat.le_div_iff_mul_le aa).2 hVg
 have d2:R/(P*S)/4294967296/4294967296=R/(P*S*4294967296*4294967296):=by rw[ϔ,ϔ,Ϛ (P*S)]
 have d3:R/(P*S)/4294967296=R/(P*S*4294967296):=ϔ _ _ _;have tlt:R/(P*S)/4294967296/4294967296<4294967296:=by
  rw[d2];exact afX hRB
 refine⟨by rw[q6];exact hRB,by rw[q6,hS];exact c2,aa,⟨ag5,aeF⟩,aa, ?_, ?_, ?_, ?_, ?_⟩
 ·rw[lg aa,q3,<-d2,Υ tlt]
 ·rw[lg aa,q2,<-d3]
 ·rw[lg aa,q1]
 ·rw[lg aa,q4,<-d1,Υ aeF]
 ·rw[lg aa,hP]
variable {M:Nat}
theorem Eu (a b:Rat):decide (a.den - 1=b.den - 1)=decide (a.den=b.den):=decide_eq_decide.2 (by have:=a.den_pos;have:=b.den_pos;omega)
theorem yQ {x y:Int} {k M:Nat} (hx:sz x.natAbs<=k) (hy:sz y.natAbs<=k) (h:k+1<=M):sz (x+y).natAbs<=M:=
 Ι (Ι (fY (Int.natAbs_add_le x y)) (Ah hx hy)) h
theorem AJ {a b:Rat} (h:a.den=b.den):mkRat (a.num+b.num) a.den=a+b:=by
 rw[akc,<-h,<-amm,Rat.mkRat_mul_right a.den_nz]
theorem PF (ok:lh M) (a b:Rat) (h:ui a+ui b+1<=M):C0 33 [.frac a,.frac b] (.frac (a+b)):=by
 have ha:=dJ a;have ha':=dG a;have hb:=dJ b;have ie:=dG b;have hbp:=xf b.den b.den_nz;have hap:=xf a.den a.den_nz;have wa:=pJ a;have wb:=pJ b;have k1:=Au ok a.num b.num aa aa;have k2:=x8 ok a aa;have k3:=x8 ok b aa;refine bB [] Tryz.func33 ?_;intro W0 w0 ρ0 hE;conv=>whnf
 by_cases hw:a.den=1/\b.den=1
 ·have k5:=Eo (a.num+b.num);have e:((a.num+b.num:Int):Rat)=a+b:=by
   rw[pL hw.1,pL hw.2,Rat.intCast_add];rfl
  rw[e]at k5;rw[decide_eq_true hw.1]at wa;rw[decide_eq_true hw.2]at wb
  (repeat(first|(refine ag rfl rfl ?_;conv=>whnf)|(refine aN aJ ?_;conv=>whnf)|(refine an er ?_;conv=>whnf)));exact au.refl _
 ·by_cases h1:a.den=1
  ·rw[decide_eq_true h1]at wa;rw[decide_eq_false (show ¬b.den=1 from λh2=>hw ⟨h1,h2⟩)]at wb
   (repeat((first|refine ag rfl rfl ?_|refine ae rfl rfl ?_|refine aN aJ ?_|refine an er ?_);conv=>whnf))
   refine⟨_,bV aH cd rfl (ai rfl) (ai rfl) rfl rfl rfl rfl (oK (a.den - 1) (b.den - 1)) mu, ?_⟩;rw[Eu];by_cases hd:a.den=b.den
   ·rw[decide_eq_true hd];have k4:=mM ok (a.num+b.num) a.den (yQ (k:=M - 1) aa aa aa) aa a.den_nz;rw[AJ hd]at k4;conv=>whnf
    (repeat(first|(refine ag rfl rfl ?_;conv=>whnf)|(refine aq aD ?_;conv=>whnf)|(refine aN aJ ?_;conv=>whnf)));exact au.refl _
   ·rw[decide_eq_false hd];have p1:=fU a.num.natAbs b.den;have p2:=fU b.num.natAbs a.den;have p3:=fU a.den b.den;have q1:sz (a.num*b.den).natAbs<=M - 1:=by rw[ac6,abK];omega
    have q2:sz (b.num*a.den).natAbs<=M - 1:=by rw[ac6,abK];omega
    have r1:=oL ok a aa;have r2:=oL ok b aa;have r3:=uH ok a.num b.den Vo;have r4:=uH ok b.num a.den Vo;have r5:=Au ok (a.num*b.den) (b.num*a.den) aa aa;have r6:=ok.mul a.den b.den aa;have r7:=mM ok (a.num*b.den+b.num*a.den) (a.den*b.den) (yQ (k:=M - 1) q1 q2 aa) aa (agI a.den_nz b.den_nz);rw[<-akc]at r7;conv=>whnf
    (repeat(first|(refine ae rfl rfl ?_;conv=>whnf)|(refine aq aD ?_;conv=>whnf)|(refine aN aJ ?_;conv=>whnf)));exact au.refl _
  ·rw[decide_eq_false h1]at wa
   (repeat(first|(refine ae rfl rfl ?_;conv=>whnf)|(refine aN aJ ?_;conv=>whnf)|(refine an dZ ?_;conv=>whnf)))
   refine⟨_,bV aH cd rfl (ai rfl) (ai rfl) rfl rfl rfl rfl (oK (a.den - 1) (b.den - 1)) mu, ?_⟩;rw[Eu];by_cases hd:a.den=b.den
   ·rw[decide_eq_true hd];have k4:=mM ok (a.num+b.num) a.den (yQ (k:=M - 1) aa aa aa) aa a.den_nz;rw[AJ hd]at k4;conv=>whnf
    (repeat(first|(refine ag rfl rfl ?_;conv=>whnf)|(refine aq aD ?_;conv=>whnf)|(refine aN aJ ?_;conv=>whnf)));exact au.refl _
   ·rw[decide_eq_false hd];have p1:=fU a.num.natAbs b.den;have p2:=fU b.num.natAbs a.den;have p3:=fU a.den b.den;have q1:sz (a.num*b.den).natAbs<=M - 1:=by rw[ac6,abK];omega
    have q2:sz (b.num*a.den).natAbs<=M - 1:=by rw[ac6,abK];omega
    have r1:=oL ok a aa;have r2:=oL ok b aa;have r3:=uH ok a.num b.den Vo;have r4:=uH ok b.num a.den Vo;have r5:=Au ok (a.num*b.den) (b.num*a.den) aa aa;have r6:=ok.mul a.den b.den aa;have r7:=mM ok (a.num*b.den+b.num*a.den) (a.den*b.den) (yQ (k:=M - 1) q1 q2 aa) aa (agI a.den_nz b.den_nz);rw[<-akc]at r7;conv=>whnf
    (repeat(first|(refine ae rfl rfl ?_;conv=>whnf)|(refine aq aD ?_;conv=>whnf)|(refine aN aJ ?_;conv=>whnf)));exact au.refl _
