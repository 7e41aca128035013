/- The texts Xp, Xq. -/
import Derived.Test.YtadphegfhgmgmaaGreatDoorQMModesKnown6
set_option linter.unusedSimpArgs false
set_option linter.unusedVariables false
set_option maxHeartbeats 4000000
set_option maxRecDepth 100000
open Array renaming ext'->ac0,getD_eq_getD_getElem?->Ϻ,length_toList->ϭ,toList_append->akv,toList_extract->akh
open ByteArray renaming data_append->afl,data_extract->ajA,ext->aku
open Go.IntKind renaming i64->ε
open Int renaming toNat_natCast->ι
open List renaming extract->al5,getD_eq_getElem?_getD->δ
open Nat renaming div_div_eq_div_mul->ϔ,div_lt_iff_lt_mul->acW,le_refl->ζ,lt_of_le_of_lt->ϓ,lt_of_lt_of_le->Ϟ,mod_eq_of_lt->Υ,pow_le_pow_right->ύ,pow_mul->ajl,pow_pos->acS,pow_succ->ϙ,pow_succ'->al3,pow_zero->agF,sub_self->af0,zero_le->Γ
open UInt8 renaming ofNat->aal
namespace Go.Proofs.YtadphegfhgmgmaaGreatDoor
open Go.Sx
theorem Iv:∀k r i,i<k->(iz k r).getD i 0=aal (48+r/10^(k - 1 - i) % 10)
 |0,_,_,h=>absurd h (Nat.not_lt_zero _)
 |k+1,r,i,h=>by
  have hl:=o8 k (r/10);rw[iz];by_cases e:i=k
  ·subst e;rw[δ,List.getElem?_append_right aa,hl,af0,show i+1 - 1 - i=0 by omega,agF,Nat.div_one];rfl
  ·have ih:=Iv k (r/10) i aa;rw[δ]at ih;rw[δ,List.getElem?_append_left aa,ih,ϔ,<-al3,Nat.succ_eq_add_one,show k - 1 - i+1=k+1 - 1 - i by omega]
theorem acF (n:Nat):∃e,(e=0\/10^e<=n)/\n<10^(e+1):=by
 induction n using Nat.strongRecOn with
 |ind n ih=>
  by_cases h:n<10
  ·exact⟨0,.inl rfl,by simpa using h⟩
  ·obtain⟨e,h1,h2⟩:=ih (n/10) aa;rw[ϙ]at h2;refine⟨e+1,.inr ?_,by rw[ϙ,ϙ];omega⟩;rw[ϙ];rcases h1 with rfl|h1
   ·simp;omega
   ·omega
structure XJ (s:ByteArray) (n e:Nat):Prop where
 size:s.size=e+1
 get:∀j,j<=e->(s.data.getD j 0).toNat=48+n/10^(e - j) % 10
 top:e=0\/10^e<=n
 lt:n<10^(e+1)
theorem Ud {x:Nat} (h:x<256):(aal x).toNat=x:=by rw[UInt8.toNat_ofNat'];omega
theorem Kr (n:Nat):∃e,XJ (tN n) n e:=by
 obtain⟨e,h1,h2⟩:=acF n;refine⟨e, ?_,λj hj=> ?_,h1,h2⟩
 ·rw[qo,<-rG e n h2 h1];show(iz (e+1) n).toArray.size=_;rw[List.size_toArray,o8]
 ·rw[qo,<-rG e n h2 h1];show((iz (e+1) n).toArray.getD j 0).toNat=_;rw[Ϻ,List.getElem?_toArray,<-δ,Iv _ _ _ aa,Ud aa,show e+1 - 1 - j=e - j by omega]
section
variable {s:ByteArray} {n e:Nat} (h:XJ s n e)
include h
theorem XJ.first (h1:0<e):(s.data.getD 0 0).toNat≠48:=by
 have h2:=h.top.resolve_left aa;have h3:=h.lt;rw[ϙ]at h3;rw[h.get 0 aa,Nat.sub_zero];have h4:1<=n/10^e:=(Nat.le_div_iff_mul_le (acS ax)).2 aa;have h5:n/10^e<10:=(acW (acS ax)).2 aa;omega
theorem XJ.dig {j:Nat} (hj:j<=e):48<=(s.data.getD j 0).toNat/\(s.data.getD j 0).toNat<=57:=by
 rw[h.get j hj];omega
theorem XJ.next {st i:Nat} (hs:st<=i) (hi:i<=e):10*(n/10^(e+1 - i) % 10^(i - st))+((s.data.getD i 0).toNat - 48)=n/10^(e+1 - (i+1)) % 10^(i+1 - st):=by
 rw[h.get i hi,show e+1 - (i+1)=e - i by omega,show e+1 - i=e - i+1 by omega,show i+1 - st=i - st+1 by omega,ϙ,<-ϔ];generalize n/10^(e - i)=m;rw[al3,Nat.mod_mul];omega
end
def NY (n r:Nat):List Int:=(List.range r).map λi=>((n/10000^i % 10000:Nat):Int)
theorem MA (n r:Nat):(NY n r).length=r:=by simp[NY]
theorem MC {n r i:Nat} (h:i<r):(NY n r).getD i 0=((n/10000^i % 10000:Nat):Int):=by simp[NY,δ,h]
theorem Ue (n r:Nat):NY n (r+1)=NY n r++[((n/10000^r % 10000:Nat):Int)]:=by simp[NY,List.range_succ]
theorem acG (n r:Nat):W4 (NY n r):=λi=>by
 by_cases h:i<r
 ·rw[MC h];omega
 ·rw[ep (by rw[MA];omega)];omega
theorem XK {n r:Nat} (h:n<10000^r):(bo (NY n r) r).toNat=n:=by
 rw[na (ys:=td n) λi hi=>by rw[MC hi,Bj]];rw[mf n r (gg h)];rfl
theorem XJ.word {s:ByteArray} {n e:Nat} (h:XJ s n e) {r:Nat} (hr:4*r<=e):n/10^(e+1 - (e+1 - 4*r)) % 10^(e+1 - 4*r - (e+1 - 4*r - 4))=n/10000^r % 10000:=by
 rw[show e+1 - (e+1 - 4*r)=4*r by omega,ajl,show(10:Nat)^4=10000 from rfl];by_cases g:4*r+4<=e+1
 ·rw[show e+1 - 4*r - (e+1 - 4*r - 4)=4 by omega]
 ·have h1:n/10000^r<10^(e+1 - 4*r):=by
   rw[show(10000:Nat)=10^4 from rfl,<-ajl];refine(acW (acS ax)).2 ?_;rw[<-Nat.pow_add,show e+1 - 4*r+4*r=e+1 by omega];exact h.lt
  rw[show e+1 - 4*r - (e+1 - 4*r - 4)=e+1 - 4*r by omega,Υ h1,Υ];refine Ϟ h1 ?_;exact ύ ax (show _<=4 by omega)
theorem MD {n e j:Nat} {s:ByteArray} (h:XJ s n e) (hj:j<=e) {c:Nat} (hc:c<48):(s.data.getD j 0).toNat≠c:=by
 have:=(h.dig hj).1;omega
theorem wU (a b:ByteArray) (j:Nat):(a++b).data.getD j 0=if j<a.size then a.data.getD j 0 else b.data.getD (j - a.size) 0:=by
 rw[afl,Ϻ,Array.getElem?_append];have e:a.data.size=a.size:=rfl;rw[e];split<;>rw[Ϻ]
theorem nt (a b:ByteArray):(a++b).size=a.size+b.size:=by
 show(a++b).data.size=a.data.size+b.data.size;rw[afl,Array.size_append]
theorem Iw (a b:ByteArray):(a++b).extract 0 a.size=a:=by
 apply aku;rw[ajA,afl];apply ac0;rw[akh,akv];have:a.size=a.data.toList.length:=by rw[ϭ];rfl
 rw[this];simp[al5]
theorem DK (a b:ByteArray) {k n:Nat} (hk:k=a.size) (hn:n=a.size+b.size):(a++b).extract k n=b:=by
 subst hk hn;apply aku;rw[ajA,afl];apply ac0;rw[akh,akv];have h1:a.size=a.data.toList.length:=by rw[ϭ];rfl
 have h2:b.size=b.data.toList.length:=by rw[ϭ];rfl
 rw[h1,h2];simp[al5];exact List.take_of_length_le (by rw[h2];exact ζ _)
theorem Ix {s:ByteArray} {n e:Nat} (h:XJ s n e) (he:e<4096):C0 174 [.val (.string s)] (.bQ [nN n,.val (.int .i64 0)]):=by
 have hz:=h.size;have t1:decide ((s.size:Int)>4096)=false:=decide_eq_false aa;have t2:((s.size:Int)==0)=false:=beq_eq_false_iff_ne.2 aa;obtain⟨b,c,hb,hc,Zb⟩:∃b c,((((s.data.getD (0:Int).toNat 0).toNat:Nat):Int)==48)=b/\decide ((s.size:Int)>1)=c/\(b&&c)=false:=by
  refine⟨_,_,rfl,rfl, ?_⟩;by_cases h0:0<e
  ·have:=h.first h0;rw[beq_eq_false_iff_ne.2 (show(((s.data.getD (0:Int).toNat 0).toNat:Nat):Int)≠48 from λg=>this (by have g:(((s.data.getD 0 0).toNat:Nat):Int)=48:=g;omega))];rfl
  ·rw[decide_eq_false (show ¬(s.size:Int)>1 by omega),Bool.and_false]
 cases b<;>cases c<;>first|exact absurd Zb ax|skip
 all_goals
  clear Zb;refine kg [] Tryz.func174 ?_;intro w0 ρ0 hE;conv=>whnf
  (repeat((first|refine ag rfl rfl ?_|refine ae rfl rfl ?_|refine ao Q3 ?_|refine an er ?_|refine an dZ ?_|rw[t1]|rw[t2]|rw[hb]|rw[hc]);conv=>whnf))
  refine av hE (λk=>k) [0,4,5] [] (λm fr hp=>∃i:Nat,m=e+1 - i/\i<=e+1/\fr=[(0,.val (.string s)),(4,.val (.slice none 0 0)),(5,.val (.int .i64 (i:Nat)))]/\hp=[]) (e+1) ?_ ?_ ?_
  ·kernel_rfl
  ·exact⟨0,rfl,Γ _,rfl,rfl⟩
  rintro m _ _ ⟨i,rfl,hi,rfl,rfl⟩;by_cases aE:i<e+1
  ·have t3:decide ((i:Int)<(s.size:Int))=true:=decide_eq_true aa;have t4:=bW (i:=i) aa;have hd:=h.dig (j:=i) aa;have t5:decide ((((s.data.getD i 0).toNat:Nat):Int)<48)=false:=decide_eq_false aa;have t6:decide ((((s.data.getD i 0).toNat:Nat):Int)>57)=false:=decide_eq_false aa;conv=>whnf
   (repeat((first|refine ag rfl rfl ?_|refine ae rfl rfl ?_|refine ao Q3 ?_|refine an dZ ?_|rw[t3]|rw[t5]|rw[t6]|rw[t4]|rw[ι]);conv=>whnf))
   exact⟨e+1 - (i+1),λk=>k,[0,4,5],[],aa,aD,i+1,rfl,aE,rfl,rfl⟩
  have t3:decide ((i:Int)<(s.size:Int))=false:=decide_eq_false aa;conv=>whnf
  (repeat(first|(refine ae rfl rfl ?_;conv=>whnf)|(rw[t3];conv=>whnf)))
  refine dD (t:=4) (k:=2001) (s:=1) (blk:=xv []) rfl rfl rfl ?_;refine cG hE (λk=>k) [0,4,6] [2001] (λm fr hp=>∃(r:Nat) (E:Int),m=e+4 - 4*r/\4*r<=e+4/\E=(e:Int)+1 - 4*r/\fr=[(0,.val (.string s)),(4,.aM 2001 1 0 r),(6,.val (.int .i64 E))]/\hp=[(2001,xv (NY n r))]) (e+4) ?_ ?_ ?_
  ·kernel_rfl
  ·exact⟨0,(e:Int)+1,rfl,aa,aa,by rw[hz];rfl,rfl⟩
  rintro m _ _ ⟨r,E,rfl,hr,hE2,rfl,rfl⟩;have lw:=MA n r;by_cases jh:4*r<=e
  ·obtain⟨q,hq⟩:∃q:Nat,E=q:=⟨e+1 - 4*r,aa⟩;subst hq;obtain rfl:q=e+1 - 4*r:=aa;have hw:=h.word jh;generalize hqe:e+1 - 4*r=q at*;have t4:decide ((q:Int)>0)=true:=decide_eq_true aa;have e5:ε.wrap ((q:Int) - 4)=(q:Int) - 4:=wrap_i64 aa aa;have e6:(if (q:Int) - 4>0 then(q:Int) - 4 else 0)=((q - 4:Nat):Int):=by split<;>omega
   refine dY.of hE ?_;conv=>whnf
   (repeat((first|refine ag rfl rfl ?_|rw[t4]|rw[e5]|rw[e6]);conv=>whnf))
   refine cG hE (λk=>k) [0,4,6,7,8] [2001] (λm fr hp=>∃i:Nat,m=q - i/\q - 4<=i/\i<=q/\fr=[(0,.val (.string s)),(4,.aM 2001 1 0 r),(6,.val (.int .i64 (q:Nat))),(7,.val (.int .i64 (n/10^(e+1 - i) % 10^(i - (q - 4)):Nat))),(8,.val (.int .i64 (i:Nat)))]/\hp=[(2001,xv (NY n r))]) (q - (q - 4)) ?_ ?_ ?_
   ·kernel_rfl
   ·refine⟨q - 4,aa,ζ _,aa, ?_,rfl⟩;rw[af0,agF,Nat.mod_one];rfl
   rintro m _ _ ⟨i,rfl,hi1,YI,rfl,rfl⟩;by_cases hiq:i<q
   ·have t6:=gZ hiq;have t7:=bW (i:=i) aa;have hn:=h.next hi1 (show i<=e by omega);have hd:=h.dig (j:=i) aa;have hD:n/10^(e+1 - i) % 10^(i - (q - 4))<10000:=Ϟ (Nat.mod_lt _ (acS ax)) (ύ ax (show _<=4 by omega));have hiz:i<s.size:=aa;generalize n/10^(e+1 - i) % 10^(i - (q - 4))=D at*;obtain⟨D2,hD2⟩:∃D2,n/10^(e+1 - (i+1)) % 10^(i+1 - (q - 4))=D2:=⟨_,rfl⟩;rw[hD2]at hn;generalize Jk:(s.data.getD i 0).toNat=cc at*;have e7:ε.wrap (10*(D:Int))=((10*D:Nat):Int):=by rw[wrap_i64 aa aa];omega
    have e8:IntKind.u8.wrap ((cc:Int) - 48)=((cc - 48:Nat):Int):=by rw[IntKind.wrap_u8];omega
    have e9:ε.wrap ((cc - 48:Nat):Int)=((cc - 48:Nat):Int):=wrap_i64 aa aa;have GG:ε.wrap (((10*D:Nat):Int)+((cc - 48:Nat):Int))=(D2:Int):=by rw[wrap_i64 aa aa];omega
    refine dY.of hE ?_;conv=>whnf
    (repeat((first|refine ag rfl rfl ?_|refine ao Q3 ?_|rw[t6]|rw[Jk]|rw[e7]|rw[e8]|rw[e9]|rw[GG]|rw[t7]|rw[ι]);conv=>whnf))
    refine⟨q - (i+1),λk=>k,[0,4,6,7,8],[2001],aa,aD,i+1,rfl,aa,hiq, ?_,rfl⟩;rw[hD2];rfl
   ·obtain rfl:i=q:=aa;have t6:=iH hiq;rw[show n/10^(e+1 - i) % 10^(i - (i - 4))=n/10000^r % 10000 from hw];have VA:=Ue n r;generalize n/10000^r % 10000=w at*;refine dY.of hE ?_;conv=>whnf
    (repeat((first|refine ae rfl rfl ?_|refine ao Q3 ?_|rw[t6]|rw[e5]);conv=>whnf))
    refine⟨e+4 - 4*(r+1),dA [(66,2001)],[0,4,6],[66],aa,aD,r+1,_,rfl,aa,aa,rfl, ?_⟩;rw[VA,<-wv lw];rfl
  ·have t4:decide (E>0)=false:=decide_eq_false aa;have kt:=Bk (NY n r) aa (acG n r)
   rw[lw,XK (Ϟ h.lt (by
    rw[show(10000:Nat)=10^4 from rfl,<-ajl]
    exact ύ ax aa))]at kt
   refine o0 4 2001 (λ_ h=>h) rfl rfl lw.symm ?_;generalize NY n r=L at*;subst lw;refine dY.of hE ?_;conv=>whnf
   (repeat(first|(refine ae rfl rfl ?_;conv=>whnf)|(refine aN aJ ?_;conv=>whnf)|(rw[t4];conv=>whnf)));exact Q4
theorem Zw {n:Nat} (h:n≠0):(((td n).length:Nat):Int)≠0:=λg=>h (gK.1 aa)
theorem Uf (z:Int) (hz:sz z.natAbs<=4000):C0 173 [.val (.string (tZ z))] (.bQ [zZ z,.val (.int .i64 0)]):=by
 obtain⟨e,hD⟩:=Kr z.natAbs;have gM:=lB z.natAbs;have Zg:=hD.size;have k1:=Ix hD aa;have htd:(td z.natAbs).length<1099511627776:=ϓ (Bn hz) ax;by_cases h:z<0
 ·have k2:=gL (neg:=true) (n:=z.natAbs) (z:=z) (by unfold signed;rw[if_pos rfl];omega) htd;have e1:tZ z= "-".toUTF8++tN z.natAbs:=by rw[tZ,if_pos h]
  have z1: "-".toUTF8.size=1:=rfl
  have qn:(tZ z).size=e+2:=by rw[e1,nt,Zg];omega
  have g0:((tZ z).data.getD 0 0).toNat=45:=by rw[e1,wU,if_pos ax];rfl
  have x1:(tZ z).extract 1 (e+2)=tN z.natAbs:=by rw[e1];exact DK _ _ rfl aa
  have n1:=Zw (n:=z.natAbs) aa;generalize tZ z=s at*;generalize tN z.natAbs=u at*;generalize z.natAbs=m at*;have t1:decide ((s.size:Int)>0)=true:=decide_eq_true aa;have t2:((((s.data.getD (0:Int).toNat 0).toNat:Nat):Int)==45)=true:=by rw[show s.data.getD (0:Int).toNat 0=s.data.getD 0 0 from rfl,g0];rfl
  have t3:((((td m).length:Nat):Int)==0)=false:=beq_eq_false_iff_ne.2 n1;have x2:s.extract (1:Int).toNat s.size=u:=by rw[qn];exact x1
  refine kg [] Tryz.func173 ?_;intro w0 ρ0 hE;conv=>whnf
  (repeat((first|refine ag rfl rfl ?_|refine ae rfl rfl ?_|refine ao Q3 ?_|refine aN aJ ?_|refine an er ?_|rw[bne_self_eq_false]|refine an Q8 ?_|rw[t1]|rw[t2]|rw[x2]|rw[t3]|rw[ι]);conv=>whnf));exact Q4
 ·have k2:=gL (neg:=false) (n:=z.natAbs) (z:=z) (by unfold signed;rw[if_neg ax];omega) htd;have e1:tZ z=tN z.natAbs:=by rw[tZ,if_neg h]
  rw[e1];have g0:=MD hD (j:=0) (Γ _) (c:=45) ax;generalize tN z.natAbs=s at*;generalize z.natAbs=m at*;have t1:decide ((s.size:Int)>0)=true:=decide_eq_true aa;have t2:((((s.data.getD (0:Int).toNat 0).toNat:Nat):Int)==45)=false:=beq_eq_false_iff_ne.2 (λg=>g0 (by have g:(((s.data.getD 0 0).toNat:Nat):Int)=45:=g;omega));refine kg [] Tryz.func173 ?_;intro w0 ρ0 hE;conv=>whnf
  (repeat((first|refine ag rfl rfl ?_|refine ae rfl rfl ?_|refine ao Q3 ?_|refine aN aJ ?_|refine an er ?_|refine an dZ ?_|rw[t1]|rw[t2]);conv=>whnf));exact Q4
theorem Zx (z:Int) {j:Nat} (hj:j<(tZ z).size):((tZ z).data.getD j 0).toNat≠47:=by
 obtain⟨e,hD⟩:=Kr z.natAbs;have Zg:=hD.size;by_cases h:z<0
 ·have e1:tZ z= "-".toUTF8++tN z.natAbs:=by rw[tZ,if_pos h]
  have z1: "-".toUTF8.size=1:=rfl
  rw[e1,nt]at hj;rw[e1,wU];split
  ·rename_i g;obtain rfl:j=0:=aa;decide
  ·exact MD hD aa ax
 ·rw[tZ,if_neg h]at hj ⊢;exact MD hD aa ax
theorem Ug (q:Rat) (h:fs q<=4000):C0 127 [.val (.string (tQ q))] (.bQ [fF q,.val (.int .i64 0)]):=by
 have f1:=dJ q;have f2:=dG q;unfold fs at h;have k1:=Uf q.num aa;obtain⟨e,hD⟩:=Kr q.den;have gM:=lB q.den;have hzs:=wg q.num;have Zg:=hD.size;have k2:=Ix hD aa;have k3:=y9 q.num q.den q.den_nz (ϓ (Bn (M:=4000) aa) ax) (ϓ (Bn (M:=4000) aa) ax);rw[Rat.mkRat_self]at k3
 have hp:(tZ q.num).size<=(tQ q).size/\(tQ q).size<=9000/\(∀i,i<(tQ q).size->(((tQ q).data.getD i 0).toNat=47↔i=(tZ q.num).size))/\(tQ q).extract 0 (tZ q.num).size=tZ q.num/\
   ((q.den=1/\(tQ q).size=(tZ q.num).size)\/(q.den≠1/\(tQ q).size≠(tZ q.num).size/\(tQ q).extract ((tZ q.num).size+1) (tQ q).size=tN q.den)):=by
  by_cases hd:q.den=1
  ·have e1:tQ q=tZ q.num:=by rw[tQ,if_pos hd]
   rw[e1];refine⟨ζ _,aa,λi hi=>⟨λg=>absurd g (Zx _ hi),λg=>aa⟩, ?_,.inl ⟨hd,rfl⟩⟩;have:=Iw (tZ q.num) .empty;rwa [ByteArray.append_empty]at this
  ·have e1:tQ q=tZ q.num++ "/".toUTF8++tN q.den:=by rw[tQ,if_neg hd]
   have z1: "/".toUTF8.size=1:=rfl
   have qn:(tQ q).size=(tZ q.num).size+1+(tN q.den).size:=by rw[e1,nt,nt,z1]
   refine⟨aa,aa,λi hi=> ?_, ?_,.inr ⟨hd,aa, ?_⟩⟩
   ·rw[e1,wU,nt,z1];by_cases g1:i<(tZ q.num).size+1
    ·rw[if_pos g1,wU];by_cases g2:i<(tZ q.num).size
     ·rw[if_pos g2];exact⟨λg=>absurd g (Zx _ g2),λg=>aa⟩
     ·obtain rfl:i=(tZ q.num).size:=aa;rw[if_neg g2,af0];exact⟨λ_=>rfl,λ_=>rfl⟩
    ·rw[if_neg g1];exact⟨λg=>absurd g (MD hD aa ax),λg=>aa⟩
   ·rw[e1,ByteArray.append_assoc];exact Iw _ _
   ·rw[qn,e1];exact DK _ _ (by rw[nt,z1]) (by rw[nt,z1])
 obtain⟨h1,h2,h3,h4,h5⟩:=hp;have hdn:=Zw q.den_nz
 replace h4:(tQ q).extract (0:Int).toNat (tZ q.num).size=tZ q.num:=h4
 generalize tQ q=s at*;generalize tZ q.num=u at*;generalize tN q.den=v at*;refine kg [] Tryz.func127 ?_;intro w0 ρ0 hE;conv=>whnf
 have e0:ε.wrap ((s.size:Int) - 1)=(s.size:Int) - 1:=wrap_i64 aa aa
 (repeat(first|(rw[e0];conv=>whnf)))
 refine av hE (λk=>k) [0,2,4,5] [2] (λm fr hp=>∃j:Nat,m=j/\j<=s.size/\fr=[(0,.val (.string s)),(2,.ptr 2 0 0 0),(4,.val (.int .i64 ((if j<=u.size then u.size else s.size:Nat):Int))),(5,.val (.int .i64 ((j:Int) - 1)))]/\hp=[(2,Hp)]) s.size ?_ ?_ ?_
 ·kernel_rfl
 ·refine⟨s.size,rfl,ζ _, ?_,rfl⟩;by_cases g:s.size<=u.size
  ·rw[if_pos g,show u.size=s.size by omega];rfl
  ·rw[if_neg g];rfl
 rintro m _ _ ⟨j,rfl,hj,rfl,rfl⟩;by_cases hj0:0<m
 ·obtain⟨i,rfl⟩:∃i,m=i+1:=⟨m - 1,aa⟩;rw[show(((i+1:Nat):Int) - 1)=(i:Int) by omega];have t1:decide ((i:Int)>=0)=true:=decide_eq_true aa;have e1:ε.wrap ((i:Int) - 1)=(i:Int) - 1:=wrap_i64 aa aa;have hi:i<s.size:=aa;have h6:=h3 i hi;by_cases g:i=u.size
  ·have t2:((((s.data.getD i 0).toNat:Nat):Int)==47)=true:=by rw[h6.2 g];rfl
   conv=>whnf
   (repeat((first|refine ag rfl rfl ?_|refine ao Q3 ?_|rw[t1]|rw[t2]|rw[e1]|rw[ι]);conv=>whnf))
   refine⟨i,λk=>k,[0,2,4,5],[2],aa,aD,i,rfl,aa, ?_,rfl⟩;rw[if_pos (show i<=u.size by omega),g];rfl
  ·have t2:((((s.data.getD i 0).toNat:Nat):Int)==47)=false:=beq_eq_false_iff_ne.2 λg2=>g (h6.1 aa)
   have e2:(if i+1<=u.size then u.size else s.size)=if i<=u.size then u.size else s.size:=by
    by_cases g2:i<=u.size
    ·rw[if_pos g2,if_pos aa]
    ·rw[if_neg g2,if_neg aa]
   rw[e2];obtain⟨cc,Jk⟩:∃cc,(if i<=u.size then u.size else s.size)=cc:=⟨_,rfl⟩;rw[Jk];conv=>whnf
   (repeat((first|refine ag rfl rfl ?_|refine ae rfl rfl ?_|refine ao Q3 ?_|rw[t1]|rw[t2]|rw[e1]|rw[ι]);conv=>whnf))
   refine⟨i,λk=>k,[0,2,4,5],[2],aa,aD,i,rfl,aa, ?_,rfl⟩;rw[Jk];rfl
 ·obtain rfl:m=0:=aa;have t1:decide ((((0:Nat):Int) - 1)>=0)=false:=rfl;rw[if_pos (Γ _)];rcases h5 with⟨hd,h5⟩|⟨hd,h5,h6⟩
  ·have t2:((u.size:Int)==(s.size:Int))=true:=beq_iff_eq.2 aa;have eF:fF q= .agg [zZ q.num,fh 1 []]:=by rw[fF,hd];rfl
   rw[eF];conv=>whnf
   (repeat((first|refine ag rfl rfl ?_|refine ae rfl rfl ?_|refine ao Q3 ?_|refine aN aJ ?_|rw[bne_self_eq_false]|rw[t1]|rw[h4]|rw[t2]|rw[ι]);conv=>whnf));(first|exact au.refl _|exact qF.pC (au.refl _) rfl|(refine qF.one rfl rfl ?_;skip)|(refine qF.bQ ?_;(repeat(first|exact eO.bI rfl|exact pB.nil|refine pB.cons ?_ ?_|exact eO.aam|refine eO.agg ?_))))
  ·have t2:((u.size:Int)==(s.size:Int))=false:=beq_eq_false_iff_ne.2 aa;have e1:ε.wrap ((u.size:Int)+1)=((u.size+1:Nat):Int):=by rw[wrap_i64 aa aa];omega
   have t3:((((td q.den).length:Nat):Int)==0)=false:=beq_eq_false_iff_ne.2 hdn;conv=>whnf
   (repeat((first|refine ae rfl rfl ?_|refine ao Q3 ?_|refine aN aJ ?_|rw[bne_self_eq_false]|refine an Q8 ?_|rw[t1]|rw[h4]|rw[t2]|rw[e1]|rw[h6]|rw[t3]|rw[ι]);conv=>whnf));exact Q4
theorem Uh (q:Rat) (h:fs q<=4000):C0 64 [.val (.string (tQ q))] (.bQ [fF q,.val (.bool true)]):=by
 have k1:=Ug q h;refine bB [4] Tryz.func64 ?_;intro W0 w0 ρ0 hE;conv=>whnf
 (repeat(first|(refine aN aJ ?_;conv=>whnf)|(rw[beq_self_eq_true];conv=>whnf)));exact Q4
