/- The texts Tc, Ka, Kb, Kc, Kd, Ke, Kg, Kf, Kh, Ra, Rb, Rc, Rd, Aa, Re, Rf, Td, Te, Tf, Rg, Kk, Kl, Ki, Km, Kn. -/
import Derived.Test.YtadphegfhgmgmaaGreatDoorQMModesKnown5
import Derived.Test.YtadphegfhgmgmaaGreatDoorQMModesKnown2
set_option linter.unusedSimpArgs false
set_option linter.unusedVariables false
set_option maxHeartbeats 8000000
set_option maxRecDepth 100000
open And renaming intro->Ξ
open Array renaming ext'->ac0,getElem?_eq_none->ϴ,length_toList->ϭ
open Bool renaming false_eq_true->Κ,false_ne_true->afV,not_false->acP
open ByteArray renaming data_append->afl,mk->ϱ,size_append->adS
open Go renaming zeroValue->abc
open Go.Builtin renaming append_->abn,firstCells->Ω,lenOf->ahl,zeroCells->Τ
open Go.Instr renaming sliceBound->ϻ,sliceBounds->ac3
open Go.IntKind renaming i64->ε,u64->Ζ,u8->abO
open Go.Lib renaming decDigits->ώ,join->aeO,joinTail->amd,join_cons->ajY
open Go.Result renaming andThen_ok->ν
open Go.Sem renaming run_bind->Β,run_pure->Ε
open Go.Utf8 renaming encode->ame
open Int renaming add_mul_emod_self_left->ahJ,add_zero->ajU,emod_add_mul_ediv->akt,emod_eq_of_lt->ajw,le_of_lt->ahD,mul_le_mul_of_nonneg_right->acQ,mul_nonneg->ajN,natAbs_mul->ac6,natAbs_natCast->abK,natCast_ediv->afA,natCast_mul->Ρ,ofNat_le->ak6,ofNat_lt->aiT,pow_add->aiU,pow_succ->ϫ,sign_eq_neg_one_of_neg->ϕ,sign_eq_one_of_pos->ϰ,tdiv_eq_ediv_of_nonneg->ϩ,tmod_eq_emod_of_nonneg->Ϭ,toNat_natCast->ι,toNat_of_nonneg->akX,zero_mul->ajT
open List renaming append_assoc->abA,drop->ajh,drop_zero->afg,getD_cons_succ->abt,getD_cons_zero->aeL,getD_eq_getElem?_getD->δ,getElem?_append_left->ϳ,getElem?_cons_succ->ϥ,getElem?_cons_zero->ϑ,getElem?_eq_getElem->φ,getElem?_eq_none->Ϙ,getElem?_eq_some_iff->Ϩ,getElem?_toArray->ό,length_append->ξ,length_cons->ϊ,length_drop->ϗ,length_map->Χ,length_replicate->agr,length_reverse->akK,length_set->ϒ,length_singleton->adg,length_take->ψ,map_append->agf,map_cons->ϲ,map_nil->af6,mem_append->ϖ,mem_cons->Λ,mem_cons_self->η,mem_flatten->afQ,mem_map->abo,mem_of_mem_drop->Ψ,mem_of_mem_take->Θ,mem_replicate->agd,mem_singleton->μ,not_mem_nil->afT,range->Η,replicate->θ,size_toArray->af5,take->afH,take_length->adi,take_of_length_le->ϛ,take_zero->agq,zipWith->ω,zipWith_cons_cons->aj3
open Nat renaming add_comm->afk,add_mul->gx,add_sub_cancel->aeN,add_zero->abC,beq->ϋ,div_add_mod->abp,div_div_eq_div_mul->ϔ,div_eq_of_lt->Ϯ,div_le_div_left->ak0,div_le_self->ac1,div_lt_iff_lt_mul->acW,div_mul_le_self->ac5,div_one->akG,div_pos->ajs,dvd_trans->aiO,eq_of_beq_eq_true->χ,eq_zero_or_pos->acX,gcd->ac2,gcd_comm->ak9,gcd_dvd_right->ajv,le_div_iff_mul_le->agm,le_of_dvd->akA,le_of_lt->aiD,le_refl->ζ,le_trans->Ι,lt_of_le_of_lt->ϓ,lt_of_lt_of_le->Ϟ,lt_or_ge->Ϝ,mod_eq_of_lt->Υ,mod_lt->ab8,mod_mod_of_dvd->aiW,mod_mul_right_div_self->ahx,mul_assoc->Ϛ,mul_comm->Ϣ,mul_le_mul->Ϧ,mul_le_mul_left->ϧ,mul_le_mul_right->ο,mul_ne_zero->agI,pow_add->acU,pow_dvd_pow->ajz,pow_le_pow_left->aiM,pow_le_pow_right->ύ,pow_mul->ajl,pow_pos->acS,pow_succ->ϙ,pow_zero->agF,strongRecOn->aiI,sub_le->alb,sub_self->af0,succ_mul->ϯ,zero_add->υ,zero_le->Γ,zero_mul->aeC
open Option renaming map_some->afy
open Option.some renaming injEq->κ
open Prod.mk renaming injEq->ς
open Pure renaming pure->ajP
open UInt8 renaming ofNat->aal
namespace Go.Proofs.YtadphegfhgmgmaaGreatDoor
open Go.Sx
theorem ES:∀k n,n<2^k->(ώ n).length<=k+1
 |0,n,h=>by
  obtain rfl:n=0:=by simp at h;exact h
  rw[dec_lt ax];simp
 |k+1,n,h=>by
  by_cases h1:n<10
  ·rw[dec_lt h1];simp
  ·rw[y6 aa,ξ,adg];have:=ES k (n/10) (by rw[ϙ]at h;omega);omega
def cat (ss:List ByteArray):List UInt8:=(ss.map (·.data.toList)).flatten
theorem Bf (l:List (List UInt8)):aeO l []=l.flatten:=by
 cases l with
 |nil=>rfl
 |cons x r=>rw[ajY,amd];simp
theorem QC {v m:Nat} (h:v<4294967296^m):ji (bK v m) m=(af v).length/\(af v).length<=m:=by
 have hlen:=dj v m;have hv:=iY v m;rw[Υ h]at hv;have hc:=vH (bK v m) m;have hle:=Em (bK v m) m;have uI:=Al (bK v m) m;have:=Am (ji (bK v m) m) (bK v m) (iq v m) aa uI;rw[hc,hv,ι]at this;have e:(af v).length=ji (bK v m) m:=by rw[this,ψ];omega
 exact⟨e.symm,aa⟩
theorem Wi {v:Nat} (h:1000000000<=v):sz (v/1000000000)+29<=sz v:=by
 have h1:v<2^sz v:=eW.1 (ζ _);have h2:29<=sz v:=by
  rcases Ϝ (sz v) 29 with g|g
  ·have:2^sz v<=2^29:=ύ ax aa;omega
  ·exact g
 have h3:sz (v/1000000000)<=sz v - 29:=eW.2 (by
  rw[acW ax];have e:2^sz v=2^(sz v - 29)*2^29:=by rw[<-acU];congr 1;omega
  have:2^(sz v - 29)*2^29<=2^(sz v - 29)*1000000000:=ϧ _ ax
  omega)
 omega
theorem QD {r:Nat} (h:r<1000000000):(tN r).size<=9:=by
 rw[qo];show(ώ r).toArray.size<=9;have:=(ER 9 r h ax).2;simpa using this
theorem abI {r:Nat} (h:r<1000000000):((⟨(θ (9 - (tN r).size) 48).toArray⟩:ByteArray)++tN r).data.toList=iz 9 r:=by
 have hs:(tN r).size=(ώ r).length:=by rw[qo];show(ώ r).toArray.size=_;simp
 rw[(ER 9 r h ax).1,hs,qo,afl];simp
theorem Hf (ps:List ByteArray) (s:ByteArray):cat (ps++[s]).reverse=s.data.toList++cat ps.reverse:=by simp[cat]
theorem aeY {n M:Nat} (h:sz n<=M):(af n).length<=M:=iX (Ϟ (eW.1 h) (aiM ax M))
theorem abJ (n:Nat) (h:¬n<18446744073709551616) (hs:sz n<=1073741824):C0 129 [.nat n] (.val (.string (tN n))):=by
 have hwl:(af n).length<1099511627776:=ϓ (aeY hs) ax;have k1:=jt n 3001 hwl;have e2:((sQ n).toList==(ϱ #[]).toList)=false:=by rw[dO];exact decide_eq_false h
 have hwa:=cN n;refine kg [] Tryz.func129 ?_;intro w0 ρ0 hE;conv=>whnf
 (repeat((first|refine ae rfl rfl ?_|refine oe aJ rfl ?_|rw[e2]|rw[υ]);conv=>whnf))
 refine dD (t:=3) (k:=2002) (s:=1) (blk:=xp []) rfl rfl rfl ?_;have hwn:=fJ n
 refine av hE (λk=>k) [3,4] [2002,3001] (λq fr hp=>∃(v:Nat) (L:List Int) (ps:List ByteArray),q=v/\(af v).length<=L.length/\L.length<1099511627776/\gQ L/\aA L (af v).length=(v:Int)/\((v≠0/\ώ n=ώ v++cat ps.reverse/\ps.length*29+sz v<=sz n)\/(v=0/\ώ n=cat ps.reverse/\ps.length*29<=sz n+29))/\
  fr=[(3,.aM 2002 1 0 ps.length),(4,.aM 3001 1 0 (af v).length)]/\hp=[(2002,xp ps),(3001,⟨23,true,.ints .u32 L⟩)]) n ?_ ?_ ?_
 ·kernel_rfl
 ·have hwA:(cC n)=af n:=by rw[cC,if_neg h]
  refine⟨n,cC n,[],rfl,hwa,by rw[hwA];exact hwl,by rw[hwA];exact aY n,by rw[hwA];exact hwn,.inl ⟨aa, ?_,by simp⟩,rfl,rfl⟩;simp[cat]
 rintro q _ _ ⟨v,L,ps,rfl,hL,Uw,hLw,hLv,hrel,rfl,rfl⟩;conv=>whnf
 have uz:ps.length<1099511627776:=by rcases hrel with⟨_,_,g⟩|⟨_,_,g⟩<;>omega
 by_cases h0:0<q
 ·obtain⟨_,Ci,hlen⟩:=hrel.resolve_right aa;clear hrel;have hm:=oH (n:=q) aa;have t1:decide (((af q).length:Int)>0)=true:=decide_eq_true aa;have hqm:q<4294967296^(af q).length:=cp q;have k2:=K4 L (af q).length hL aa hLw 1000000000 ax ax 3001 3002 ax true q hLv;obtain⟨hcut,hcle⟩:=QC (v:=q/1000000000) (m:=(af q).length) (ϓ (ac1 _ _) hqm);have hdl:=dj (q/1000000000) (af q).length;have k3:=Pr (bK (q/1000000000) (af q).length) (af q).length aa aa 3002 true;rw[hcut]at k3;have hr:q % 1000000000<1000000000:=ab8 _ ax;have k4:=abH (q % 1000000000) aa;have e1:ε.wrap ((q % 1000000000:Nat):Int)=((q % 1000000000:Nat):Int):=wrap_i64 aa aa;have gM:=QD hr;have hdw:gQ (bK (q/1000000000) (af q).length):=iq _ _;have YG:aA (bK (q/1000000000) (af q).length) (af (q/1000000000)).length=((q/1000000000:Nat):Int):=by
   have h1:=vH (bK (q/1000000000) (af q).length) (af q).length;rw[hcut,iY,Υ (ϓ (ac1 _ _) hqm)]at h1;exact h1
  have hqv:q/1000000000*1000000000+q % 1000000000=q:=by have:=abp q 1000000000;omega
  by_cases hq:1000000000<=q
  ·have O9:0<q/1000000000:=ajs hq ax;have hs9:=Wi hq;have jI:=Dj 9 (q/1000000000) (q % 1000000000) O9 hr;rw[show 10^9=1000000000 from rfl,hqv,<-abI hr]at jI;have hm2:=oH (n:=q/1000000000) aa;have t2:decide (((af (q/1000000000)).length:Int)>0)=true:=decide_eq_true aa;have e2:ε.wrap (9 - ((tN (q % 1000000000)).size:Int))=((9 - (tN (q % 1000000000)).size:Nat):Int):=by rw[wrap_i64 aa aa];omega
   have k5:=QB (9 - (tN (q % 1000000000)).size) aa;have hrs:(⟨(θ (9 - (tN (q % 1000000000)).size) 48).toArray⟩:ByteArray).size=9 - (tN (q % 1000000000)).size:=by show(θ _ _).toArray.size=_;simp
   have jH:(⟨(θ (9 - (tN (q % 1000000000)).size) 48).toArray⟩:ByteArray).size+(tN (q % 1000000000)).size<=9223372036854775807:=aa;have Jn:ώ n=ώ (q/1000000000)++cat (ps++[(⟨(θ (9 - (tN (q % 1000000000)).size) 48).toArray⟩:ByteArray)++tN (q % 1000000000)]).reverse:=by
    rw[Ci,jI,Hf,abA]
   clear Ci jI;generalize (⟨(θ (9 - (tN (q % 1000000000)).size) 48).toArray⟩:ByteArray)=z9 at*;have hpm:(ps.map Aq).length=ps.length:=Χ ..
   (repeat((first|refine ag rfl rfl ?_|refine Ξ Q5 ?_|refine aN aJ ?_|refine od aJ rfl ?_|refine KN aJ rfl rfl ?_|rw[t1]|rw[e1]|rw[t2]|rw[e2]);conv=>whnf))
   refine⟨q/1000000000,dA [(41,2002),(3002,3001)],[3,4],[41,3002],aa,aD,q/1000000000,_,ps++[z9++tN (q % 1000000000)],rfl,by rw[hdl];exact hcle,aa,hdw,YG,.inl ⟨aa,Jn,by rw[ξ,adg];omega⟩,by rw[ξ];rfl, ?_⟩;have e9:xp (ps++[z9++tN (q % 1000000000)])=⟨9,true,.seq 1 (afH ps.length (ps.map Aq)++afH 1 (ajh 0 [SV.val (.string (z9++tN (q % 1000000000)))]))⟩:=by
    rw[xp,ϛ aa,agf];rfl
   rw[e9];rfl
  ·have O9:q/1000000000=0:=Ϯ aa;have t2:decide (((af (q/1000000000)).length:Int)>0)=false:=by rw[O9];rfl
   have abf:q % 1000000000=q:=Υ aa;have Jn:ώ n=cat (ps++[tN (q % 1000000000)]).reverse:=by
    rw[Ci,Hf,abf,qo]
   clear Ci;have hpm:(ps.map Aq).length=ps.length:=Χ ..
   (repeat((first|refine ag rfl rfl ?_|refine ae rfl rfl ?_|refine Ξ Q5 ?_|refine aN aJ ?_|refine od aJ rfl ?_|refine KN aJ rfl rfl ?_|rw[t1]|rw[e1]|rw[t2]);conv=>whnf))
   refine⟨q/1000000000,dA [(41,2002),(3002,3001)],[3,4],[41,3002],aa,aD,q/1000000000,_,ps++[tN (q % 1000000000)],rfl,by rw[hdl];exact hcle,aa,hdw,YG,.inr ⟨O9,Jn,by rw[ξ,adg];omega⟩,by rw[ξ];rfl, ?_⟩;have e9:xp (ps++[tN (q % 1000000000)])=⟨9,true,.seq 1 (afH ps.length (ps.map Aq)++afH 1 (ajh 0 [SV.val (.string (tN (q % 1000000000)))]))⟩:=by
    rw[xp,ϛ aa,agf];rfl
   rw[e9];rfl
 ·obtain rfl:q=0:=aa;obtain⟨_,Ci,_⟩:=hrel.resolve_left (λh=>h.1 rfl);have t1:decide (((af 0).length:Int)>0)=false:=rfl;have k2:=Nt ps ps.length rfl aa 2002;have hdl:(ώ n).length<=140737488355328:=by
   exact Ι (ES (sz n) n (eW.1 (ζ _))) aa
  have k3:=Wh ps.reverse ps.length (by rw[akK]) ⟨#[]⟩ (by rw[akK];omega) (by
   rw[show(⟨#[]⟩:ByteArray).data.toList=[]from rfl,Bf];show(cat ps.reverse).length<=_
   rw[<-Ci];exact hdl) 2002
  have e:(⟨(aeO (ps.reverse.map (·.data.toList)) (⟨#[]⟩:ByteArray).data.toList).toArray⟩:ByteArray)=tN n:=by
   rw[show(⟨#[]⟩:ByteArray).data.toList=[]from rfl,Bf,qo,Ci];rfl
  rw[e]at k3
  (repeat(first|(refine ae rfl rfl ?_;conv=>whnf)|(refine od aJ rfl ?_;conv=>whnf)|(refine x0 aJ rfl rfl ?_;conv=>whnf)));exact Q4
theorem lB (n:Nat):(tN n).size<=sz n+1:=by
 rw[qo];show(ώ n).toArray.size<=_;simpa using ES (sz n) n (eW.1 (ζ _))
theorem QE (n:Nat) (hs:sz n<=1073741824):C0 129 [.nat n] (.val (.string (tN n))):=by
 by_cases h:n<18446744073709551616
 ·have k1:=Ns n h;have e1:low n=(n:Int):=cD h;have e2:((sQ n).toList==(ϱ #[]).toList)=true:=by rw[dO];exact decide_eq_true h
  refine bB [] Tryz.func129 ?_;intro W0 w0 ρ0 hE;conv=>whnf
  (repeat((first|refine ag rfl rfl ?_|refine aN aJ ?_|rw[e2]|rw[e1]);conv=>whnf));exact Q4
 ·exact abJ n h hs
theorem abL (z:Int) (h:sz z.natAbs<=1073741824):C0 128 [.int z] (.val (.string (tZ z))):=by
 have k1:=QE z.natAbs h;have hs:=lB z.natAbs;have h1:(ϱ #[45]).size=1:=rfl;have h2:(ϱ #[45]).size+(tN z.natAbs).size<=9223372036854775807:=aa;unfold tZ;refine bB [] Tryz.func128 ?_;intro W0 w0 ρ0 hE;conv=>whnf
 by_cases hz:z<0
 ·have t1:decide (z<0)=true:=decide_eq_true hz;rw[if_pos hz]
  (repeat((first|refine ag rfl rfl ?_|refine Ξ Q5 ?_|refine aN aJ ?_|rw[t1]);conv=>whnf));exact Q4
 ·have t1:decide (z<0)=false:=decide_eq_false hz;rw[if_neg hz]
  (repeat(first|(refine ae rfl rfl ?_;conv=>whnf)|(refine aN aJ ?_;conv=>whnf)|(rw[t1];conv=>whnf)));exact Q4
theorem wg (z:Int):(tZ z).size<=sz z.natAbs+2:=by
 have hs:=lB z.natAbs;unfold tZ;split
 ·rw[adS];have:("-".toUTF8).size=1:=rfl;omega
 ·omega
theorem ET (q:Rat) (h:fs q<=1073741824):C0 65 [.frac q] (.val (.string (tQ q))):=by
 have n1:=dJ q;have n2:=dG q;unfold fs at h;have kw:=pJ q;have k1:=abL q.num aa;have k2:=QE q.den aa;have k3:=x8 pN q aa;have hs:=wg q.num;have La:=lB q.den;have h1:(ϱ #[47]).size=1:=rfl;have h2:(tZ q.num).size+(ϱ #[47]).size<=9223372036854775807:=aa;have h3:(tZ q.num++(ϱ #[47])).size+(tN q.den).size<=9223372036854775807:=by rw[adS];omega
 unfold tQ;refine bB [] Tryz.func65 ?_;intro W0 w0 ρ0 hE;conv=>whnf
 by_cases hd:q.den=1
 ·rw[decide_eq_true hd]at kw;rw[if_pos hd]
  (repeat(first|(refine ag rfl rfl ?_;conv=>whnf)|(refine aN aJ ?_;conv=>whnf)));exact Q4
 ·rw[decide_eq_false hd]at kw;rw[if_neg hd]
  (repeat((first|refine ae rfl rfl ?_|refine aq aD ?_|refine Ξ Q5 ?_|refine aN aJ ?_);conv=>whnf));exact Q4
theorem Wj (q:Rat):(tQ q).size<=fs q+fs q+4:=by
 have n1:=dJ q;have n2:=dG q;have hs:=wg q.num;have La:=lB q.den;unfold fs;unfold tQ;split
 ·omega
 ·rw[adS,adS];have:("/".toUTF8).size=1:=rfl;omega
theorem Dk:∀(l:List (List UInt8)) (B:Nat),(∀x∈l,x.length<=B)->(aeO l [32]).length<=l.length*(B+1)
 |[],B,_=>by simp[Lib.join_nil]
 |[x],B,h=>by rw[Lib.join_one];have:=h x (η ..);simp;omega
 |x::y::l,B,h=>by
  have ih:=Dk (y::l) B (λz hz=>h z (List.mem_cons_of_mem _ hz));have hx:=h x (η ..);have e:aeO (x::y::l) [32]=x++[32]++aeO (y::l) [32]:=by rw[ajY,ajY];simp[amd]
  rw[e];simp only[ξ,ϊ,List.length_nil]at*;rw[ϯ (l.length+1)];omega
theorem Wl {a:List Rat} {B:Nat} (hl:a.length<=2048) (h:∀i,i<a.length->fs (a.getD i 0)<=B) (hB:B<=1000000000):(aeO ((a.map tQ).map (·.data.toList)) [32]).length<=140737488355328:=by
 refine Ι (Dk _ (2*B+4) ?_) ?_
 ·intro x hx;obtain⟨s,hs,rfl⟩:=abo.1 hx;obtain⟨q,hq,rfl⟩:=abo.1 hs;obtain⟨i,hi,rfl⟩:=An hq 0;have h1:=Wj (a.getD i 0);have h2:=h i hi;show(tQ (a.getD i 0)).data.toList.length<=_;have:(tQ (a.getD i 0)).data.toList.length=(tQ (a.getD i 0)).size:=ϭ;omega
 ·rw[Χ,Χ];have:a.length*(2*B+4+1)<=2048*(2*B+4+1):=ο _ hl;omega
theorem QF (a:List Rat) (B:Nat) (hl:a.length<=2048) (h:∀i,i<a.length->fs (a.getD i 0)<=B) (hB:B<=1000000000):C0 62 [bx a] (.val (.string (tV a))):=by
 have hJ:=Wl hl h hB;have hz:((a.map tQ).map Aq).length=a.length:=by simp
 have oc:∀i,i<a.length->((a.map tQ).map Aq).getD i .any= .val (.string (tQ (a.getD i 0))):=λi hi=>by rw[nQ (d:=ByteArray.empty) (by simpa using hi),nQ (d:=0) hi];rfl
 have kj:=abx (a.map tQ) (by simp;omega) hJ;refine kg [] Tryz.func62 ?_;intro w0 ρ0 hE;conv=>whnf
 (repeat(first|(refine Ξ Q5 ?_;conv=>whnf)|(refine an Q8 ?_;conv=>whnf)|(rw[ι];conv=>whnf)))
 refine cG hE (λk=>k) [0,2,3,9,10,11] [8] (λm fr hp=>∃i,m=a.length - i/\i<=a.length/\fr=[(0,bx a),(2,.val (.string ⟨#[]⟩)),(3,.aM 8 1 0 a.length),(9,bx a),(10,.val (.int .i64 (a.length:Nat))),(11,.val (.int .i64 (i:Nat)))]/\
  hp=[(8,⟨9,true,.seq 1 (((a.map tQ).map Aq).take i++θ (a.length - i) (.val (.string .empty)))⟩)]) a.length ?_ ?_ ?_
 ·kernel_rfl
 ·exact⟨0,rfl,Γ _,rfl,rfl⟩
 rintro m _ _ ⟨i,rfl,hi,rfl,rfl⟩;have hlen:=dW (d:=SV.val (.string .empty)) hi hz;by_cases aE:i<a.length
 ·have t1:=gZ aE;have t2:=bW (i:=i) aa;have k1:=ET (a.getD i 0) (Ι (h i aE) aa);refine dY.of hE ?_;conv=>whnf
  have e3:=Pe (d:=SV.val (.string .empty)) (e:=SV.any) aE hz
  (repeat((first|refine ag rfl rfl ?_|refine Ξ Q5 ?_|refine aN aJ ?_|refine an Ar ?_|refine an Q6 ?_|rw[t1]|rw[e3]|rw[t2]|rw[ι]|rw[υ]);conv=>whnf))
  refine⟨a.length - (i+1),λk=>k,[0,2,3,9,10,11],[8],aa,aD,i+1,rfl,aE,rfl, ?_⟩;rw[<-fG (e:=.any) aE hz,oc i aE];rfl
 ·have t1:=iH aE;have hI:i=a.length:=aa;subst hI;rw[gD hz];refine ec 3 8 (λ_ h=>h) (λ_=>rfl) rfl rfl (by simp) ?_;refine dY.of hE ?_;conv=>whnf
  have h91:(ϱ #[91]).size=1:=rfl;have h93:(ϱ #[93]).size=1:=rfl;have hjs:(ϱ (aeO ((a.map tQ).map (·.data.toList)) [32]).toArray).size=(aeO ((a.map tQ).map (·.data.toList)) [32]).length:=by show(aeO ((a.map tQ).map (·.data.toList)) [32]).toArray.size=_;simp
  have o1:(ϱ #[91]).size+(ϱ (aeO ((a.map tQ).map (·.data.toList)) [32]).toArray).size<=9223372036854775807:=aa;have o2:(ϱ #[91]++ϱ (aeO ((a.map tQ).map (·.data.toList)) [32]).toArray).size+(ϱ #[93]).size<=9223372036854775807:=by rw[adS];omega
  (repeat((first|refine ae rfl rfl ?_|refine Ξ Q5 ?_|refine aN aJ ?_|rw[t1]);conv=>whnf));exact Q4
abbrev iv (n:Int):SV:=.val (.int .i64 n)
abbrev mA (r c:Int) (a:List Rat):SV:=.agg [iv r,iv c,bx a]
abbrev mC (r c:Int) (a:List Rat):List SV:=[iv r,iv c,bx a]
abbrev MV:=Int×Int×List Rat
abbrev mB (m:MV):SV:=mA m.1 m.2.1 m.2.2
def oi (r c:Int):Int:=if r<0\/c<0 then 1 else if r>2048\/c>2048 then 3 else 0
theorem sy (r c:Int):C0 113 [iv r,iv c] (iv (oi r c)):=by
 refine bB [] Tryz.func113 ?_;intro W0 w0 ρ0 hE;conv=>whnf
 unfold oi;by_cases h1:r<0
 ·have t1:decide (r<0)=true:=decide_eq_true h1;rw[if_pos (.inl h1)]
  (repeat((first|refine ag rfl rfl ?_|refine ae rfl rfl ?_|refine an er ?_|rw[t1]);conv=>whnf));exact Q4
 have t1:decide (r<0)=false:=decide_eq_false h1;by_cases h2:c<0
 ·have t2:decide (c<0)=true:=decide_eq_true h2;rw[if_pos (.inr h2)]
  (repeat((first|refine ag rfl rfl ?_|refine an dZ ?_|rw[t1]|rw[t2]);conv=>whnf));exact Q4
 have t2:decide (c<0)=false:=decide_eq_false h2;rw[if_neg aa];by_cases h3:r>2048
 ·have t3:decide (r>2048)=true:=decide_eq_true h3;rw[if_pos (.inl h3)]
  (repeat((first|refine ag rfl rfl ?_|refine ae rfl rfl ?_|refine an er ?_|refine an dZ ?_|rw[t1]|rw[t2]|rw[t3]);conv=>whnf));exact Q4
 have t3:decide (r>2048)=false:=decide_eq_false h3;by_cases h4:c>2048
 ·have t4:decide (c>2048)=true:=decide_eq_true h4;rw[if_pos (.inr h4)]
  (repeat((first|refine ag rfl rfl ?_|refine ae rfl rfl ?_|refine an dZ ?_|rw[t1]|rw[t2]|rw[t3]|rw[t4]);conv=>whnf));exact Q4
 have t4:decide (c>2048)=false:=decide_eq_false h4;rw[if_neg aa]
 (repeat((first|refine ag rfl rfl ?_|refine ae rfl rfl ?_|refine an dZ ?_|rw[t1]|rw[t2]|rw[t3]|rw[t4]);conv=>whnf));exact Q4
theorem QG {r c:Int} (h:oi r c=0):(0<=r/\r<=2048)/\(0<=c/\c<=2048):=by
 unfold oi at h;by_cases h1:r<0\/c<0
 ·rw[if_pos h1]at h;omega
 ·rw[if_neg h1]at h;by_cases h2:r>2048\/c>2048
  ·rw[if_pos h2]at h;omega
  ·omega
theorem oW {r c:Int} (h:(0<=r/\r<=2048)/\(0<=c/\c<=2048)):oi r c=0:=by
 unfold oi;rw[if_neg aa,if_neg aa]
theorem Wm {r c:Int} (h:(0<=r/\r<=2048)/\(0<=c/\c<=2048)):0<=r*c/\r*c<=4194304:=by
 obtain⟨⟨a,b⟩,d,e⟩:=h;refine⟨ajN a d, ?_⟩;exact Int.le_trans (Int.mul_le_mul b e d ax) ax
def oj (r c:Int) (n:Nat):Int:=if oi r c≠0 then oi r c else if (n:Int)≠r*c then 1 else 0
theorem y7 (r c:Int) (a:List Rat) (hn:a.length<1099511627776):C0 55 [mA r c a] (iv (oj r c a.length)):=by
 have k1:=sy r c;refine bB [] Tryz.func55 ?_;intro W0 w0 ρ0 hE;conv=>whnf
 unfold oj;by_cases h1:oi r c=0
 ·rw[if_neg aa];rw[h1]at k1;have hp:=Wm (QG h1);have t2:ε.wrap (r*c)=r*c:=wrap_i64 aa aa;by_cases h2:(a.length:Int)=r*c
  ·have t3:((a.length:Int) != r*c)=false:=by rw[h2];exact bne_self_eq_false _
   rw[if_neg aa];clear hp
   (repeat((first|refine ae rfl rfl ?_|refine aN aJ ?_|rw[bne_self_eq_false]|refine an Q8 ?_|rw[t2]|rw[t3]);conv=>whnf));exact Q4
  ·have t3:((a.length:Int) != r*c)=true:=bne_iff_ne.2 h2;rw[if_pos h2];clear hp
   (repeat((first|refine ag rfl rfl ?_|refine ae rfl rfl ?_|refine aN aJ ?_|rw[bne_self_eq_false]|refine an Q8 ?_|rw[t2]|rw[t3]);conv=>whnf));exact Q4
 ·have t1:(oi r c != 0)=true:=bne_iff_ne.2 h1;rw[if_pos h1]
  (repeat(first|(refine ag rfl rfl ?_;conv=>whnf)|(refine aN aJ ?_;conv=>whnf)|(rw[t1];conv=>whnf)));exact Q4
theorem wh {r c:Nat} {n:Nat} (hr:r<=2048) (hc:c<=2048) (hn:n=r*c):oj r c n=0:=by
 unfold oj;rw[oW aa,if_neg aa,if_neg (by rw[hn];push_cast;omega)]
structure fa (R C:Nat) (a:List Rat):Prop where
 r:R<=2048
 c:C<=2048
 n:a.length=R*C
theorem fa.small {r c:Nat} {a:List Rat} (h:fa r c a):a.length<=4194304:=by rw[h.n];exact Ϧ h.r h.c
theorem cO {r c:Nat} {a:List Rat} (h:fa r c a):C0 55 [mA r c a] (iv 0):=by
 have:=y7 r c a (by have:=h.small;omega);rwa [wh h.r h.c h.n]at this
def Cl:List MV->Int
 |[]=>0
 |m::l=>if oj m.1 m.2.1 m.2.2.length≠0 then oj m.1 m.2.1 m.2.2.length else Cl l
theorem drop_one {α:Type} {l:List α} {i:Nat} (d:α) (h:i<l.length):l.drop i=l.getD i d::l.drop (i+1):=by
 rw[List.drop_eq_getElem_cons h,δ,φ h];rfl
abbrev yC:MV:=(0,0,[])
theorem Y4 (l:List MV) (hl:l.length<1099511627776) (h:∀m∈l,m.2.2.length<1099511627776):C0 86 [bN 3 mB l] (iv (Cl l)):=by
 refine bB [] Tryz.func86 ?_;intro W0 w0 ρ0 hE;conv=>whnf
 (repeat(first|(refine an Q8 ?_;conv=>whnf)))
 refine av hE (λk=>k) [0,6,7,8] [] (λm fr hp=>∃i:Nat,m=l.length - i/\i<=l.length/\Cl (l.drop i)=Cl l/\fr=[(0,bN 3 mB l),(6,bN 3 mB l),(7,iv (l.length:Nat)),(8,iv (i:Nat))]/\hp=[]) l.length ?_ ?_ ?_
 ·kernel_rfl
 ·exact⟨0,rfl,Γ _,rfl,rfl,rfl⟩
 rintro m _ _ ⟨i,rfl,hi,hs,rfl,rfl⟩;conv=>whnf
 by_cases aE:i<l.length
 ·have t1:=gZ aE;have t2:=bW (i:=i) aa;have k1:=y7 (l.getD i yC).1 (l.getD i yC).2.1 (l.getD i yC).2.2 (h _ (eX aE));rw[drop_one yC aE,Cl]at hs;by_cases hc:oj (l.getD i yC).1 (l.getD i yC).2.1 (l.getD i yC).2.2.length=0
  ·rw[if_neg aa]at hs;rw[hc]at k1
   (repeat((first|refine ag rfl rfl ?_|refine ae rfl rfl ?_|refine aN aJ ?_|rw[bne_self_eq_false]|refine an Q6 ?_|refine an (iW (α:=MV) (d:=yC) rfl (ai rfl) (ai rfl) (ez rfl) rfl (ez rfl) rfl aa) ?_|rw[t1]|rw[t2]);conv=>whnf))
   exact⟨l.length - (i+1),λk=>k,[0,6,7,8],[],aa,aD,i+1,rfl,aE,hs,rfl,rfl⟩
  ·have t3:(oj (l.getD i yC).1 (l.getD i yC).2.1 (l.getD i yC).2.2.length != 0)=true:=bne_iff_ne.2 hc;rw[if_pos hc]at hs;rw[<-hs]
   (repeat((first|refine ag rfl rfl ?_|refine aN aJ ?_|refine an Q6 ?_|refine an (iW (α:=MV) (d:=yC) rfl (ai rfl) (ai rfl) (ez rfl) rfl (ez rfl) rfl aa) ?_|rw[t1]|rw[t3]);conv=>whnf));exact Q4
 ·have t1:=iH aE;have hI:i=l.length:=aa;rw[hI,List.drop_length]at hs;rw[<-hs]
  (repeat(first|(refine ae rfl rfl ?_;conv=>whnf)|(rw[t1];conv=>whnf)));exact Q4
theorem JM {r c s t:Nat} {a b:List Rat} (ha:fa r c a) (hb:fa s t b):C0 86 [bN 3 mB [((r:Int),(c:Int),a),((s:Int),(t:Int),b)]] (iv 0):=by
 have:=Y4 [((r:Int),(c:Int),a),((s:Int),(t:Int),b)] (by simp) (by
  intro m hm;have h1:=ha.small;have h2:=hb.small;simp only[Λ,afT,or_false]at hm;rcases hm with rfl|rfl
  ·show a.length<_;omega
  ·show b.length<_;omega)
 rwa [Cl,if_neg (by rw[wh ha.r ha.c ha.n];decide),Cl,if_neg (by rw[wh hb.r hb.c hb.n];decide),Cl]at this
theorem abM {r c:Nat} {a:List Rat} (ha:fa r c a):C0 86 [bN 3 mB [((r:Int),(c:Int),a)]] (iv 0):=by
 have:=Y4 [((r:Int),(c:Int),a)] (by simp) (by
  intro m hm;have h1:=ha.small;simp only[Λ,afT,or_false]at hm;obtain rfl:=hm
  show a.length<_;omega)
 rwa [Cl,if_neg (by rw[wh ha.r ha.c ha.n];decide),Cl]at this
def iQ (l:List (List Rat)):Int:=if l.any (λv=>decide (2048<v.length))then 3 else 0
theorem y8 (ls:List (List Rat)) (hn:ls.length<1099511627776) (hl:∀v∈ls,v.length<1099511627776):C0 123 [bN 1 bx ls] (iv (iQ ls)):=by
 refine bB [] Tryz.func123 ?_;intro W0 w0 ρ0 hE;conv=>whnf
 (repeat(first|(refine an Q8 ?_;conv=>whnf)))
 refine av hE (λk=>k) [0,5,6,7] [] (λm fr hp=>∃i:Nat,m=ls.length - i/\i<=ls.length/\(∀j,j<i->decide (2048<(ls.getD j []).length)=false)/\fr=[(0,bN 1 bx ls),(5,bN 1 bx ls),(6,iv (ls.length:Nat)),(7,iv (i:Nat))]/\hp=[]) ls.length ?_ ?_ ?_
 ·kernel_rfl
 ·exact⟨0,rfl,Γ _,(λj hj=>aa),rfl,rfl⟩
 rintro m _ _ ⟨i,rfl,hi,hs,rfl,rfl⟩;conv=>whnf
 by_cases aE:i<ls.length
 ·have t1:=gZ aE;have t2:=bW (i:=i) aa;by_cases hL:2048<(ls.getD i []).length
  ·have t3:decide (((ls.getD i []).length:Int)>2048)=true:=decide_eq_true aa;have e:iQ ls=3:=by rw[iQ,if_pos (I8 (d:=[]) aE (decide_eq_true hL))]
   rw[e]
   (repeat((first|refine ag rfl rfl ?_|refine an Q8 ?_|refine an Q6 ?_|refine an IG ?_|rw[t1]|rw[t3]);conv=>whnf));exact Q4
  ·have t3:decide (((ls.getD i []).length:Int)>2048)=false:=decide_eq_false aa
   (repeat((first|refine ag rfl rfl ?_|refine ae rfl rfl ?_|refine an Q8 ?_|refine an Q6 ?_|refine an IG ?_|rw[t1]|rw[t3]|rw[t2]);conv=>whnf))
   refine⟨ls.length - (i+1),λk=>k,[0,5,6,7],[],aa,aD,i+1,rfl,aE, ?_,rfl,rfl⟩;intro j hj;by_cases w6:j=i
   ·rw[w6];exact decide_eq_false hL
   ·exact hs j aa
 ·have t1:=iH aE;have hI:i=ls.length:=aa;subst hI;have e:iQ ls=0:=by rw[iQ,if_neg];rw[Ao [] hs];exact afV
  rw[e]
  (repeat(first|(refine ae rfl rfl ?_;conv=>whnf)|(rw[t1];conv=>whnf)));exact Q4
theorem Y5 (i:Int) (n:Int):C0 116 [iv i,iv n] (.val (.bool (decide (0<=i/\i<n)))):=by
 refine bB [] Tryz.func116 ?_;intro W0 w0 ρ0 hE;conv=>whnf
 by_cases h1:i<0
 ·have t1:decide (i>=0)=false:=decide_eq_false aa;rw[decide_eq_false (show ¬(0<=i/\i<n) by omega)]
  (repeat(first|(refine ae rfl rfl ?_;conv=>whnf)|(refine an dZ ?_;conv=>whnf)|(rw[t1];conv=>whnf)));exact Q4
 ·have t1:decide (i>=0)=true:=decide_eq_true aa;by_cases h2:i<n
  ·have t2:decide (i<n)=true:=decide_eq_true h2;rw[decide_eq_true (show 0<=i/\i<n by omega)]
   (repeat((first|refine ag rfl rfl ?_|refine an er ?_|rw[t1]|rw[t2]);conv=>whnf));exact Q4
  ·have t2:decide (i<n)=false:=decide_eq_false h2;rw[decide_eq_false (show ¬(0<=i/\i<n) by omega)]
   (repeat((first|refine ag rfl rfl ?_|refine an er ?_|rw[t1]|rw[t2]);conv=>whnf));exact Q4
theorem rD {i k c:Nat} (hi:i<=2048) (hc:c<=2048) (hk:k<=2048):ε.wrap ((i:Int)*(c:Int))=((i*c:Nat):Int)/\ε.wrap (((i*c:Nat):Int)+(k:Int))=((i*c+k:Nat):Int):=by
 have h1:i*c<=2048*2048:=Ϧ hi hc;constructor
 ·rw[<-Ρ,wrap_i64 aa aa]
 ·rw[wrap_i64 aa aa];omega
theorem Hg {r c:Nat} {a:List Rat} (h:fa r c a) {i k:Nat} (hi:i<r) (hk:k<c):C0 85 [mA r c a,iv i,iv k] (.frac (el a c i k)):=by
 obtain⟨t1,t2⟩:=rD (i:=i) (k:=k) (c:=c) (by have:=h.r;omega) h.c (by have:=h.c;omega);have aE:=dP hi hk;rw[<-h.n]at aE;refine bB [] Tryz.func85 ?_;intro W0 w0 ρ0 hE;conv=>whnf
 (repeat((first|refine an Q6 ?_|refine an Q22 ?_|rw[t1]|rw[t2]|rw[ι]);conv=>whnf));exact Q4
abbrev oX (a:List Rat) (c i:Nat):List Rat:=(a.drop (i*c)).take c
theorem gI {r c i:Nat} {a:List Rat} (hi:i<r) (h:a.length=r*c):(oX a c i).length=c:=by
 have:=ο c (show i+1<=r from hi);rw[ϯ]at this;rw[ψ,ϗ];omega
theorem lD {a:List Rat} {c i k:Nat} (hk:k<c):(oX a c i).getD k 0=el a c i k:=by
 simp[δ,hk]
theorem QH {i c:Nat} (hi:i<=2047) (hc:c<=2048):ε.wrap ((i:Int)*(c:Int))=((i*c:Nat):Int)/\ε.wrap (((i+1:Nat):Int)*(c:Int))=(((i+1)*c:Nat):Int)/\ε.wrap ((i:Int)+1)=((i+1:Nat):Int):=
 ⟨(rD (i:=i) (k:=0) aa hc aa).1,(rD (i:=i+1) (k:=0) aa hc aa).1,bW aa⟩
theorem abN {r c:Nat} {a:List Rat} (h:fa r c a) {i:Nat} (hi:i<r):C0 120 [mA r c a,iv i] (bx (oX a c i)):=by
 obtain⟨t1,t2,t3⟩:=QH (i:=i) (c:=c) (by have:=h.r;omega) h.c;have aE:=ο c (show i+1<=r from hi);have hle:i*c<=(i+1)*c:=ο c aa;rw[<-h.n]at aE;have e1:(i+1)*c - i*c=c:=by rw[ϯ];omega
 refine bB [] Tryz.func120 ?_;intro W0 w0 ρ0 hE;conv=>whnf
 (repeat((first|refine aq aD ?_|refine an (CP rfl (ai rfl) (gA rfl) (gA rfl) (.inr ⟨Option.some_ne_none _,_,_,rfl,ai rfl⟩) (ez rfl) rfl (ez rfl) rfl aa) ?_|rw[t1]|rw[t3]|rw[t2]|rw[e1]|rw[ι]);conv=>whnf))
 exact Q4
end Go.Proofs.YtadphegfhgmgmaaGreatDoor
namespace Go.Sx
section
variable {P:Program} {o:Oper} {ft:List (Nat×SV)} {fk:List (Nat×aC)}
theorem Nu {t e:TypeId} {x lo hi mx:Operand} {ti te:TI} {k s i n:Nat} {l h:Int} {kl kh km:IntKind} (ho:o.op= .slice t x (some lo) (some hi) (some mx)) (hx:bg ft x (.aM k s i n))
  (FG:bg ft lo (.val (.int kl l))) (BX:bg ft hi (.val (.int kh h))) (hmx:bg ft mx (.val (.int km h)))
  (ht:b6 P t ti) (hk:ti.kind= .aM e) (he:b6 P e te) (hs:te.size=s) (hh:0<=l/\l<=h/\h<=n):bR P o ft fk (.aM k s (i+l.toNat) (h - l).toNat) [] []:=
 br λρ a w hp=>by
  obtain⟨h0,hlh,hh⟩:=hh;have hu:=ht.kind;rw[hk]at hu
  have key:∀(ad:Option Addr) (m cap:Nat),n=m->m<=cap->a.eval x= .slice ad m cap->
    (execOp a.eval o).run P w= .ok (.value (.slice (if h.toNat=l.toNat then ad else ad.map (·.add (l.toNat*s))) (h.toNat - l.toNat) (h.toNat - l.toNat))) w:=by
   intro ad m cap Ox hmc hv;have hr:∀(z:Operand) (kd:IntKind) (bd:Nat),bg ft z (.val (.int kd h))->h.toNat<=bd->∀q,(ϻ (a.eval z) bd q).run P w= .ok h.toNat w:=by
    intro z kd bd hz MS q;have:=aK (hz ρ a hp.dR);have hb:0<=h/\h<=(bd:Int):=aa;simp[ϻ,this,asIntOf,hb]
   have hl:∀q,(ϻ (a.eval lo) h.toNat q).run P w= .ok l.toNat w:=by
    intro q;have:=aK (FG ρ a hp.dR);have hb:0<=l/\l<=(h.toNat:Int):=aa;simp only[ϻ,this,asIntOf,Β,Ε,ν,hb,and_self,if_true]
   have ve:(ac3 true m cap (some (a.eval lo)) (some (a.eval hi)) (some (a.eval mx))).run P w= .ok (l.toNat,h.toNat,h.toNat) w:=by
    unfold ac3;simp[hr mx km cap hmx aa,hr hi kh h.toNat BX (ζ _),hl]
   simp only[execOp,ho,afy,Instr.sliceAt,Β,run_underlying hu,ν,Instr.slice,hv,ve,he.sizeOf,hs,Ε]
  rcases gN (hx ρ a hp.dR)with⟨b,t',cap,h1,h2,h3,h4⟩|⟨rfl,ad,h4⟩
  ·refine⟨_,key _ n cap rfl h2 h4,iE ?_⟩;by_cases hc:h.toNat=l.toNat
   ·right;have:h.toNat - l.toNat=0:=aa;refine⟨aa,some ⟨b,i*s,none⟩, ?_⟩;rw[if_pos hc,this]
   ·left;refine⟨b,t',h.toNat - l.toNat,h1,aa, ?_, ?_⟩
    ·exact Ι (ο s (show i+l.toNat+(h.toNat - l.toNat)<=i+cap by omega)) h3
    ·rw[if_neg hc];have hZ:(⟨b,i*s,none⟩:Addr).add (l.toNat*s)=⟨b,(i+l.toNat)*s,none⟩:=by
      unfold Addr.add;rw[gx];split
      ·rename_i h0;simp[h0]
      ·rfl
     rw[afy,hZ,show(h - l).toNat=h.toNat - l.toNat from by omega]
  ·refine⟨_,key ad 0 0 rfl (ζ _) h4,iE (.inr ⟨aa,ad, ?_⟩)⟩;have h1:l.toNat=0:=aa;have h2:h.toNat=0:=aa;simp[h1,h2]
theorem sA {f:FuncId} {a b:List SV} {t t2:TypeId} {x y:Operand} {p r:Array TypeId} {v:Bool} (ho:o.op= .binOp .eql t x y t2) (hx:bg ft x (.clo f a b)) (hy:bg ft y (.val .nilFunc)) (hu:P.underlying t=some (.func p r v)):bR P o ft fk (.val (.bool false)) [] []:=
 br λρ ac w hp=>by
  have h1:=hx ρ ac hp.dR;simp only[Has,aI]at h1;obtain⟨_,⟨fz,cz,_,_,rfl⟩,e1⟩:=h1;have e2:=aK (hy ρ ac hp.dR);simp only[cV,SV.aZ,if_true,List.headD_cons]at e1;have hq:∀d vs ws,(Op.equalIn (d+1) t (.func (.func f) vs ws) .nilFunc).run P w= .ok false w:=λd vs ws=>by simp[Op.equalIn,run_underlying hu]
  have uA:∀vs ws,(Op.equal t (.func (.func f) vs ws) .nilFunc).run P w= .ok false w:=λvs ws=>hq 9999 vs ws
  refine⟨_, ?_,ck rfl⟩;simp[execOp,ho,e1,e2,eqGuard,binOp,uA]
end
end Go.Sx
namespace Go.Proofs.YtadphegfhgmgmaaGreatDoor
open Go.Sx
abbrev zM:aC:=⟨35,true,.one [iv 0,iv 0,.val (.slice none 0 0)]⟩
abbrev bM (r c K:Nat):aC:=⟨35,true,.one [iv r,iv c,.aM K 5 0 (r*c)]⟩
abbrev eJ (l:List Rat):aC:=⟨49,true,.cf l⟩
theorem EU {r c:Nat} {a:List Rat} (h:fa r c a) {i:Nat} (hi:i<r) (K:Nat):aL Tryz.prog 120 [.agg [iv r,iv c,.aM K 5 0 (r*c)],iv i] [(K,eJ a)] (.aM K 5 (i*c) c) [] []:=by
 obtain⟨t1,t2,t3⟩:=QH (i:=i) (c:=c) (by have:=h.r;omega) h.c;have aE:=ο c (show i+1<=r from hi);have hle:i*c<=(i+1)*c:=ο c aa;have e1:(((i+1)*c:Nat) - (i*c:Nat):Int).toNat=c:=by rw[ϯ];omega
 refine aL.vF ?_;refine gY (Z:=[]) aH bC Tryz.func120 rfl aD (args:=[.agg [iv r,iv c,.aM 1001 5 0 (r*c)],iv i]) (fk:=[(1001,⟨49,false,.cf a⟩)]) (c:=.aM 1001 5 (i*c) c) (new:=[]) (upd:=[]) (cb.of rfl rfl rfl rfl rfl rfl rfl rfl rfl rfl rfl) rfl (λ_=>K) (bl.ro rfl) ?_;intro W0 w0 ρ0 hE;conv=>whnf
 (repeat((first|refine aq aD ?_|refine an (Nu rfl (ai rfl) (ai rfl) (ai rfl) (ai rfl) (ez rfl) rfl (ez rfl) rfl aa) ?_|rw[t1]|rw[t3]|rw[t2]|rw[e1]|rw[ι]|rw[υ]);conv=>whnf))
 exact⟨au.refl _,(λ_ _ h=>by cases h),(λ_ _ h=>by cases h)⟩
theorem Wn {r c:Nat} (hr:r<=2048) (hc:c<=2048) (F:Nat->Nat->Rat) (g:FuncId)
  (hf:∀i k,i<r->k<c->C0 g ([]++([iv (i:Nat),iv (k:Nat)]++[])) (.frac (F i k))):
  C0 52 [iv r,iv c,.clo g [] []] (.bQ [mA r c (mk r c F),iv 0]):=by
 have k1:=sy r c;rw[oW aa]at k1;have hz:(mk r c F).length=r*c:=eD ..;have hrc:r*c<=2048*2048:=Ϧ hr hc;have t1:ε.wrap ((r:Int)*(c:Int))=((r*c:Nat):Int):=by rw[<-Ρ,wrap_i64 aa aa]
 refine kg [] Tryz.func52 ?_;intro w0 ρ0 hE;conv=>whnf
 (repeat((first|refine ae rfl rfl ?_|refine ao Q3 ?_|refine aN aJ ?_|rw[bne_self_eq_false]|refine⟨_,sA rfl (ai rfl) (ai rfl) Tryz.underlying104, ?_⟩|rw[t1]|rw[ι]);conv=>whnf))
 refine av hE (λk=>k) [0,1,2,6,9,30,31] [6,9,25] (λm fr hp=>∃i:Nat,m=r - i/\i<=r/\fr=[(0,iv r),(1,iv c),(2,.clo g [] []),(6,.ptr 6 0 0 0),(9,.ptr 9 0 0 0),(30,iv r),(31,iv (i:Nat))]/\
  hp=[(6,zM),(9,bM r c 25),(25,eJ ((mk r c F).take (i*c)++θ (r*c - i*c) 0))]) r ?_ ?_ ?_
 ·kernel_rfl
 ·exact⟨0,rfl,Γ _,rfl,by rw[aeC,agq];rfl⟩
 rintro m _ _ ⟨i,rfl,hi,rfl,rfl⟩;conv=>whnf
 by_cases aE:i<r
 ·have t2:=gZ aE;have t3:=bW (i:=i) aa;have hic:(i+1)*c<=r*c:=ο c aE;rw[ϯ]at hic;have hlen:=dW (d:=(0:Rat)) (show i*c<=r*c by omega) hz;have o1:=EU (a:=(mk r c F).take (i*c)++θ (r*c - i*c) 0) ⟨hr,hc,hlen⟩ aE 25
  (repeat(first|(refine ag rfl rfl ?_;conv=>whnf)|(refine od aJ rfl ?_;conv=>whnf)|(rw[t2];conv=>whnf)))
  refine av hE (λk=>k) [0,1,2,6,9,10,11,30,31,37,38] [6,9,25] (λm fr hp=>∃k:Nat,m=c - k/\k<=c/\fr=[(0,iv r),(1,iv c),(2,.clo g [] []),(6,.ptr 6 0 0 0),(9,.ptr 9 0 0 0),(10,iv (i:Nat)),(11,.aM 25 5 (i*c) c),(30,iv r),(31,iv (i:Nat)),(37,iv c),(38,iv (k:Nat))]/\
   hp=[(6,zM),(9,bM r c 25),(25,eJ ((mk r c F).take (i*c+k)++θ (r*c - (i*c+k)) 0))]) c ?_ ?_ ?_
  ·kernel_rfl
  ·exact⟨0,rfl,Γ _,rfl,rfl⟩
  rintro m _ _ ⟨k,rfl,hk,rfl,rfl⟩;conv=>whnf
  by_cases hlk:k<c
  ·have t4:=gZ hlk;have t5:=bW (i:=k) aa;have hlen:=dW (d:=(0:Rat)) (show i*c+k<=r*c by omega) hz;have o2:=hf i k aE hlk;rw[<-mP (f:=F) aE hlk]at o2
   (repeat((first|refine ag rfl rfl ?_|refine aX Q3 ?_|refine ao Q3 ?_|refine aN aJ ?_|rw[t4]|rw[t5]|rw[ι]);conv=>whnf))
   refine⟨c - (k+1),λk=>k,[0,1,2,6,9,10,11,30,31,37,38],[6,9,25],aa,aD,k+1,rfl,hlk,rfl, ?_⟩;rw[show i*c+(k+1)=i*c+k+1 from rfl,eJ,<-fG (e:=0) (show i*c+k<r*c by omega) hz];rfl
  ·have t4:=iH hlk;obtain rfl:k=c:=aa
   (repeat(first|(refine ae rfl rfl ?_;conv=>whnf)|(rw[t4];conv=>whnf)|(rw[t3];conv=>whnf)))
   refine⟨r - (i+1),λk=>k,[0,1,2,6,9,30,31],[6,9,25],aa,aD,i+1,rfl,aE,rfl, ?_⟩;rw[ϯ];rfl
 ·have t2:=iH aE;obtain rfl:i=r:=aa;rw[gD hz]
  (repeat(first|(refine ae rfl rfl ?_;conv=>whnf)|(rw[t2];conv=>whnf)))
  exact Q16
theorem EV {r c:Nat} (hr:r<=2048) (hc:c<=2048) (F:Nat->Nat->Rat) (g:FuncId) (p:Pred)
  (hf:∀i k,i<r->k<c->C0 g ([]++([iv (i:Nat),iv (k:Nat)]++[.atom p])) (.frac (F i k))):
  C0 52 [iv r,iv c,.clo g [] [.atom p]] (.bQ [mA r c (mk r c F),iv 0]):=by
 have k1:=sy r c;rw[oW aa]at k1;have hz:(mk r c F).length=r*c:=eD ..;have hrc:r*c<=2048*2048:=Ϧ hr hc;have t1:ε.wrap ((r:Int)*(c:Int))=((r*c:Nat):Int):=by rw[<-Ρ,wrap_i64 aa aa]
 refine kg [] Tryz.func52 ?_;intro w0 ρ0 hE;conv=>whnf
 (repeat((first|refine ae rfl rfl ?_|refine ao Q3 ?_|refine aN aJ ?_|rw[bne_self_eq_false]|refine⟨_,sA rfl (ai rfl) (ai rfl) Tryz.underlying104, ?_⟩|rw[t1]|rw[ι]);conv=>whnf))
 refine av hE (λk=>k) [0,1,2,6,9,30,31] [6,9,25] (λm fr hp=>∃i:Nat,m=r - i/\i<=r/\fr=[(0,iv r),(1,iv c),(2,.clo g [] [.atom p]),(6,.ptr 6 0 0 0),(9,.ptr 9 0 0 0),(30,iv r),(31,iv (i:Nat))]/\
  hp=[(6,zM),(9,bM r c 25),(25,eJ ((mk r c F).take (i*c)++θ (r*c - i*c) 0))]) r ?_ ?_ ?_
 ·kernel_rfl
 ·exact⟨0,rfl,Γ _,rfl,by rw[aeC,agq];rfl⟩
 rintro m _ _ ⟨i,rfl,hi,rfl,rfl⟩;conv=>whnf
 by_cases aE:i<r
 ·have t2:=gZ aE;have t3:=bW (i:=i) aa;have hic:(i+1)*c<=r*c:=ο c aE;rw[ϯ]at hic;have hlen:=dW (d:=(0:Rat)) (show i*c<=r*c by omega) hz;have o1:=EU (a:=(mk r c F).take (i*c)++θ (r*c - i*c) 0) ⟨hr,hc,hlen⟩ aE 25
  (repeat(first|(refine ag rfl rfl ?_;conv=>whnf)|(refine od aJ rfl ?_;conv=>whnf)|(rw[t2];conv=>whnf)))
  refine av hE (λk=>k) [0,1,2,6,9,10,11,30,31,37,38] [6,9,25] (λm fr hp=>∃k:Nat,m=c - k/\k<=c/\fr=[(0,iv r),(1,iv c),(2,.clo g [] [.atom p]),(6,.ptr 6 0 0 0),(9,.ptr 9 0 0 0),(10,iv (i:Nat)),(11,.aM 25 5 (i*c) c),(30,iv r),(31,iv (i:Nat)),(37,iv c),(38,iv (k:Nat))]/\
   hp=[(6,zM),(9,bM r c 25),(25,eJ ((mk r c F).take (i*c+k)++θ (r*c - (i*c+k)) 0))]) c ?_ ?_ ?_
  ·kernel_rfl
  ·exact⟨0,rfl,Γ _,rfl,rfl⟩
  rintro m _ _ ⟨k,rfl,hk,rfl,rfl⟩;conv=>whnf
  by_cases hlk:k<c
  ·have t4:=gZ hlk;have t5:=bW (i:=k) aa;have hlen:=dW (d:=(0:Rat)) (show i*c+k<=r*c by omega) hz;have o2:=hf i k aE hlk;rw[<-mP (f:=F) aE hlk]at o2
   (repeat((first|refine ag rfl rfl ?_|refine aX Q3 ?_|refine ao Q3 ?_|refine aN aJ ?_|rw[t4]|rw[t5]|rw[ι]);conv=>whnf))
   refine⟨c - (k+1),λk=>k,[0,1,2,6,9,10,11,30,31,37,38],[6,9,25],aa,aD,k+1,rfl,hlk,rfl, ?_⟩;rw[show i*c+(k+1)=i*c+k+1 from rfl,eJ,<-fG (e:=0) (show i*c+k<r*c by omega) hz];rfl
  ·have t4:=iH hlk;obtain rfl:k=c:=aa
   (repeat(first|(refine ae rfl rfl ?_;conv=>whnf)|(rw[t4];conv=>whnf)|(rw[t3];conv=>whnf)))
   refine⟨r - (i+1),λk=>k,[0,1,2,6,9,30,31],[6,9,25],aa,aD,i+1,rfl,aE,rfl, ?_⟩;rw[ϯ];rfl
 ·have t2:=iH aE;obtain rfl:i=r:=aa;rw[gD hz]
  (repeat(first|(refine ae rfl rfl ?_;conv=>whnf)|(rw[t2];conv=>whnf)))
  exact Q16
theorem Lz {r c:Nat} (hr:r<=2048) (hc:c<=2048) (F:Nat->Nat->Rat) (g:FuncId) (p q:Pred)
  (hf:∀i k,i<r->k<c->C0 g ([]++([iv (i:Nat),iv (k:Nat)]++[.atom p,.atom q])) (.frac (F i k))):
  C0 52 [iv r,iv c,.clo g [] [.atom p,.atom q]] (.bQ [mA r c (mk r c F),iv 0]):=by
 have k1:=sy r c;rw[oW aa]at k1;have hz:(mk r c F).length=r*c:=eD ..;have hrc:r*c<=2048*2048:=Ϧ hr hc;have t1:ε.wrap ((r:Int)*(c:Int))=((r*c:Nat):Int):=by rw[<-Ρ,wrap_i64 aa aa]
 refine kg [] Tryz.func52 ?_;intro w0 ρ0 hE;conv=>whnf
 (repeat((first|refine ae rfl rfl ?_|refine ao Q3 ?_|refine aN aJ ?_|rw[bne_self_eq_false]|refine⟨_,sA rfl (ai rfl) (ai rfl) Tryz.underlying104, ?_⟩|rw[t1]|rw[ι]);conv=>whnf))
 refine av hE (λk=>k) [0,1,2,6,9,30,31] [6,9,25] (λm fr hp=>∃i:Nat,m=r - i/\i<=r/\fr=[(0,iv r),(1,iv c),(2,.clo g [] [.atom p,.atom q]),(6,.ptr 6 0 0 0),(9,.ptr 9 0 0 0),(30,iv r),(31,iv (i:Nat))]/\
  hp=[(6,zM),(9,bM r c 25),(25,eJ ((mk r c F).take (i*c)++θ (r*c - i*c) 0))]) r ?_ ?_ ?_
 ·kernel_rfl
 ·exact⟨0,rfl,Γ _,rfl,by rw[aeC,agq];rfl⟩
 rintro m _ _ ⟨i,rfl,hi,rfl,rfl⟩;conv=>whnf
 by_cases aE:i<r
 ·have t2:=gZ aE;have t3:=bW (i:=i) aa;have hic:(i+1)*c<=r*c:=ο c aE;rw[ϯ]at hic;have hlen:=dW (d:=(0:Rat)) (show i*c<=r*c by omega) hz;have o1:=EU (a:=(mk r c F).take (i*c)++θ (r*c - i*c) 0) ⟨hr,hc,hlen⟩ aE 25
  (repeat(first|(refine ag rfl rfl ?_;conv=>whnf)|(refine od aJ rfl ?_;conv=>whnf)|(rw[t2];conv=>whnf)))
  refine av hE (λk=>k) [0,1,2,6,9,10,11,30,31,37,38] [6,9,25] (λm fr hp=>∃k:Nat,m=c - k/\k<=c/\fr=[(0,iv r),(1,iv c),(2,.clo g [] [.atom p,.atom q]),(6,.ptr 6 0 0 0),(9,.ptr 9 0 0 0),(10,iv (i:Nat)),(11,.aM 25 5 (i*c) c),(30,iv r),(31,iv (i:Nat)),(37,iv c),(38,iv (k:Nat))]/\
   hp=[(6,zM),(9,bM r c 25),(25,eJ ((mk r c F).take (i*c+k)++θ (r*c - (i*c+k)) 0))]) c ?_ ?_ ?_
  ·kernel_rfl
  ·exact⟨0,rfl,Γ _,rfl,rfl⟩
  rintro m _ _ ⟨k,rfl,hk,rfl,rfl⟩;conv=>whnf
  by_cases hlk:k<c
  ·have t4:=gZ hlk;have t5:=bW (i:=k) aa;have hlen:=dW (d:=(0:Rat)) (show i*c+k<=r*c by omega) hz;have o2:=hf i k aE hlk;rw[<-mP (f:=F) aE hlk]at o2
   (repeat((first|refine ag rfl rfl ?_|refine aX Q3 ?_|refine ao Q3 ?_|refine aN aJ ?_|rw[t4]|rw[t5]|rw[ι]);conv=>whnf))
   refine⟨c - (k+1),λk=>k,[0,1,2,6,9,10,11,30,31,37,38],[6,9,25],aa,aD,k+1,rfl,hlk,rfl, ?_⟩;rw[show i*c+(k+1)=i*c+k+1 from rfl,eJ,<-fG (e:=0) (show i*c+k<r*c by omega) hz];rfl
  ·have t4:=iH hlk;obtain rfl:k=c:=aa
   (repeat(first|(refine ae rfl rfl ?_;conv=>whnf)|(rw[t4];conv=>whnf)|(rw[t3];conv=>whnf)))
   refine⟨r - (i+1),λk=>k,[0,1,2,6,9,30,31],[6,9,25],aa,aD,i+1,rfl,aE,rfl, ?_⟩;rw[ϯ];rfl
 ·have t2:=iH aE;obtain rfl:i=r:=aa;rw[gD hz]
  (repeat(first|(refine ae rfl rfl ?_;conv=>whnf)|(rw[t2];conv=>whnf)))
  exact Q16
theorem EW {r c:Nat} (hr:r<=2048) (hc:c<=2048) (F:Nat->Nat->Rat) (g:FuncId) (p q s:Pred)
  (hf:∀i k,i<r->k<c->C0 g ([]++([iv (i:Nat),iv (k:Nat)]++[.atom p,.atom q,.atom s])) (.frac (F i k))):
  C0 52 [iv r,iv c,.clo g [] [.atom p,.atom q,.atom s]] (.bQ [mA r c (mk r c F),iv 0]):=by
 have k1:=sy r c;rw[oW aa]at k1;have hz:(mk r c F).length=r*c:=eD ..;have hrc:r*c<=2048*2048:=Ϧ hr hc;have t1:ε.wrap ((r:Int)*(c:Int))=((r*c:Nat):Int):=by rw[<-Ρ,wrap_i64 aa aa]
 refine kg [] Tryz.func52 ?_;intro w0 ρ0 hE;conv=>whnf
 (repeat((first|refine ae rfl rfl ?_|refine ao Q3 ?_|refine aN aJ ?_|rw[bne_self_eq_false]|refine⟨_,sA rfl (ai rfl) (ai rfl) Tryz.underlying104, ?_⟩|rw[t1]|rw[ι]);conv=>whnf))
 refine av hE (λk=>k) [0,1,2,6,9,30,31] [6,9,25] (λm fr hp=>∃i:Nat,m=r - i/\i<=r/\fr=[(0,iv r),(1,iv c),(2,.clo g [] [.atom p,.atom q,.atom s]),(6,.ptr 6 0 0 0),(9,.ptr 9 0 0 0),(30,iv r),(31,iv (i:Nat))]/\
  hp=[(6,zM),(9,bM r c 25),(25,eJ ((mk r c F).take (i*c)++θ (r*c - i*c) 0))]) r ?_ ?_ ?_
 ·kernel_rfl
 ·exact⟨0,rfl,Γ _,rfl,by rw[aeC,agq];rfl⟩
 rintro m _ _ ⟨i,rfl,hi,rfl,rfl⟩;conv=>whnf
 by_cases aE:i<r
 ·have t2:=gZ aE;have t3:=bW (i:=i) aa;have hic:(i+1)*c<=r*c:=ο c aE;rw[ϯ]at hic;have hlen:=dW (d:=(0:Rat)) (show i*c<=r*c by omega) hz;have o1:=EU (a:=(mk r c F).take (i*c)++θ (r*c - i*c) 0) ⟨hr,hc,hlen⟩ aE 25
  (repeat(first|(refine ag rfl rfl ?_;conv=>whnf)|(refine od aJ rfl ?_;conv=>whnf)|(rw[t2];conv=>whnf)))
  refine av hE (λk=>k) [0,1,2,6,9,10,11,30,31,37,38] [6,9,25] (λm fr hp=>∃k:Nat,m=c - k/\k<=c/\fr=[(0,iv r),(1,iv c),(2,.clo g [] [.atom p,.atom q,.atom s]),(6,.ptr 6 0 0 0),(9,.ptr 9 0 0 0),(10,iv (i:Nat)),(11,.aM 25 5 (i*c) c),(30,iv r),(31,iv (i:Nat)),(37,iv c),(38,iv (k:Nat))]/\
   hp=[(6,zM),(9,bM r c 25),(25,eJ ((mk r c F).take (i*c+k)++θ (r*c - (i*c+k)) 0))]) c ?_ ?_ ?_
  ·kernel_rfl
  ·exact⟨0,rfl,Γ _,rfl,rfl⟩
  rintro m _ _ ⟨k,rfl,hk,rfl,rfl⟩;conv=>whnf
  by_cases hlk:k<c
  ·have t4:=gZ hlk;have t5:=bW (i:=k) aa;have hlen:=dW (d:=(0:Rat)) (show i*c+k<=r*c by omega) hz;have o2:=hf i k aE hlk;rw[<-mP (f:=F) aE hlk]at o2
   (repeat((first|refine ag rfl rfl ?_|refine aX Q3 ?_|refine ao Q3 ?_|refine aN aJ ?_|rw[t4]|rw[t5]|rw[ι]);conv=>whnf))
   refine⟨c - (k+1),λk=>k,[0,1,2,6,9,10,11,30,31,37,38],[6,9,25],aa,aD,k+1,rfl,hlk,rfl, ?_⟩;rw[show i*c+(k+1)=i*c+k+1 from rfl,eJ,<-fG (e:=0) (show i*c+k<r*c by omega) hz];rfl
  ·have t4:=iH hlk;obtain rfl:k=c:=aa
   (repeat(first|(refine ae rfl rfl ?_;conv=>whnf)|(rw[t4];conv=>whnf)|(rw[t3];conv=>whnf)))
   refine⟨r - (i+1),λk=>k,[0,1,2,6,9,30,31],[6,9,25],aa,aD,i+1,rfl,aE,rfl, ?_⟩;rw[ϯ];rfl
 ·have t2:=iH aE;obtain rfl:i=r:=aa;rw[gD hz]
  (repeat(first|(refine ae rfl rfl ?_;conv=>whnf)|(rw[t2];conv=>whnf)))
  exact Q16
theorem QI (i k:Nat):delta i k=if i=k then((1:Int):Rat)else 0:=by unfold delta;split<;>simp
theorem abP (i k:Nat) (hi:i<=2048) (hk:k<=2048):C0 53 ([]++([iv (i:Nat),iv (k:Nat)]++[])) (.frac (delta i k)):=by
 have k1:=dH 1 ax ax;rw[QI];refine bB [] Tryz.func53 ?_;intro W0 w0 ρ0 hE;conv=>whnf
 by_cases h:i=k
 ·have t1:((i:Int) != (k:Int))=false:=by rw[h];exact bne_self_eq_false _
  rw[if_pos h]
  (repeat(first|(refine ae rfl rfl ?_;conv=>whnf)|(refine aN aJ ?_;conv=>whnf)|(rw[t1];conv=>whnf)));exact Q4
 ·have t1:((i:Int) != (k:Int))=true:=bne_iff_ne.2 aa;rw[if_neg h]
  (repeat(first|(refine ag rfl rfl ?_;conv=>whnf)|(rw[t1];conv=>whnf)));exact Q4
theorem LA (n:Nat) (hn:n<=2048):C0 12 [iv n] (.bQ [mA n n (Cj n),iv 0]):=by
 have k1:=Wn hn hn delta 53 (λi k hi hk=>abP i k aa aa);refine bB [] Tryz.func12 ?_;intro W0 w0 ρ0 hE;conv=>whnf
 (repeat(first|(refine aN aJ ?_;conv=>whnf)));exact Q4
theorem QJ {F:Rat->Rat->Rat} {r c:Nat} {a b:List Rat} (ha:a.length=r*c) (hb:b.length=r*c):mk r c (λi k=>F (el a c i k) (el b c i k))=ω F a b:=
 Jx (fw ha hb) λi k hi hk=>(ma (by rw[ha];exact dP hi hk) (by rw[hb];exact dP hi hk)).symm
theorem LB (F:Rat->Rat->Rat) (g:FuncId) {r c:Nat} {a b:List Rat} (ha:fa r c a) (hb:fa r c b)
  (hf:∀i k,i<r->k<c->C0 g ([]++([.frac (el a c i k),.frac (el b c i k)]++[])) (.frac (F (el a c i k) (el b c i k)))):
  C0 81 [mA r c a,mA r c b,.clo g [] []] (.bQ [mA r c (ω F a b),iv 0]):=by
 have k1:=JM ha hb;have kc:∀i k,i<r->k<c->C0 143 ([]++([iv (i:Nat),iv (k:Nat)]++[b9 [.clo g [] []],b9 (mC r c a),b9 (mC r c b)])) (.frac (F (el a c i k) (el b c i k))):=by
  intro i k hi hk;have o1:=Hg ha hi hk;have o2:=Hg hb hi hk;have o3:=hf i k hi hk;refine bB [] Tryz.func143 ?_;intro W0 w0 ρ0 hE;conv=>whnf
  (repeat(first|(refine aq aD ?_;conv=>whnf)|(refine aN aJ ?_;conv=>whnf)|(refine an Q6 ?_;conv=>whnf)));exact Q4
 have k2:=EW ha.r ha.c _ 143 (lY [.clo g [] []]) (lY (mC r c a)) (lY (mC r c b)) kc;rw[QJ ha.n hb.n]at k2;refine bB [3,4,5,11] Tryz.func81 ?_;intro W0 w0 ρ0 hE;conv=>whnf
 (repeat((first|refine ag rfl rfl ?_|refine ae rfl rfl ?_|refine aN aJ ?_|refine an dZ ?_|rw[bne_self_eq_false]|refine an Q6 ?_|refine an Q9 ?_|refine an Gv ?_);conv=>whnf));exact Q4
theorem Wo (F:Rat->Rat->Rat) (g:FuncId) (p:Pred) {r c:Nat} {a b:List Rat} (ha:fa r c a) (hb:fa r c b)
  (hf:∀i k,i<r->k<c->C0 g ([]++([.frac (el a c i k),.frac (el b c i k)]++[.atom p])) (.frac (F (el a c i k) (el b c i k)))):
  C0 81 [mA r c a,mA r c b,.clo g [] [.atom p]] (.bQ [mA r c (ω F a b),iv 0]):=by
 have k1:=JM ha hb;have kc:∀i k,i<r->k<c->C0 143 ([]++([iv (i:Nat),iv (k:Nat)]++[b9 [.clo g [] [.atom p]],b9 (mC r c a),b9 (mC r c b)])) (.frac (F (el a c i k) (el b c i k))):=by
  intro i k hi hk;have o1:=Hg ha hi hk;have o2:=Hg hb hi hk;have o3:=hf i k hi hk;refine bB [] Tryz.func143 ?_;intro W0 w0 ρ0 hE;conv=>whnf
  (repeat(first|(refine aq aD ?_;conv=>whnf)|(refine aN aJ ?_;conv=>whnf)|(refine an Q6 ?_;conv=>whnf)));exact Q4
 have k2:=EW ha.r ha.c _ 143 (lY [.clo g [] [.atom p]]) (lY (mC r c a)) (lY (mC r c b)) kc;rw[QJ ha.n hb.n]at k2;refine bB [3,4,5,11] Tryz.func81 ?_;intro W0 w0 ρ0 hE;conv=>whnf
 (repeat((first|refine ag rfl rfl ?_|refine ae rfl rfl ?_|refine aN aJ ?_|refine an dZ ?_|rw[bne_self_eq_false]|refine an Q6 ?_|refine an Q9 ?_|refine an Gv ?_);conv=>whnf));exact Q4
theorem QK {r c A B:Nat} {a b:List Rat} (sa:Sm A a) (sb:Sm B b) (ha:fa r c a) (hb:fa r c b) {i k:Nat} (hi:i<r) (hk:k<c):fs (el a c i k)+fs (el b c i k)<=A+B:=
 Nat.add_le_add (eM sa ha.n hi hk) (eM sb hb.n hi hk)
theorem aeZ {r c A B:Nat} {a b:List Rat} (ha:fa r c a) (hb:fa r c b) (sa:Sm A a) (sb:Sm B b) (h:A+B<=1073741824):C0 36 [mA r c a,mA r c b] (.bQ [mA r c (Jw a b),iv 0]):=by
 have k1:=LB (·+·) 33 ha hb (λi k hi hk=>K7 _ _ (Ι (QK sa sb ha hb hi hk) h));refine bB [] Tryz.func36 ?_;intro W0 w0 ρ0 hE;conv=>whnf
 (repeat(first|(refine aN aJ ?_;conv=>whnf)));exact Q4
theorem Y6 {r c A B:Nat} {a b:List Rat} (ha:fa r c a) (hb:fa r c b) (sa:Sm A a) (sb:Sm B b) (h:A+B<=1073741824):C0 29 [mA r c a,mA r c b] (.bQ [mA r c (jk a b),iv 0]):=by
 have k1:=LB (· - ·) 43 ha hb (λi k hi hk=>aeH _ _ (Ι (QK sa sb ha hb hi hk) h));refine bB [] Tryz.func29 ?_;intro W0 w0 ρ0 hE;conv=>whnf
 (repeat(first|(refine aN aJ ?_;conv=>whnf)));exact Q4
theorem QL (c x y:Rat) (h:fs c+fs x<=1073741824):C0 82 ([]++([.frac x,.frac y]++[b9 [.frac c]])) (.frac (c*x)):=by
 have k1:=K8 c x h;refine bB [] Tryz.func82 ?_;intro W0 w0 ρ0 hE;conv=>whnf
 (repeat(first|(refine aN aJ ?_;conv=>whnf)|(refine an Q6 ?_;conv=>whnf)));exact Q4
theorem wi {r c A C:Nat} {q:Rat} {a:List Rat} (ha:fa r c a) (hq:fs q<=C) (sa:Sm A a) (h:C+A<=1073741824):C0 28 [.frac q,mA r c a] (.bQ [mA r c (a7 q a),iv 0]):=by
 have k1:=Wo (λx _=>q*x) 82 (lY [.frac q]) ha ha (λi k hi hk=>QL _ _ _ (by have:=eM sa ha.n hi hk;omega));refine bB [2] Tryz.func28 ?_;intro W0 w0 ρ0 hE;conv=>whnf
 (repeat(first|(refine aN aJ ?_;conv=>whnf)|(refine an Gv ?_;conv=>whnf)));exact Q4
theorem Wp {r c:Nat} {a:List Rat} (ha:fa r c a) (i k:Nat) (hi:i<c) (hk:k<r):C0 84 ([]++([iv (i:Nat),iv (k:Nat)]++[b9 (mC r c a)])) (.frac (el a c k i)):=by
 have k1:=Hg ha hk hi;refine bB [] Tryz.func84 ?_;intro W0 w0 ρ0 hE;conv=>whnf
 (repeat(first|(refine aN aJ ?_;conv=>whnf)|(refine an Q6 ?_;conv=>whnf)));exact Q4
theorem QM {r c:Nat} {a:List Rat} (ha:fa r c a):C0 31 [mA r c a] (.bQ [mA c r (fZ r c a),iv 0]):=by
 have k0:=cO ha;have k1:=EV ha.c ha.r _ 84 (lY (mC r c a)) (λi k hi hk=>Wp ha i k hi hk);refine bB [1] Tryz.func31 ?_;intro W0 w0 ρ0 hE;conv=>whnf
 (repeat((first|refine ae rfl rfl ?_|refine aN aJ ?_|rw[bne_self_eq_false]|refine an Q6 ?_|refine an Q9 ?_|refine an Gv ?_);conv=>whnf));exact Q4
theorem abQ {r s t A B S:Nat} {a b:List Rat} (ha:fa r s a) (hb:fa s t b) (sa:Sm A a) (sb:Sm B b) (hS:s<=S) (h:A+B+(2+S*(A+B))<=1073741824) (i k:Nat) (hi:i<r) (hk:k<t):
  C0 87 ([]++([iv (i:Nat),iv (k:Nat)]++[b9 (mC r s a),b9 (mC s t b)])) (.frac (aj s λp=>el a s i p*el b t p k)):=by
 have hs:=ha.c;refine bB [] Tryz.func87 ?_;intro W0 w0 ρ0 hE;conv=>whnf
 (repeat(first|(refine an Q6 ?_;conv=>whnf)|(refine an Q9 ?_;conv=>whnf)))
 refine av hE (λk=>k) [0,1,2,3,6,7,11,12] [6,7] (λm fr hp=>∃(p:Nat) (q:Rat),m=s - p/\p<=s/\q=aj p (λp=>el a s i p*el b t p k)/\fs q<=2+p*(A+B)/\fr=[(0,iv (i:Nat)),(1,iv (k:Nat)),(2,b9 (mC r s a)),(3,b9 (mC s t b)),(6,.ptr 6 0 0 0),(7,.ptr 7 0 0 0),(11,iv s),(12,iv (p:Nat))]/\hp=[(6,⟨49,true,.one [.frac 0]⟩),(7,⟨49,true,.one [.frac q]⟩)]) s ?_ ?_ ?_
 ·kernel_rfl
 ·exact⟨0,0,rfl,Γ _,rfl,by rw[et];omega,rfl,rfl⟩
 rintro m _ _ ⟨p,q,rfl,hp,hq,O0,rfl,rfl⟩;conv=>whnf
 by_cases aE:p<s
 ·have t1:=gZ aE;have t2:=bW (i:=p) aa;have o1:=Hg ha hi aE;have o2:=Hg hb aE hk;have b1:=eM sa ha.n hi aE;have b2:=eM sb hb.n aE hk;have b3:=cH (el a s i p) (el b t p k);have b4:=ο (A+B) (show p<=S by omega);have o3:=K8 (el a s i p) (el b t p k) aa;have o4:=K7 q (el a s i p*el b t p k) aa;have b5:=fW q (el a s i p*el b t p k);have e1:aj (p+1) (λp=>el a s i p*el b t p k)=q+el a s i p*el b t p k:=by rw[hq];rfl
  have e2:fs (q+el a s i p*el b t p k)<=2+(p+1)*(A+B):=by rw[ϯ];omega
  clear hq O0 b1 b2 b3 b4 b5;generalize q+el a s i p*el b t p k=q1 at*
  (repeat((first|refine ag rfl rfl ?_|refine aq aD ?_|refine aN aJ ?_|refine an Q6 ?_|rw[t1]|rw[t2]);conv=>whnf))
  exact⟨s - (p+1),λk=>k,[0,1,2,3,6,7,11,12],[6,7],aa,aD,p+1,q1,rfl,aE,e1.symm,e2,rfl,rfl⟩
 ·have t1:=iH aE;have hP:p=s:=aa;subst hP;rw[<-hq]
  (repeat(first|(refine ae rfl rfl ?_;conv=>whnf)|(rw[t1];conv=>whnf)));exact Q4
theorem LC {r s t A B:Nat} (S:Nat) {a b:List Rat} (ha:fa r s a) (hb:fa s t b) (sa:Sm A a) (sb:Sm B b) (hS:s<=S) (h:A+B+(2+S*(A+B))<=1073741824):
  C0 32 [mA r s a,mA s t b] (.bQ [mA r t (yy r s t a b),iv 0]):=by
 have k0:=JM ha hb;have k1:=Lz ha.r hb.c _ 87 (lY (mC r s a)) (lY (mC s t b)) (abQ ha hb sa sb hS h);refine bB [2,3,9] Tryz.func32 ?_;intro W0 w0 ρ0 hE;conv=>whnf
 (repeat((first|refine ae rfl rfl ?_|refine aN aJ ?_|rw[bne_self_eq_false]|refine an Q6 ?_|refine an Q9 ?_|refine an Gv ?_);conv=>whnf));exact Q4
theorem LD {r c i:Nat} {a v:List Rat} (ha:a.length=r*c) (hv:v.length=c) (hi:i<r):GL (oX a c i) v=(jw r c a v).getD i 0:=by
 rw[GO (gI hi ha) hv,pR hi];exact ah c λk hk=>by rw[lD hk]
theorem QN {a:List Rat} {r c i A:Nat} (sa:Sm A a) (ha:a.length=r*c) (hi:i<r):Sm A (oX a c i):=by
 intro k hk;rw[gI hi ha]at hk;rw[lD hk];exact eM sa ha hi hk
theorem Wq {r c A B:Nat} (C:Nat) {a v:List Rat} (ha:fa r c a) (hv:v.length=c) (sa:Sm A a) (sv:Sm B v) (hC:c<=C) (h:A+B+(2+C*(A+B))<=1073741824):
  C0 124 [mA r c a,bx v] (.bQ [bx (jw r c a v),iv 0]):=by
 have hr:=ha.r;have hc:=ha.c;have k0:=abM ha;have k1:=y8 [v] (by simp) (by simp;omega);rw[show iQ [v]=0 from by simp[iQ];omega]at k1;have t0:((v.length:Int) != (c:Int))=false:=by rw[hv];exact bne_self_eq_false _
 have hz:(jw r c a v).length=r:=mS;refine kg [2,11,17] Tryz.func124 ?_;intro w0 ρ0 hE;conv=>whnf
 (repeat((first|refine ae rfl rfl ?_|refine ao Q3 ?_|refine aN aJ ?_|rw[bne_self_eq_false]|refine an Q8 ?_|refine an Q6 ?_|refine an Q9 ?_|rw[t0]|rw[ι]);conv=>whnf))
 refine av hE (λk=>k) [1,2,8,31,32] [29] (λm fr hp=>∃i:Nat,m=r - i/\i<=r/\fr=[(1,bx v),(2,b9 (mC r c a)),(8,.aM 29 5 0 r),(31,iv r),(32,iv (i:Nat))]/\hp=[(29,eJ ((jw r c a v).take i++θ (r - i) 0))]) r ?_ ?_ ?_
 ·kernel_rfl
 ·exact⟨0,rfl,Γ _,rfl,rfl⟩
 rintro m _ _ ⟨i,rfl,hi,rfl,rfl⟩;have hlen:=dW (d:=(0:Rat)) hi hz;conv=>whnf
 by_cases aE:i<r
 ·have t1:=gZ aE;have t2:=bW (i:=i) aa;have o1:=abN ha aE;have l1:=gI aE ha.n;have s1:=QN sa ha.n aE;have hs:yd (Ew (oX a c i) v)<=_:=Ez (AM cH s1 sv (l1.trans hv.symm));rw[fw l1 hv]at hs;have hC2:=ο (A+B) hC;have o2:=YW (oX a c i) v (l1.trans hv.symm) aa (P1 s1 sv (l1.trans hv.symm) aa) aa;rw[LD ha.n hv aE]at o2;clear hs hC2 s1
  (repeat((first|refine ag rfl rfl ?_|refine aX Q3 ?_|refine ao Q3 ?_|refine aN aJ ?_|refine an Q6 ?_|rw[t1]|rw[t2]|rw[ι]|rw[υ]);conv=>whnf))
  refine⟨r - (i+1),λk=>k,[1,2,8,31,32],[29],aa,aD,i+1,rfl,aE,rfl, ?_⟩;rw[eJ,<-fG (e:=0) aE hz];rfl
 ·have t1:=iH aE;have hI:i=r:=aa;subst hI;rw[gD hz]
  (repeat(first|(refine ae rfl rfl ?_;conv=>whnf)|(rw[t1];conv=>whnf)))
  exact Q17
theorem abR {a b:List Rat} {A B n N:Nat} (ha:Sm A a) (hb:Sm B b) (h1:a.length=n) (h2:b.length=n) (hn:n<=N):fs (GL a b)<=2+N*(A+B):=by
 have:=VN ha hb h1 h2;have:=ο (A+B) hn;omega
theorem QO {r c A B C:Nat} {a v:List Rat} (ha:a.length=r*c) (hv:v.length=c) (sa:Sm A a) (sv:Sm B v) (hC:c<=C):Sm (2+C*(A+B)) (jw r c a v):=by
 intro i hi;rw[mS]at hi;rw[<-LD ha hv hi];exact abR (QN sa ha hi) sv (gI hi ha) hv hC
theorem EX {r s t A B S:Nat} {a b:List Rat} (ha:a.length=r*s) (hb:b.length=s*t) (sa:Sm A a) (sb:Sm B b) (hS:s<=S):Sm (2+S*(A+B)) (yy r s t a b):=
 C4 λi k hi hk=>by
  have h1:=pQ (f:=λp=>el a s i p*el b t p k) (B:=A+B) s (λp hp=>by have:=cH (el a s i p) (el b t p k);have:=eM sa ha hi hp;have:=eM sb hb hp hk;omega);have:=ο (A+B) hS;omega
theorem xq {r c A B D:Nat} (C:Nat) {a v w:List Rat} (ha:fa r c a) (hv:v.length=r) (hw:w.length=c) (sa:Sm A a) (sv:Sm D v) (sw:Sm B w) (hC:c<=C) (hR:r<=C) (h:A+B+(2+C*(A+B))<=1073741824)
  (h2:D+(2+C*(A+B))+C*(D+(2+C*(A+B)))+2<=1073741824):
  C0 58 [mA r c a,bx v,bx w] (.bQ [.frac (gH r c a v w),iv 0]):=by
 have hr:=ha.r;have hc:=ha.c;have k0:=cO ha;have k1:=y8 [v,w] (by simp) (by simp;omega);rw[show iQ [v,w]=0 from by simp[iQ];omega]at k1;have k2:=Wq C ha hw sa sw hC h;have s2:=QO ha.n hw sa sw hC;have Uz:(jw r c a w).length=r:=mS;have hs:yd (Ew v (jw r c a w))<=_:=Ez (AM cH sv s2 (hv.trans Uz.symm));rw[fw hv Uz]at hs;have hC2:=ο (D+(2+C*(A+B))) hR;have k3:=YW v (jw r c a w) (hv.trans Uz.symm) aa (P1 sv s2 (hv.trans Uz.symm) aa) aa;have t0:((v.length:Int) != (r:Int))=false:=by rw[hv];exact bne_self_eq_false _
 have t1:((w.length:Int) != (c:Int))=false:=by rw[hw];exact bne_self_eq_false _
 clear hs hC2 s2 h2 h;refine bB [3,20] Tryz.func58 ?_;intro W0 w0 ρ0 hE;conv=>whnf
 (repeat((first|refine ag rfl rfl ?_|refine ae rfl rfl ?_|refine aN aJ ?_|refine an dZ ?_|rw[bne_self_eq_false]|refine an Q8 ?_|refine an Q6 ?_|refine an Q9 ?_|rw[t0]|rw[t1]);conv=>whnf));exact Q4
theorem Wr (a b:List Rat) (ha:a.length<1099511627776) (hb:b.length<1099511627776):C0 167 [bx a,bx b] (.val (.bool (decide (a=b)))):=by
 refine bB [] Tryz.func167 ?_;intro W0 w0 ρ0 hE;conv=>whnf
 by_cases At:a.length=b.length
 ·have t0:((a.length:Int) != (b.length:Int))=false:=by rw[At];exact bne_self_eq_false _
  (repeat(first|(refine ae rfl rfl ?_;conv=>whnf)|(refine an Q8 ?_;conv=>whnf)|(rw[t0];conv=>whnf)))
  refine av hE (λk=>k) [0,1,4,11,12,13] [] (λm fr hp=>∃i,m=a.length - i/\i<=a.length/\a.take i=b.take i/\fr=[(0,bx a),(1,bx b),(4,.val (.bool false)),(11,bx a),(12,.val (.int .i64 (a.length:Nat))),(13,.val (.int .i64 (i:Nat)))]/\hp=[]) a.length ?_ ?_ ?_
  ·kernel_rfl
  ·exact⟨0,rfl,Γ _,rfl,rfl,rfl⟩
  rintro m _ _ ⟨i,rfl,hi,ht,rfl,rfl⟩;conv=>whnf
  by_cases aE:i<a.length
  ·have t1:=gZ aE;have t2:=bW (i:=i) aa;by_cases hv:a.getD i 0=b.getD i 0
   ·have t3:(!decide (a.getD i 0=b.getD i 0))=false:=by rw[decide_eq_true hv];rfl
    (repeat((first|refine ag rfl rfl ?_|refine ae rfl rfl ?_|refine aq aD ?_|refine an Ar ?_|refine an Q6 ?_|refine⟨_,fE aH cd rfl (ai rfl) (ai rfl) rfl rfl rfl rfl (cQ _ _) b8, ?_⟩|rw[t1]|rw[t3]|rw[t2]);conv=>whnf))
    exact⟨a.length - (i+1),λk=>k,[0,1,4,11,12,13],[],aa,aD,i+1,rfl,aE,by rw[oQ a i aE,oQ b i aa,ht,hv],rfl,rfl⟩
   ·have t3:(!decide (a.getD i 0=b.getD i 0))=true:=by rw[decide_eq_false hv];rfl
    have e:decide (a=b)=false:=decide_eq_false (λh=>hv (by rw[h]));rw[e]
    (repeat((first|refine ag rfl rfl ?_|refine aq aD ?_|refine an Ar ?_|refine an Q6 ?_|refine⟨_,fE aH cd rfl (ai rfl) (ai rfl) rfl rfl rfl rfl (cQ _ _) b8, ?_⟩|rw[t1]|rw[t3]);conv=>whnf));exact Q4
  ·have t1:=iH aE;have hI:i=a.length:=aa;have e:decide (a=b)=true:=decide_eq_true (by rw[hI,adi]at ht;rw[ht,At,adi]);rw[e]
   (repeat(first|(refine ae rfl rfl ?_;conv=>whnf)|(rw[t1];conv=>whnf)));exact Q4
 ·have t0:((a.length:Int) != (b.length:Int))=true:=bne_iff_ne.2 aa;have e:decide (a=b)=false:=decide_eq_false (λh=>At (by rw[h]));rw[e]
  (repeat(first|(refine ag rfl rfl ?_;conv=>whnf)|(refine an Q8 ?_;conv=>whnf)|(rw[t0];conv=>whnf)));exact Q4
def qp (r c s t:Int) (a b:List Rat):Bool:=r==s&&c==t&&decide (a=b)
theorem abS (r c s t:Int) (a b:List Rat) (ha:a.length<1099511627776) (hb:b.length<1099511627776):C0 119 [mA r c a,mA s t b] (.val (.bool (qp r c s t a b))):=by
 have k1:=Wr a b ha hb;unfold qp;refine bB [] Tryz.func119 ?_;intro W0 w0 ρ0 hE;conv=>whnf
 cases h1:(r==s)
 ·(repeat(first|(refine ae rfl rfl ?_;conv=>whnf)|(refine an dZ ?_;conv=>whnf)));exact Q4
 ·cases h2:(c==t)
  ·(repeat((first|refine ag rfl rfl ?_|refine ae rfl rfl ?_|refine an er ?_|refine an dZ ?_|rw[h2]);conv=>whnf));exact Q4
  ·(repeat((first|refine ag rfl rfl ?_|refine aN aJ ?_|refine an er ?_|rw[h2]);conv=>whnf));exact Q4
theorem rE {r c:Nat} {a:List Rat} (ha:fa r c a):C0 51 [mA r c a] (.val (.bool (qp r c c r a (fZ r c a)))):=by
 have k1:=QM ha;have k2:=abS r c c r a (fZ r c a) (by have:=ha.small;omega) (by rw[eD];have:=Ϧ ha.c ha.r;omega);refine bB [] Tryz.func51 ?_;intro W0 w0 ρ0 hE;conv=>whnf
 (repeat(first|(refine ag rfl rfl ?_;conv=>whnf)|(refine aN aJ ?_;conv=>whnf)|(refine an er ?_;conv=>whnf)));exact Q4
theorem Ws (r c:Nat) (l:List Int) (hr:r<=2048) (hc:c<=2048) (hl:l.length=r*c) (h:∀x∈l, -9223372036854775808<=x/\x<9223372036854775808):C0 13 [iv r,iv c,gP .i64 l] (.bQ [mA r c (dp l),iv 0]):=by
 have hb:=Ϧ hr hc;have k1:=abw l aa (λi hi=>h _ (eX hi));have k0:=cO (a:=dp l) ⟨hr,hc,by simpa [dp]using hl⟩;refine bB [] Tryz.func13 ?_;intro W0 w0 ρ0 hE;conv=>whnf
 (repeat(first|(refine ae rfl rfl ?_;conv=>whnf)|(refine aN aJ ?_;conv=>whnf)));exact Q4
theorem Hh (l:List Int) (g:FuncId) (p:Pred) (P:Int->Bool) (hl:l.length<1099511627776) (hf:∀x∈l,C0 g ([]++([iv x]++[.atom p])) (.val (.bool (P x)))):
  C0 166 [gP .i64 l,.clo g [] [.atom p]] (iv (if l.any P then(l.findIdx P:Nat)else -1)):=by
 refine bB [] Tryz.func166 ?_;intro W0 w0 ρ0 hE;conv=>whnf
 (repeat(first|(refine an Q8 ?_;conv=>whnf)))
 refine av hE (λk=>k) [0,1,7,8] [] (λm fr hp=>∃i:Nat,m=l.length - i/\i<=l.length/\(∀j,j<i->P (l.getD j 0)=false)/\fr=[(0,gP .i64 l),(1,.clo g [] [.atom p]),(7,iv (l.length:Nat)),(8,iv (i:Nat))]/\hp=[]) l.length ?_ ?_ ?_
 ·kernel_rfl
 ·exact⟨0,rfl,Γ _,(λj hj=>aa),rfl,rfl⟩
 rintro m _ _ ⟨i,rfl,hi,hs,rfl,rfl⟩;conv=>whnf
 by_cases aE:i<l.length
 ·have t1:=gZ aE;have t2:=bW (i:=i) aa;have o1:=hf _ (eX (d:=0) aE);cases hP:P (l.getD i 0)
  ·rw[hP]at o1
   (repeat((first|refine ag rfl rfl ?_|refine ae rfl rfl ?_|refine aN aJ ?_|refine an Q6 ?_|refine an As ?_|rw[t1]|rw[t2]);conv=>whnf))
   refine⟨l.length - (i+1),λk=>k,[0,1,7,8],[],aa,aD,i+1,rfl,aE, ?_,rfl,rfl⟩;intro j hj;by_cases w6:j=i
   ·rw[w6];exact hP
   ·exact hs j aa
  ·rw[hP]at o1;have e1:l.any P=true:=I8 (d:=0) aE hP;have e2:l.findIdx P=i:=by
    rw[List.findIdx_eq aE];refine⟨by rw[δ,φ aE]at hP;exact hP,λj hj=> ?_⟩;have:=hs j hj;rw[δ,φ aa]at this;exact this
   rw[if_pos e1,e2]
   (repeat((first|refine ag rfl rfl ?_|refine aN aJ ?_|refine an Q6 ?_|refine an As ?_|rw[t1]);conv=>whnf));exact Q4
 ·have t1:=iH aE;have hI:i=l.length:=aa;subst hI;have e1:l.any P=false:=Ao 0 hs;rw[if_neg (by rw[e1];exact afV)]
  (repeat(first|(refine ae rfl rfl ?_;conv=>whnf)|(rw[t1];conv=>whnf)));exact Q4
theorem rF (l:List Int) (g:FuncId) (p:Pred) (P:Int->Bool) (hl:l.length<1099511627776) (hf:∀x∈l,C0 g ([]++([iv x]++[.atom p])) (.val (.bool (P x)))):
  C0 114 [gP .i64 l,.clo g [] [.atom p]] (.val (.bool (l.any P))):=by
 have k1:=Hh l g p P hl hf;refine bB [] Tryz.func114 ?_;intro W0 w0 ρ0 hE;conv=>whnf
 cases h:l.any P
 ·rw[if_neg (by rw[h];exact afV)]at k1
  (repeat(first|(refine aN aJ ?_;conv=>whnf)));exact Q4
 ·rw[if_pos h]at k1;have t1:decide (((l.findIdx P:Nat):Int)>=0)=true:=decide_eq_true aa
  (repeat(first|(refine aN aJ ?_;conv=>whnf)|(rw[t1];conv=>whnf)));exact Q4
abbrev Nv (n:Nat) (i:Int):Bool:= !decide (0<=i/\i<(n:Int))
abbrev qq (c:Nat) (a:List Rat) (rows cols:List Int):List Rat:=mk rows.length cols.length λi k=>el a c (rows.getD i 0).toNat (cols.getD k 0).toNat
theorem QP {r c:Nat} {a:List Rat} (ha:fa r c a) (rows cols:List Int) (hr:rows.length<=2048) (hc:cols.length<=2048) (h1:∀x∈rows,0<=x/\x<r) (h2:∀x∈cols,0<=x/\x<c):
  C0 49 [mA r c a,gP .i64 rows,gP .i64 cols] (.bQ [mA rows.length cols.length (qq c a rows cols),iv 0]):=by
 have k0:=cO ha;have k1:=sy rows.length cols.length;rw[oW aa]at k1
 have ka:=rF rows 115 (lY (mC r c a)) (Nv r) aa (λx _=>by
  have k1:=Y5 x r;refine bB [] Tryz.func115 ?_;intro W0 w0 ρ0 hE;conv=>whnf
  (repeat(first|(refine aN aJ ?_;conv=>whnf)|(refine an Q6 ?_;conv=>whnf)|(refine an Q9 ?_;conv=>whnf)));exact Q4)
 have kb:=rF cols 117 (lY (mC r c a)) (Nv c) aa (λx _=>by
  have k1:=Y5 x c;refine bB [] Tryz.func117 ?_;intro W0 w0 ρ0 hE;conv=>whnf
  (repeat(first|(refine aN aJ ?_;conv=>whnf)|(refine an Q6 ?_;conv=>whnf)|(refine an Q9 ?_;conv=>whnf)));exact Q4)
 have e1:rows.any (Nv r)=false:=Ao 0 λi hi=>by rw[Nv,decide_eq_true (h1 _ (eX hi))];rfl
 have e2:cols.any (Nv c)=false:=Ao 0 λi hi=>by rw[Nv,decide_eq_true (h2 _ (eX hi))];rfl
 rw[e1]at ka;rw[e2]at kb
 have k2:=EW hr hc (λi k=>el a c (rows.getD i 0).toNat (cols.getD k 0).toNat) 118 (lY (mC r c a)) (lY [gP .i64 rows]) (lY [gP .i64 cols]) (λi k hi hk=>by
  have g1:=h1 _ (eX (d:=0) hi);have g2:=h2 _ (eX (d:=0) hk);have o1:=Hg ha (i:=(rows.getD i 0).toNat) (k:=(cols.getD k 0).toNat) aa aa;rw[akX g1.1,akX g2.1]at o1;refine bB [] Tryz.func118 ?_;intro W0 w0 ρ0 hE;conv=>whnf
  (repeat((first|refine aq aD ?_|refine aN aJ ?_|refine an Q6 ?_|refine an As ?_);conv=>whnf));exact Q4)
 refine bB [3,4,5] Tryz.func49 ?_;intro W0 w0 ρ0 hE;conv=>whnf
 (repeat((first|refine ag rfl rfl ?_|refine ae rfl rfl ?_|refine aN aJ ?_|refine an dZ ?_|rw[bne_self_eq_false]|refine an Q8 ?_|refine an Q6 ?_|refine an Gv ?_);conv=>whnf));exact Q4
def bD (r c:Nat) (a:List Rat):List (List Rat):=(Η r).map (oX a c)
theorem oY {r c i:Nat} {a:List Rat} (hi:i<r):(bD r c a).getD i []=oX a c i:=by simp[bD,δ,hi]
theorem jU (r c:Nat) (a:List Rat):(bD r c a).length=r:=by simp[bD]
end Go.Proofs.YtadphegfhgmgmaaGreatDoor
namespace Go.Sx
theorem Dl {E:Env} {k:Nat} {blk:aC} {fr:List (Nat×SV)} {hp:List (Nat×aC)} (hk:find hp k=none) (he:blk.data.empty) {a:Act} {w:World} (hR:RR E (fn fr hp) a w):
  RR E (fn fr ((k,blk)::hp)) a w:=by
 obtain⟨ρ,hext,hfx,hR⟩:=hR;have ua:ρ.key k=none:=by
  cases hx:ρ.key k with
  |none=>rfl
  |some x=>
   obtain⟨b,hb⟩:=hR.hp.wW k x hx;simp only[fn,LV.blk,hk]at hb;cases hb
 have fQ:∀j b,(fn fr ((k,blk)::hp) (.k j)).blk=some b->(j=k/\b=blk)\/(j≠k/\(fn fr hp (.k j)).blk=some b):=by
  intro j b hb;simp only[fn,LV.blk,find]at hb ⊢;cases hj:ϋ k j with
  |true=>rw[hj]at hb;simp only[κ]at hb;exact .inl ⟨(χ hj).symm,hb.symm⟩
  |false=>rw[hj]at hb;exact .inr ⟨by rintro rfl;simp[Nat.beq_refl]at hj,hb⟩
 have a8:∀j x,ρ.key j=some x->j≠k:=λj x hx h=>by rw[h,ua]at hx;cases hx
 refine⟨ρ,hext,λj hj=> ?_,{defers:=hR.defers,size:=hR.size,fr:=λu sv hu=>hR.fr u sv hu,bE:=hR.bE,hp:= ?_}⟩
 ·have:=hfx j hj;simp only[fn,LV.blk,find]at this ⊢;cases hb:ϋ k j with
  |true=>simp
  |false=>exact this
 ·constructor
  ·intro j b hb;rcases fQ j b hb with⟨rfl,rfl⟩|⟨_,h1⟩
   ·exact .inr (.inr ⟨ua,he⟩)
   ·exact hR.hp.blk j b h1
  ·intro j j' x x' b b' hx sU hn hxe hb ie;rcases fQ j b hb with⟨h1,_⟩|⟨_,h1⟩
   ·exact absurd h1 (a8 j x hx)
   ·rcases fQ j' b' ie with⟨h2,_⟩|⟨_,h2⟩
    ·exact absurd h2 (a8 j' x' sU)
    ·exact hR.hp.sep j j' x x' b b' hx sU hn hxe h1 h2
  ·intro j b x hb hw hl hx;rcases fQ j b hb with⟨h1,_⟩|⟨_,h1⟩
   ·exact absurd h1 (a8 j x hx)
   ·exact hR.hp.own j b x h1 hw hl hx
  ·intro j x hx;obtain⟨b,hb⟩:=hR.hp.wW j x hx;have:=a8 j x hx;refine⟨b, ?_⟩;simp only[fn,LV.blk,find]at hb ⊢;cases hj:ϋ k j with
   |true=>exact absurd (χ hj).symm this
   |false=>exact hb
  ·exact hR.hp.aW
  ·intro j b x hb hw hl hx;rcases fQ j b hb with⟨h1,_⟩|⟨_,h1⟩
   ·exact absurd h1 (a8 j x hx)
   ·exact hR.hp.fB j b x h1 hw hl hx
theorem sE {E:Env} {j:Nat} {ty:TypeId} {wr:Bool} {cs cs':List SV} {fr:List (Nat×SV)} {hp:List (Nat×aC)} (hj:find hp j=some ⟨ty,wr,.one cs⟩) (hd:∀ρ z,aw ρ cs z->aw ρ cs' z) {a:Act} {w:World} (hR:RR E (fn fr hp) a w):
  RR E (fn fr ((j,⟨ty,wr,.one cs'⟩)::hp)) a w:=by
 obtain⟨ρ,hext,hfx,hR⟩:=hR;have fQ:∀i b,(fn fr ((j,⟨ty,wr,.one cs'⟩)::hp) (.k i)).blk=some b->∃b0,(fn fr hp (.k i)).blk=some b0/\b0.wr=b.wr/\b0.data.live=b.data.live/\(b0=b\/(i=j/\b0=⟨ty,wr,.one cs⟩/\b=⟨ty,wr,.one cs'⟩)):=by
  intro i b hb;simp only[fn,LV.blk,find]at hb ⊢;cases hi:ϋ j i with
  |true=>
   rw[hi]at hb;simp only[κ]at hb;obtain rfl:=χ hi;subst hb;exact⟨_,hj,rfl,rfl,.inr ⟨rfl,rfl,rfl⟩⟩
  |false=>rw[hi]at hb;exact⟨b,hb,rfl,rfl,.inl rfl⟩
 refine⟨ρ,hext,λi hi=> ?_,{defers:=hR.defers,size:=hR.size,fr:=λu sv hu=>hR.fr u sv hu,bE:=hR.bE,hp:= ?_}⟩
 ·have:=hfx i hi;simp only[fn,LV.blk,find]at this ⊢;cases hb:ϋ j i with
  |true=>simp
  |false=>exact this
 ·constructor
  ·intro i b hb;obtain⟨b0,h1,h2,h3,rfl|⟨rfl,rfl,rfl⟩⟩:=fQ i b hb
   ·exact hR.hp.blk i b0 h1
   ·rcases hR.hp.blk i _ h1 with h4|⟨b',t,vs,ex,g1,g2,g3,g4,g5⟩|⟨_,h4⟩
    ·cases h4
    ·refine .inr (.inl ⟨b',t,vs,ex,g1,g2, ?_,g4,g5⟩);simp only[df]at g3 ⊢;obtain⟨z,g6,g7⟩:=g3;exact⟨z,hd ρ z g6,g7⟩
    ·exact h4.elim
  ·intro i i' x x' b b' hx sU hn hxe hb ie hl ux;obtain⟨b0,h1,h2,h3,_⟩:=fQ i b hb;obtain⟨b0',h1',h2',h3',_⟩:=fQ i' b' ie;rw[<-h2];exact hR.hp.sep i i' x x' b0 b0' hx sU hn hxe h1 h1' (h3.trans hl) (h3'.trans ux)
  ·intro i b x hb hw hl hx;obtain⟨b0,h1,h2,h3,_⟩:=fQ i b hb;exact hR.hp.own i b0 x h1 (h2.trans hw) (h3.trans hl) hx
  ·intro i x hx;obtain⟨b,hb⟩:=hR.hp.wW i x hx;simp only[fn,LV.blk,find]at hb ⊢;cases hi:ϋ j i with
   |true=>exact⟨_,rfl⟩
   |false=>exact⟨b,hb⟩
  ·exact hR.hp.aW
  ·intro i b x hb hw hl hx;obtain⟨b0,h1,h2,h3,_⟩:=fQ i b hb;exact hR.hp.fB i b0 x h1 (h2.trans hw) (h3.trans hl) hx
theorem Bg {ρ:bY} {k s:Nat}:∀{cs:List SV} {p:Nat} {z:List (List Value)},cs[p]? =some (.val (.slice none 0 0))->aw ρ cs z->aw ρ (cs.set p (.aM k s 0 0)) z
 |[],p,z,h,_=>by simp at h
 |c::cs,0,z,h,hz=>by
  simp only[ϑ,κ]at h;subst h;simp only[aw,List.set_cons_zero]at hz ⊢;obtain⟨x,r,rfl,h1,h2⟩:=hz;refine⟨x,r,rfl, ?_,h2⟩;simp only[aI]at h1 ⊢;exact .inr ⟨trivial,none,h1.1⟩
 |c::cs,p+1,z,h,hz=>by
  simp only[ϥ]at h;simp only[aw,List.set_cons_succ]at hz ⊢;obtain⟨x,r,rfl,h1,h2⟩:=hz;exact⟨x,r,rfl,h1,Bg h h2⟩
theorem uS {E:Env} {j k s p:Nat} {ty:TypeId} {wr:Bool} {cs cs':List SV} {c:Code} {K:bF} {blk:aC} {fr:List (Nat×SV)} {hp:List (Nat×aC)} (hj:find hp j=some ⟨ty,wr,.one cs⟩) (cl:cs[p]? =some (.val (.slice none 0 0))) (hk:find hp k=none) (he:blk.data.empty)
  (B9:cs.set p (.aM k s 0 0)=cs') (hs:dY E c K fr ((k,blk)::(j,⟨ty,wr,.one cs'⟩)::hp)):dY E c K fr hp:=⟨λa w hR=>hs.run a w (by
  subst B9;refine Dl ?_ he (sE hj (λρ z hz=>Bg cl hz) hR);simp only[find];cases hb:ϋ j k with
  |false=>exact hk
  |true=>rw[χ hb,hk]at hj;cases hj)⟩
theorem ay {t:Bool} {A B:Prop} (h:t=true) (k:A):(t=true->A)/\(t=false->B):=⟨λ_=>k,λh'=>(by rw[h]at h';cases h')⟩
theorem aG {t:Bool} {A B:Prop} (h:t=false) (k:B):(t=true->A)/\(t=false->B):=⟨λh'=>(by rw[h]at h';cases h'),λ_=>k⟩
def Wk (c d:SV):Prop:=c.aZ=d.aZ/\∀ρ x,aI ρ c x->aI ρ d x
def Vn (l m:List SV):Prop:=(∀z,ω cV l z=ω cV m z)/\∀ρ z,aw ρ l z->aw ρ m z
theorem Wk.refl {c:SV}:Wk c c:=⟨rfl,λ_ _ h=>h⟩
theorem Wk.nil {w:Nat} {a:Option Addr}:Wk (.val (.slice a 0 0)) (fh w []):=⟨rfl,λ_ _ h=>pI h⟩
theorem Vn.nil:Vn [] []:=⟨λ_=>rfl,λ_ _ h=>h⟩
theorem Vn.cons {c d:SV} {l m:List SV} (h:Wk c d) (k:Vn l m):Vn (c::l) (d::m):=
 ⟨λz=>by cases z with
  |nil=>rfl
  |cons x r=>rw[aj3,aj3,k.1 r,I4 h.1],λρ z hz=>by
  simp only[aw]at hz ⊢;obtain⟨x,r,rfl,h1,h2⟩:=hz
  exact⟨x,r,rfl,h.2 ρ x h1,k.2 ρ r h2⟩⟩
theorem Wk.agg {l m:List SV} (h:Vn l m):Wk (.agg l) (.agg m):=⟨rfl,λρ x hx=>by
 simp only[aI]at hx ⊢;obtain⟨z,h1,h2⟩:=hx
 exact⟨z,h.2 ρ z h1,h2⟩⟩
theorem aL.wk {P:Program} {f:FuncId} {args args':List SV} {fk:List (Nat×aC)} {c:SV} {new upd:List (Nat×aC)} (h:aL P f args' fk c new upd) (hw:Vn args args'):aL P f args fk c new upd:=aL.args h hw.2 hw.1
def ag3 {α β γ:Type} (f:α->SV) (g:β->SV) (h:γ->SV) (p:α×β×γ):SV:=.agg [f p.1,g p.2.1,h p.2.2]
end Go.Sx
namespace Go.Proofs.YtadphegfhgmgmaaGreatDoor
open Go.Sx
abbrev MM:=Int×Int×List (Int×Int)
abbrev mQ:MM->SV:=ag3 (gB .u8) (gB .u8) (bN 2 qA)
def mOK (m:MM):Prop:=(0<=m.1/\m.1<256)/\(0<=m.2.1/\m.2.1<256)/\m.2.2.length<=maxLen/\∀q∈m.2.2,my q
def eQ (l:List (Int×Int)) (p:Nat):Rat:=qV (l.getD p (0,0))
def eZ (l:List (Int×Int)) (n:Nat):List Rat:=(Η n).map (eQ l)
theorem gS (l:List (Int×Int)) (n:Nat):(eZ l n).length=n:=by simp[eZ]
theorem oZ {l:List (Int×Int)} {n p:Nat} (h:p<n):(eZ l n).getD p 0=eQ l p:=by simp[eZ,δ,h]
theorem oo {l:List (Int×Int)} (h:∀q∈l,my q) (p:Nat):my (l.getD p (0,0)):=by
 by_cases hp:p<l.length
 ·exact h _ (eX hp)
 ·rw[δ,Ϙ aa];exact⟨⟨ax,ax⟩,ax,ax⟩
theorem EY {l:List (Int×Int)} (h:∀q∈l,my q) (n:Nat):Sm 130 (eZ l n):=by
 intro p hp;rw[gS]at hp;rw[oZ hp];exact oR (oo h p)
theorem Hi (l:List (Int×Int)) {r c:Nat} (hr:r<=2048) (hc:c<=2048):fa r c (eZ l (r*c)):=⟨hr,hc,gS ..⟩
theorem wrap_u8 {n:Int} (h0:0<=n) (h:n<256):abO.wrap n=n:=by
 simp[IntKind.wrap,IntKind.bits,IntKind.signed];omega
theorem LF {α:Type} {l:List α} {i:Nat} {d:α} (h:i<l.length):l.take (i+1)=(l.take i).take i++(([l.getD i d]:List α).drop 0).take 1:=(P0 h).symm
theorem JN (m:MM) (hm:mOK m) {r c:Nat} (hr:r<=12) (hc:c<=12):C0 27 [mQ m,iv r,iv c] (mA r c (eZ m.2.2 (r*c))):=by
 obtain⟨A,B,l⟩:=m;obtain⟨_,_,hl,hq⟩:=hm
 replace hl:l.length<=maxLen:=hl
 have hz:=gS l (r*c);have hN:r*c<=12*12:=Ϧ hr hc;have t0:ε.wrap ((r:Int)*(c:Int))=((r*c:Nat):Int):=by rw[<-Ρ,wrap_i64 aa aa]
 generalize r*c=N at*;refine kg [3] Tryz.func27 ?_;intro w0 ρ0 hE;conv=>whnf
 skip
 refine uS (j:=7) (k:=2001) (s:=5) (p:=2) (blk:=eJ []) rfl rfl rfl rfl rfl ?_
 refine cG hE (λk=>k) [1,2,3,6,7,8] [6,7,2001] (λm fr hp=>∃i:Nat,m=N - i/\i<=N/\fr=[(1,iv r),(2,iv c),(3,b9 [gB .u8 A,gB .u8 B,bN 2 qA l]),(6,.ptr 6 0 0 0),(7,.ptr 7 0 0 0),(8,iv (i:Nat))]/\
  hp=[(6,zM),(7,⟨35,true,.one [iv r,iv c,.aM 2001 5 0 i]⟩),(2001,eJ ((eZ l N).take i))]) N ?_ ?_ ?_
 ·kernel_rfl
 ·exact⟨0,rfl,Γ _,rfl,rfl⟩
 rintro m _ _ ⟨i,rfl,hi,rfl,rfl⟩;have Wt:((eZ l N).take i).length=i:=by rw[ψ];omega
 by_cases aE:i<N
 ·have t1:=gZ aE;have t2:=bW (i:=i) aa;have o1:=rn (l.getD i (0,0)) (oo hq i);rw[show qV (l.getD i (0,0))=(eZ l N).getD i 0 from(oZ aE).symm]at o1;have e1:=LF (d:=(0:Rat)) (show i<(eZ l N).length by omega);refine dY.of hE ?_;conv=>whnf
  by_cases V6:i<l.length
  ·have t3:=gZ V6
   (repeat((first|refine ag rfl rfl ?_|refine aq aD ?_|refine ao Q3 ?_|refine aN aJ ?_|refine an Q8 ?_|refine an Q6 ?_|refine an Q21 ?_|refine an Q9 ?_|rw[t0]|rw[t1]|rw[t3]|rw[t2]|rw[υ]);conv=>whnf))
   refine⟨N - (i+1),dA [(36,2001)],[1,2,3,6,7,8],[6,7,36],aa,aD,i+1,rfl,aE,rfl, ?_⟩;rw[e1];rfl
  ·have t3:=iH V6;rw[show l.getD i (0,0)=(0,0)from by rw[δ,Ϙ aa];rfl]at o1
   (repeat((first|refine ag rfl rfl ?_|refine ae rfl rfl ?_|refine aq aD ?_|refine ao Q3 ?_|refine aN aJ ?_|refine an Q8 ?_|refine an Q6 ?_|refine an Q9 ?_|rw[t0]|rw[t1]|rw[t3]|rw[t2]|rw[υ]);conv=>whnf))
   refine⟨N - (i+1),dA [(36,2001)],[1,2,3,6,7,8],[6,7,36],aa,aD,i+1,rfl,aE,rfl, ?_⟩;rw[e1];rfl
 ·have t1:=iH aE;obtain rfl:i=N:=aa;rw[ϛ aa];refine dY.of hE ?_;conv=>whnf
  (repeat(first|(refine ae rfl rfl ?_;conv=>whnf)|(rw[t0];conv=>whnf)|(rw[t1];conv=>whnf)))
  exact Q19
theorem JO {l:List (Int×Int)} {n i:Nat} (h:l.length<=i):eZ l n=(eZ l n).take i++θ (n - i) 0:=by
 apply List.ext_getElem
 ·rw[ξ,ψ,gS,agr];omega
 ·intro j h1 h2;rw[gS]at h1;rw[List.getElem_append];split
  ·simp
  ·rename_i h3;rw[ψ,gS]at h3;simp only[List.getElem_replicate,eZ,List.getElem_map,List.getElem_range,eQ];rw[δ,Ϙ aa];decide+kernel
def UE:Nat->Nat->List Nat
 |0,_=>[]
 |f+1,n=>if n=0 then[]else n % 10000::UE f (n/10000)
def tdW (n:Nat):List Nat:=UE n n
theorem QQ:∀(f n w:Nat),w∈UE f n->w<10000
 |0,_,w,h=>by cases h
 |f+1,n,w,h=>by
  rw[UE]at h;split at h
  ·cases h
  ·rcases Λ.1 h with rfl|h
   ·omega
   ·exact QQ f _ w h
theorem abT {n w:Nat} (h:w∈tdW n):w<10000:=QQ n n w h
def bo (xs:List Int):Nat->Int
 |0=>0
 |k+1=>bo xs k+xs.getD k 0*10000^k
def W4 (xs:List Int):Prop:=∀i,0<=xs.getD i 0/\xs.getD i 0<10000
theorem W4.set {xs:List Int} (h:W4 xs) {i:Nat} {v:Int} (h0:0<=v) (h1:v<10000):W4 (xs.set i v):=by
 intro j;rw[aT];split
 ·exact⟨h0,h1⟩
 ·exact h j
theorem LG {xs:List Int} (h:∀x∈xs,0<=x/\x<10000):W4 xs:=by
 intro i;rw[δ];cases hx:xs[i]? with
 |none=>simp
 |some v=>simpa using h v (List.mem_of_getElem? hx)
theorem W4.mem {xs:List Int} (h:W4 xs):∀x∈xs,0<=x/\x<10000:=by
 intro x hx;obtain⟨i,hi⟩:=List.getElem?_of_mem hx;have:=h i;rw[δ,hi]at this;exact this
theorem na {xs ys:List Int}:∀{k:Nat},(∀i,i<k->xs.getD i 0=ys.getD i 0)->bo xs k=bo ys k
 |0,_=>rfl
 |k+1,h=>by rw[bo,bo,na (λi hi=>h i aa),h k aa]
theorem Hj {xs:List Int} {i k:Nat} {v:Int} (h:k<=i):bo (xs.set i v) k=bo xs k:=
 na λj hj=>by rw[aT,if_neg aa]
theorem ff {xs:List Int} (h:W4 xs):∀k,0<=bo xs k
 |0=>Int.le_refl _
 |k+1=>by
  have:=ff h k;have h1:0<=xs.getD k 0*10000^k:=ajN (h k).1 (Int.pow_nonneg ax);rw[bo];omega
theorem nb (k:Nat):(0:Int)<10000^k:=Int.pow_pos ax
theorem pW {xs:List Int} (h:W4 xs):∀k,bo xs k<10000^k
 |0=>by simp[bo]
 |k+1=>by
  have h1:=pW h k;have h2:xs.getD k 0*10000^k<=9999*10000^k:=acQ (by have:=(h k).2;omega) (ahD (nb k));rw[bo,ϫ];omega
theorem nc {xs:List Int} {k:Nat}:∀{n:Nat},(∀i,k<=i->i<n->xs.getD i 0=0)->k<=n->bo xs n=bo xs k
 |0,_,hk=>by obtain rfl:k=0:=aa
             rfl
 |n+1,h,hk=>by
  by_cases he:k=n+1
  ·subst he;rfl
  ·rw[bo,h n aa aa,nc (n:=n) (λi h1 h2=>h i h1 aa) aa,ajT,ajU]
theorem EZ {xs:List Int} (h:W4 xs) {k:Nat} (ht:xs.getD k 0≠0):10000^k<=bo xs (k+1):=by
 have h1:=ff h k;have h2:1*10000^k<=xs.getD k 0*10000^k:=acQ (by have:=(h k).1;omega) (ahD (nb k));rw[bo];omega
theorem QR:∀(f g n:Nat),n<=f->n<=g->UE f n=UE g n
 |0,0,_,_,_=>rfl
 |0,g+1,n,h,_=>by obtain rfl:n=0:=aa
                  simp[UE]
 |f+1,0,n,_,h=>by obtain rfl:n=0:=aa
                  simp[UE]
 |f+1,g+1,n,h,h'=>by
  unfold UE;split
  ·rfl
  ·rw[QR f g (n/10000) aa aa]
theorem QS {n:Nat} (h:n≠0):tdW n=n % 10000::tdW (n/10000):=by
 unfold tdW;obtain⟨m,rfl⟩:∃m,n=m+1:=⟨n - 1,aa⟩;rw[UE,if_neg h,QR m ((m+1)/10000) _ aa (ζ _)]
def td (n:Nat):List Int:=(tdW n).map Int.ofNat
theorem wo:td 0=[]:=rfl
theorem sF {n:Nat} (h:n≠0):td n=((n % 10000:Nat):Int)::td (n/10000):=by
 rw[td,QS h];rfl
theorem xr (x:Int) (xs:List Int):∀k,bo (x::xs) (k+1)=x+10000*bo xs k
 |0=>by simp[bo]
 |k+1=>by
  rw[bo,xr x xs k,bo,abt,ϫ];grind
theorem Bh (n:Nat):bo (td n) (td n).length=n:=by
 induction n using aiI with
 |_ n ih=>
  by_cases h:n=0
  ·subst h;rfl
  ·rw[sF h,ϊ,xr,ih _ aa];omega
theorem jV (n:Nat):W4 (td n):=by
 refine LG λx hx=> ?_
 obtain⟨w,hw,rfl⟩:=abo.1 hx;have:=abT hw;exact⟨Int.natCast_nonneg _,by show(w:Int)<_;omega⟩
theorem E0 {n:Nat} (h:n≠0):(td n).length≠0/\(td n).getD ((td n).length - 1) 0≠0:=by
 induction n using aiI with
 |_ n ih=>
  rw[sF h];refine⟨by simp, ?_⟩;by_cases h1:n/10000=0
  ·rw[h1,wo];simp only[adg,af0,aeL];omega
  ·obtain⟨h2,h3⟩:=ih _ aa h1;obtain⟨l,hl⟩:∃l,(td (n/10000)).length=l+1:=⟨(td (n/10000)).length - 1,aa⟩;simp only[ϊ,hl,aeN,abt];rw[hl]at h3;simpa using h3
theorem Y7:∀(k:Nat) (xs:List Int),W4 xs->k<=xs.length->(k=0\/xs.getD (k - 1) 0≠0)->td (bo xs k).toNat=xs.take k
 |0,xs,_,_,_=>by simp[bo,wo]
 |k+1,[],_,h,_=>by simp at h
 |k+1,x::xs,hw,h,ht=>by
  have hx:=hw 0;simp only[aeL]at hx;have X9:W4 xs:=λi=>by have:=hw (i+1);simpa using this
  have hv:=ff X9 k
  have aap:=Y7 k xs X9 (by simpa using h) (by
   cases k with
   |zero=>exact .inl rfl
   |succ k=>right;have:=ht.resolve_left aa;simpa using this)
  have hn:(bo (x::xs) (k+1)).toNat≠0:=by
   have U8:=ht.resolve_left aa;have:=EZ hw (k:=k) (by simpa using U8);have:=nb k;omega
  rw[sF hn,xr,List.take_succ_cons];have e1:(x+10000*bo xs k).toNat % 10000=x.toNat:=aa;have e2:(x+10000*bo xs k).toNat/10000=(bo xs k).toNat:=aa;rw[e1,e2,aap];congr 1;omega
theorem me (k:Nat):(((10000^k:Nat)):Int)=(10000:Int)^k:=by rw[Int.natCast_pow];rfl
theorem gg {n k:Nat} (h:n<10000^k):(td n).length<=k:=by
 by_cases hn:n=0
 ·subst hn;simp[wo]
 ·obtain⟨h1,h2⟩:=E0 hn;obtain⟨l,hl⟩:∃l,(td n).length=l+1:=⟨(td n).length - 1,aa⟩;rw[hl]at h2;have h3:=EZ (jV n) (k:=l) (by simpa using h2);rw[<-hl,Bh]at h3;refine Nat.le_of_not_lt λaE=> ?_
  have h4:(10000:Int)^k<=10000^l:=by
   have:(10000:Nat)^k<=10000^l:=ύ ax aa;rw[<-me,<-me];exact ak6.2 this
  have h5:(n:Int)<10000^k:=by rw[<-me];exact aiT.2 h
  omega
theorem gh (n:Nat):n<10000^(td n).length:=by
 have:=pW (jV n) (td n).length;rw[Bh,<-me]at this;exact aiT.1 this
theorem QT {xs:List Int} (hx:W4 xs) {n:Nat}:∀{k:Nat},k<=n->bo xs n % 10000^k=bo xs k:=by
 intro k hk;induction n with
 |zero=>
  obtain rfl:k=0:=aa;simp[bo]
 |succ n ih=>
  by_cases he:k=n+1
  ·subst he;exact ajw (ff hx _) (pW hx _)
  ·rw[bo,show n=k+(n - k)from aa,aiU,<-show n=k+(n - k)from aa,Int.mul_left_comm,ahJ];exact ih aa
theorem QU {xs:List Int} (hx:W4 xs) {i n:Nat} (h:i<n):bo xs n/10000^i % 10000=xs.getD i 0:=by
 have h1:=QT hx (n:=n) (k:=i+1) aa;have hp:=nb i;have e:bo xs n=bo xs (i+1)+10000^(i+1)*(bo xs n/10000^(i+1)):=by
  rw[<-h1];exact(akt _ _).symm
 have h0:=ff hx i;have hl:=pW hx i;have e2:bo xs n=bo xs i+10000^i*(xs.getD i 0+10000*(bo xs n/10000^(i+1))):=by
  conv=>lhs;rw[e]
  rw[bo,ϫ];grind
 rw[e2,Int.add_mul_ediv_left _ _ aa,Int.ediv_eq_zero_of_lt h0 hl,Int.zero_add,ahJ];exact ajw (hx i).1 (hx i).2
theorem Bi {xs:List Int} {i:Nat} {v:Int}:∀{n:Nat},i<n->i<xs.length->bo (xs.set i v) n=bo xs n+(v - xs.getD i 0)*10000^i
 |0,h,_=>aa
 |n+1,h,hl=>by
  by_cases he:i=n
  ·subst he;rw[bo,bo,Hj (ζ _),aT,if_pos ⟨rfl,hl⟩];grind
  ·rw[bo,bo,Bi (n:=n) aa hl,aT,if_neg aa];grind
abbrev nN (n:Nat):SV:=gP .i64 (td n)
theorem Y8 {x:List Int} (hw:W4 x) (h:x.length=0\/x.getD (x.length - 1) 0≠0):td (bo x x.length).toNat=x:=by
 rw[Y7 x.length x hw (ζ _) h,adi]
theorem mf (n k:Nat) (h:(td n).length<=k):bo (td n) k=n:=by
 rw[nc (k:=(td n).length) (λi h1 _=>ep h1) h,Bh]
theorem Nw {x:List Int} {k j:Nat} (h:j<=k):bo (x.take k) j=bo x j:=na λi hi=>by rw[getD_take,if_pos aa]
theorem Wu {x:List Int} (h:W4 x) (k:Nat):W4 (x.take k):=by
 intro i;rw[getD_take];split
 ·exact h i
 ·omega
theorem Nx {x:List Int} (h0:0<x.length) (hz:x.getD (x.length - 1) 0=0):bo (x.take (x.length - 1)) (x.take (x.length - 1)).length=bo x x.length:=by
 have hl:(x.take (x.length - 1)).length=x.length - 1:=by simp
 rw[hl,Nw (ζ _)]
 exact(nc (k:=x.length - 1) (n:=x.length) (λi h1 h2=>by
  have:i=x.length - 1:=aa
  rw[this];exact hz) aa).symm
theorem E1 {x:List Int} (h:W4 x) {d:Int} (h0:0<=d) (h1:d<10000):W4 (x++[d]):=LG λy hy=>by
 rcases ϖ.1 hy with hy|hy
 ·exact h.mem y hy
 ·rw[μ.1 hy];exact⟨h0,h1⟩
theorem Dm (x:List Int) (d:Int):bo (x++[d]) (x.length+1)=bo x x.length+d*10000^x.length:=by
 rw[bo,lf,if_neg aa,af0,na (ys:=x) (k:=x.length) (λi hi=>by rw[lf,if_pos hi])];rfl
theorem jc {n k:Nat} (h:(td n).length<=k):n<10000^k:=Ϟ (gh n) (ύ ax h)
theorem xu {n:Nat} (h:n≠0):10000^((td n).length - 1)<=n:=by
 obtain⟨h1,h2⟩:=E0 h;have h3:=EZ (jV n) h2;rw[show(td n).length - 1+1=(td n).length by omega,Bh,<-me]at h3;omega
theorem gJ {a b:Nat} (h:a<=b):(td a).length<=(td b).length:=gg (ϓ h (gh b))
theorem Dn {a b:Nat} (h:(td a).length<(td b).length):a<b:=by
 rcases Ϝ a b with g|g
 ·exact g
 ·have:=gJ g;omega
theorem gK {n:Nat}:(td n).length=0↔n=0:=by
 constructor
 ·intro h;rcases acX n with g|g
  ·exact g
  ·exact absurd h (E0 aa).1
 ·rintro rfl;rfl
theorem Bj (n i:Nat):(td n).getD i 0=((n/10000^i % 10000:Nat):Int):=by
 have h:=jV n;rcases Ϝ i (td n).length with hi|hi
 ·rw[<-QU h hi,Bh,Int.natCast_emod,afA,me];rfl
 ·rw[ep hi,Ϯ (jc hi)];rfl
theorem o0 {E:Env} (t k:Nat) {c:Code} {K:bF} {fr:List (Nat×SV)} {hp:List (Nat×aC)} {ty:TypeId} {n:Nat} {kd:IntKind} {xs:List Int} (hW:∀b,¬E.W0 b) (ht:lk fr t=some (.aM k 1 0 n)) (hk:find hp k=some ⟨ty,true,.ints kd xs⟩)
  (hn:n=xs.length) (hs:dY E c K ((t,gP kd xs)::fr) (fi hp k ⟨ty,true,.dead⟩)):dY E c K fr hp:=by
 refine jP t k (xs:=xs.map (gB kd)) hW ht hk rfl rfl (bO (λ_=>rfl) xs) (by simp;omega) ?_;rw[im (by simp;omega)];exact hs
theorem wv {L:List Int} {i:Nat} {d:Int} (h:L.length=i):afH i L++afH 1 (ajh 0 [d])=L++[d]:=by
 rw[ϛ aa];rfl
abbrev xv (l:List Int):aC:=⟨3,true,.ints .i64 l⟩
theorem Bk (l:List Int) (hl:l.length<1099511627776) (h:W4 l):C0 188 [gP .i64 l] (nN (bo l l.length).toNat):=by
 refine bB [] Tryz.func188 ?_;intro W0 w0 ρ0 hE;conv=>whnf
 skip
 refine av hE (λk=>k) [0] [] (λm fr hp=>∃x:List Int,m=x.length/\x.length<=l.length/\W4 x/\bo x x.length=bo l l.length/\fr=[(0,gP .i64 x)]/\hp=[]) l.length ?_ ?_ ?_
 ·kernel_rfl
 ·exact⟨l,rfl,ζ _,h,rfl,rfl,rfl⟩
 rintro m _ _ ⟨x,rfl,hx,hw,hv,rfl,rfl⟩;conv=>whnf
 by_cases h0:0<x.length
 ·have t1:decide ((x.length:Int)>0)=true:=decide_eq_true aa;have e1:ε.wrap ((x.length:Int) - 1)=((x.length - 1:Nat):Int):=by rw[wrap_i64 aa aa];omega
  by_cases hz:x.getD (x.length - 1) 0=0
  ·have t2:(x.getD (x.length - 1) 0==0)=true:=beq_iff_eq.2 hz
   (repeat((first|refine ag rfl rfl ?_|refine an er ?_|refine an Q8 ?_|refine an Q6 ?_|refine an (rX (α:=Int) (d:=0) rfl (ai rfl) (ai rfl) (ez rfl) rfl (ez rfl) rfl aa) ?_|refine an Q20 ?_|rw[t1]|rw[e1]|rw[t2]|rw[ι]);conv=>whnf))
   have ux:(x.take (x.length - 1)).length=x.length - 1:=by simp
   exact⟨x.length - 1,λk=>k,[0],[],aa,aD,x.take (x.length - 1),ux.symm,aa,Wu hw _,(Nx h0 hz).trans hv,rfl,rfl⟩
  ·have t2:(x.getD (x.length - 1) 0==0)=false:=beq_false_of_ne hz;have e:nN (bo l l.length).toNat=gP .i64 x:=by rw[nN,<-hv,Y8 hw (.inr hz)]
   rw[e]
   (repeat((first|refine ag rfl rfl ?_|refine ae rfl rfl ?_|refine an er ?_|refine an Q8 ?_|refine an Q6 ?_|refine an (rX (α:=Int) (d:=0) rfl (ai rfl) (ai rfl) (ez rfl) rfl (ez rfl) rfl aa) ?_|rw[t1]|rw[e1]|rw[t2]|rw[ι]);conv=>whnf));exact Q4
 ·have t1:decide ((x.length:Int)>0)=false:=decide_eq_false aa;have e:nN (bo l l.length).toNat=gP .i64 x:=by rw[nN,<-hv,Y8 hw (.inl aa)]
  rw[e]
  (repeat((first|refine ae rfl rfl ?_|refine an dZ ?_|refine an Q8 ?_|rw[t1]);conv=>whnf));exact Q4
theorem Wv (n:Nat) (hn:n<18446744073709551616):C0 189 [.val (.int .u64 (n:Nat))] (nN n):=by
 refine kg [] Tryz.func189 ?_;intro w0 ρ0 hE;conv=>whnf
 skip
 refine dD (t:=3) (k:=2001) (s:=1) (blk:=xv []) rfl rfl rfl ?_;refine cG hE (λk=>k) [0,3] [2001] (λm fr hp=>∃(v:Nat) (L:List Int),m=v/\v<=n/\td n=L++td v/\L.length<=n/\L.length+v<=n/\fr=[(0,.val (.int .u64 (v:Nat))),(3,.aM 2001 1 0 L.length)]/\hp=[(2001,xv L)]) n ?_ ?_ ?_
 ·kernel_rfl
 ·exact⟨n,[],rfl,ζ _,rfl,Γ _,by simp,rfl,rfl⟩
 rintro m _ _ ⟨v,L,rfl,hv,hL,hl,iD,rfl,rfl⟩;by_cases h0:0<m
 ·have hlen:L.length<1099511627776:=by
   have:=congrArg List.length hL;rw[ξ]at this;have h5:(td n).length<=5:=gg aa;omega
  have t1:decide ((m:Int)>0)=true:=decide_eq_true aa;have e0:(m:Int).tmod 10000=((m % 10000:Nat):Int):=by rw[Ϭ aa];omega
  have e1:ε.wrap ((m:Int).tmod 10000)=((m % 10000:Nat):Int):=by rw[e0,wrap_i64 aa aa]
  have e2:(m:Int).tdiv 10000=((m/10000:Nat):Int):=by rw[ϩ aa];omega
  have e3:Ζ.wrap ((m:Int).tdiv 10000)=((m/10000:Nat):Int):=by rw[e2,wrap_u64 aa aa]
  refine dY.of hE ?_;conv=>whnf
  (repeat((first|refine ag rfl rfl ?_|refine Ξ Q5 ?_|rw[t1]|rw[e1]|rw[e3]);conv=>whnf))
  refine⟨m/10000,dA [(11,2001)],[0,3],[11],Nat.div_lt_self h0 ax,aD,m/10000,L++[((m % 10000:Nat):Int)],rfl,aa, ?_, ?_, ?_, ?_, ?_⟩
  ·rw[hL,sF aa,abA];rfl
  ·rw[ξ];simp;omega
  ·rw[ξ];simp;omega
  ·rw[ξ];rfl
  ·rw[<-wv rfl];rfl
 ·have t1:decide ((m:Int)>0)=false:=decide_eq_false aa;have hm:m=0:=aa;subst hm;rw[wo,List.append_nil]at hL;refine o0 3 2001 (λ_ h=>h) rfl rfl rfl ?_;refine dY.of hE ?_;conv=>whnf
  have e:nN n=gP .i64 L:=by rw[nN,hL]
  rw[e]
  (repeat(first|(refine ae rfl rfl ?_;conv=>whnf)));exact Q4
theorem Ww (n i:Nat) (hn:(td n).length<1099511627776):C0 187 [nN n,.val (.int .i64 (i:Nat))] (.val (.int .i64 ((td n).getD i 0))):=by
 refine bB [] Tryz.func187 ?_;intro W0 w0 ρ0 hE;conv=>whnf
 by_cases h:i<(td n).length
 ·have t1:decide ((i:Int)<((td n).length:Int))=true:=decide_eq_true aa
  (repeat((first|refine ag rfl rfl ?_|refine an Q8 ?_|refine an Q6 ?_|refine an As ?_|rw[t1]);conv=>whnf));exact Q4
 ·have t1:decide ((i:Int)<((td n).length:Int))=false:=decide_eq_false aa;rw[ep aa]
  (repeat(first|(refine ae rfl rfl ?_;conv=>whnf)|(refine an Q8 ?_;conv=>whnf)|(rw[t1];conv=>whnf)));exact Q4
theorem Dp {xs ys:List Int} {j:Nat}:∀{n:Nat},j<=n->(∀i,j<=i->i<n->xs.getD i 0=ys.getD i 0)->bo xs n - bo ys n=bo xs j - bo ys j
 |0,h,_=>by obtain rfl:j=0:=aa
            rfl
 |n+1,h,he=>by
  by_cases hj:j=n+1
  ·rw[hj]
  ·have:=Dp (n:=n) aa (λi h1 h2=>he i h1 aa);rw[bo,bo,he n aa aa];omega
theorem Bl {xs ys:List Int} (hx:W4 xs) (hy:W4 ys) {j:Nat} (h:xs.getD j 0<ys.getD j 0):bo xs (j+1)<bo ys (j+1):=by
 have h1:=pW hx j;have h2:=ff hy j;have h3:(xs.getD j 0+1)*10000^j<=ys.getD j 0*10000^j:=acQ aa (ahD (nb j));rw[Int.add_mul,Int.one_mul]at h3;rw[bo,bo];omega
theorem QV (a b:Nat) (ha:(td a).length<1099511627776) (hb:(td b).length<1099511627776):C0 186 [nN a,nN b] (.val (.int .i64 ((a:Int) - b).sign)):=by
 refine bB [] Tryz.func186 ?_;intro W0 w0 ρ0 hE;conv=>whnf
 by_cases h1:(td a).length<(td b).length
 ·have t1:decide (((td a).length:Int)<((td b).length:Int))=true:=decide_eq_true aa;have:=Dn h1;rw[ϕ (show(a:Int) - b<0 by omega)]
  (repeat(first|(refine ag rfl rfl ?_;conv=>whnf)|(refine an Q8 ?_;conv=>whnf)|(rw[t1];conv=>whnf)));exact Q4
 have t1:decide (((td a).length:Int)<((td b).length:Int))=false:=decide_eq_false aa;by_cases h2:(td b).length<(td a).length
 ·have t2:decide (((td a).length:Int)>((td b).length:Int))=true:=decide_eq_true aa;have:=Dn h2;rw[ϰ (show 0<(a:Int) - b by omega)]
  (repeat((first|refine ag rfl rfl ?_|refine ae rfl rfl ?_|refine an Q8 ?_|rw[t1]|rw[t2]);conv=>whnf));exact Q4
 have t2:decide (((td a).length:Int)>((td b).length:Int))=false:=decide_eq_false aa;have e0:ε.wrap (((td a).length:Int) - 1)=((td a).length:Int) - 1:=wrap_i64 aa aa;have va:=mf a (td a).length (ζ _);have vb:=mf b (td a).length aa;have wa:=jV a;have wb:=jV b
 (repeat((first|refine ae rfl rfl ?_|refine an Q8 ?_|rw[t1]|rw[t2]|rw[e0]);conv=>whnf))
 refine av hE (λk=>k) [0,1,5] [] (λm fr hp=>m<=(td a).length/\(∀i,m<=i->i<(td a).length->(td a).getD i 0=(td b).getD i 0)/\fr=[(0,nN a),(1,nN b),(5,.val (.int .i64 ((m:Int) - 1)))]/\hp=[]) (td a).length ?_ ?_ ?_
 ·kernel_rfl
 ·exact⟨ζ _,(λi h1 h2=>aa),rfl,rfl⟩
 rintro j _ _ ⟨hj,heq,rfl,rfl⟩;have hd:=Dp hj heq;rw[va,vb]at hd;conv=>whnf
 by_cases h0:j=0
 ·subst h0;have t3:decide (((0:Nat):Int) - 1>=0)=false:=rfl;have e:((a:Int) - b).sign=0:=by rw[hd];rfl
  rw[e]
  (repeat(first|(refine ae rfl rfl ?_;conv=>whnf)));exact Q4
 ·obtain⟨i,rfl⟩:∃i,j=i+1:=⟨j - 1,aa⟩;have ei:(((i+1:Nat):Int) - 1)=(i:Int):=aa;rw[ei];have X0:i<(td b).length:=aa;have t3:decide ((i:Int)>=0)=true:=decide_eq_true aa;have e2:ε.wrap ((i:Int) - 1)=(i:Int) - 1:=wrap_i64 aa aa;by_cases aE:(td a).getD i 0<(td b).getD i 0
  ·have t4:decide ((td a).getD i 0<(td b).getD i 0)=true:=decide_eq_true aE;have:=Bl wa wb aE;rw[ϕ (show(a:Int) - b<0 by omega)]
   (repeat((first|refine ag rfl rfl ?_|refine aq aD ?_|refine an Q6 ?_|refine an As ?_|rw[t3]|rw[t4]);conv=>whnf));exact Q4
  ·have t4:decide ((td a).getD i 0<(td b).getD i 0)=false:=decide_eq_false aE;by_cases XZ:(td b).getD i 0<(td a).getD i 0
   ·have t5:decide ((td a).getD i 0>(td b).getD i 0)=true:=decide_eq_true XZ;have:=Bl wb wa XZ;rw[ϰ (show 0<(a:Int) - b by omega)]
    (repeat((first|refine ag rfl rfl ?_|refine ae rfl rfl ?_|refine aq aD ?_|refine an Q6 ?_|refine an As ?_|rw[t3]|rw[t4]|rw[t5]);conv=>whnf));exact Q4
   ·have t5:decide ((td a).getD i 0>(td b).getD i 0)=false:=decide_eq_false XZ
    (repeat((first|refine ag rfl rfl ?_|refine ae rfl rfl ?_|refine aq aD ?_|refine an Q6 ?_|refine an As ?_|rw[t3]|rw[t4]|rw[t5]|rw[e2]);conv=>whnf))
    exact⟨i,λk=>k,[0,1,5],[],aa,aD,aa,(λq h1 h2=>by
     by_cases hq:q=i
     ·rw[hq];omega
     ·exact heq q aa h2),rfl,rfl⟩
theorem Ny {P vL va vb c x y D C:Int} (h:vL+c*P=va+vb) (hD:x+y+c=D+10000*C):vL+D*P+C*(P*10000)=va+x*P+(vb+y*P):=by
 have h2:(x+y+c)*P=(D+10000*C)*P:=by rw[hD]
 grind
theorem Y9 (a b:Nat) (ha:(td a).length<1073741824) (hb:(td b).length<1073741824):C0 185 [nN a,nN b] (nN (a+b)):=by
 have wa:=jV a;have wb:=jV b;refine kg [] Tryz.func185 ?_;intro w0 ρ0 hE;conv=>whnf
 skip
 generalize hM:max (td a).length (td b).length=M;refine dD (t:=5) (k:=2001) (s:=1) (blk:=xv []) rfl rfl rfl ?_
 refine cG hE (λk=>k) [0,1,5,6,7] [2001] (λm fr hp=>∃(i:Nat) (L:List Int) (c:Int),m=M+2 - i/\i<=M+1/\L.length=i/\W4 L/\0<=c/\c<=1/\(M<i->c=0)/\bo L i+c*10000^i=bo (td a) i+bo (td b) i/\
  fr=[(0,nN a),(1,nN b),(5,.aM 2001 1 0 i),(6,.val (.int .i64 c)),(7,.val (.int .i64 (i:Nat)))]/\hp=[(2001,xv L)]) (M+2) ?_ ?_ ?_
 ·kernel_rfl
 ·exact⟨0,[],0,rfl,aa,rfl,(λi=>by simp),aa,aa,(λ_=>rfl),rfl,rfl,rfl⟩
 rintro m _ _ ⟨i,L,c,rfl,hi,hl,hw,hc0,ZY,hcM,hv,rfl,rfl⟩;by_cases hgo:i<(td a).length\/i<(td b).length\/0<c
 ·have hiM:i<=M:=by
   rcases hgo with h|h|h
   ·omega
   ·omega
   ·rcases Ϝ M i with g|g
    ·have:=hcM g;omega
    ·exact g
  have k1:=Ww a i aa;have k2:=Ww b i aa;have hx:=wa i;have hy:=wb i;have hxz:(td a).length<=i->(td a).getD i 0=0:=λh=>ep h
  have hyz:(td b).length<=i->(td b).getD i 0=0:=λh=>ep h
  generalize hxe:(td a).getD i 0=x at*;generalize hye:(td b).getD i 0=y at*;have e1:ε.wrap (x+y)=x+y:=wrap_i64 aa aa;have e2:ε.wrap (x+y+c)=x+y+c:=wrap_i64 aa aa;have e3:(x+y+c).tmod 10000=(x+y+c) % 10000:=Ϭ aa;have e4:ε.wrap ((x+y+c).tdiv 10000)=(x+y+c)/10000:=by rw[ϩ aa];exact wrap_i64 aa aa
  have e5:(x+y+c).tdiv 10000=(x+y+c)/10000:=ϩ aa;have e6:=bW (i:=i) aa;have hc2:M<i+1->(x+y+c)/10000=0:=λh=>by
   have:=hxz aa;have:=hyz aa;omega
  have hiA:i<1099511627776:=aa;clear hxz hyz;have cE:bo (L++[(x+y+c) % 10000]) (i+1)+(x+y+c)/10000*10000^(i+1)=bo (td a) (i+1)+bo (td b) (i+1):=by
   have h1:=Dm L ((x+y+c) % 10000);rw[hl]at h1;rw[h1,bo,bo,ϫ,hxe,hye];exact Ny hv aa
  have pq:W4 (L++[(x+y+c) % 10000]):=E1 hw aa aa;have iD:(L++[(x+y+c) % 10000]).length=i+1:=by rw[ξ,hl];rfl
  have hhp:=wv (d:=(x+y+c) % 10000) hl;refine dY.of hE ?_;conv=>whnf
  by_cases g1:i<(td a).length
  ·have t1:decide ((i:Int)<((td a).length:Int))=true:=decide_eq_true aa
   (repeat((first|refine ag rfl rfl ?_|refine ae rfl rfl ?_|refine ao Q3 ?_|refine bn Q3 ?_|refine aN aJ ?_|refine an er ?_|refine an Q8 ?_|rw[t1]|rw[e1]|rw[e2]|rw[e3]|rw[e4]|rw[e6]);conv=>whnf))
   exact⟨M+2 - (i+1),dA [(38,2001)],[0,1,5,6,7],[38],aa,aD,i+1,_,_,rfl,aa,iD,pq,aa,aa,hc2,cE,rfl,by rw[<-hhp];rfl⟩
  ·have t1:decide ((i:Int)<((td a).length:Int))=false:=decide_eq_false aa;by_cases g2:i<(td b).length
   ·have t2:decide ((i:Int)<((td b).length:Int))=true:=decide_eq_true aa
    (repeat((first|refine ag rfl rfl ?_|refine ae rfl rfl ?_|refine ao Q3 ?_|refine bn Q3 ?_|refine aN aJ ?_|refine an er ?_|refine an dZ ?_|refine an Q8 ?_|rw[t1]|rw[t2]|rw[e1]|rw[e2]|rw[e3]|rw[e4]|rw[e6]);conv=>whnf))
    exact⟨M+2 - (i+1),dA [(38,2001)],[0,1,5,6,7],[38],aa,aD,i+1,_,_,rfl,aa,iD,pq,aa,aa,hc2,cE,rfl,by rw[<-hhp];rfl⟩
   ·have t2:decide ((i:Int)<((td b).length:Int))=false:=decide_eq_false aa;have t3:decide (c>0)=true:=decide_eq_true aa
    (repeat((first|refine ag rfl rfl ?_|refine ao Q3 ?_|refine bn Q3 ?_|refine aN aJ ?_|refine an dZ ?_|refine an Q8 ?_|rw[t1]|rw[t2]|rw[t3]|rw[e1]|rw[e2]|rw[e3]|rw[e4]|rw[e6]);conv=>whnf))
    exact⟨M+2 - (i+1),dA [(38,2001)],[0,1,5,6,7],[38],aa,aD,i+1,_,_,rfl,aa,iD,pq,aa,aa,hc2,cE,rfl,by rw[<-hhp];rfl⟩
 ·have t1:decide ((i:Int)<((td a).length:Int))=false:=decide_eq_false aa;have t2:decide ((i:Int)<((td b).length:Int))=false:=decide_eq_false aa;have t3:decide (c>0)=false:=decide_eq_false aa;have hc:c=0:=aa;subst hc;rw[mf a i aa,mf b i aa]at hv;have k1:=Bk L aa hw;rw[show(bo L L.length).toNat=a+b by rw[hl];omega]at k1;refine o0 5 2001 (λ_ h=>h) rfl rfl hl.symm ?_;refine dY.of hE ?_;conv=>whnf
  (repeat((first|refine ag rfl rfl ?_|refine ae rfl rfl ?_|refine aN aJ ?_|refine an dZ ?_|refine an Q8 ?_|rw[t1]|rw[t2]);conv=>whnf));exact Q4
theorem QW {P vL va vb c x y D C:Int} (h:vL - c*P=va - vb) (hD:x - y - c=D - 10000*C):vL+D*P - C*(P*10000)=va+x*P - (vb+y*P):=by
 have h2:(x - y - c)*P=(D - 10000*C)*P:=by rw[hD]
 grind
theorem LH (a b:Nat) (At:b<=a) (ha:(td a).length<1073741824):C0 183 [nN a,nN b] (nN (a - b)):=by
 have wa:=jV a;have wb:=jV b;have Vy:=gJ At;refine kg [] Tryz.func183 ?_;intro w0 ρ0 hE;conv=>whnf
 skip
 refine dD (t:=5) (k:=2001) (s:=1) (blk:=xv []) rfl rfl rfl ?_
 refine cG hE (λk=>k) [0,1,5,6,7] [2001] (λm fr hp=>∃(i:Nat) (L:List Int) (c:Int),m=(td a).length - i/\i<=(td a).length/\L.length=i/\W4 L/\0<=c/\c<=1/\bo L i - c*10000^i=bo (td a) i - bo (td b) i/\
  fr=[(0,nN a),(1,nN b),(5,.aM 2001 1 0 i),(6,.val (.int .i64 c)),(7,.val (.int .i64 (i:Nat)))]/\hp=[(2001,xv L)]) (td a).length ?_ ?_ ?_
 ·kernel_rfl
 ·exact⟨0,[],0,rfl,aa,rfl,(λi=>by simp),aa,aa,rfl,rfl,rfl⟩
 rintro m _ _ ⟨i,L,c,rfl,hi,hl,hw,hc0,ZY,hv,rfl,rfl⟩;by_cases aE:i<(td a).length
 ·have t1:decide ((i:Int)<((td a).length:Int))=true:=decide_eq_true aa;have k2:=Ww b i aa;have hx:=wa i;have hy:=wb i;generalize hxe:(td a).getD i 0=x at*;generalize hye:(td b).getD i 0=y at*;have e1:ε.wrap (x - y)=x - y:=wrap_i64 aa aa;have e2:ε.wrap (x - y - c)=x - y - c:=wrap_i64 aa aa;have e6:=bW (i:=i) aa;have nv:∀D C,x - y - c=D - 10000*C->bo (L++[D]) (i+1) - C*10000^(i+1)=bo (td a) (i+1) - bo (td b) (i+1):=λD C hD=>by
   have h1:=Dm L D;rw[hl]at h1;rw[h1,bo,bo,ϫ,hxe,hye];exact QW hv hD
  have iD:∀D:Int,(L++[D]).length=i+1:=λD=>by rw[ξ,hl];rfl
  have hhp:=λD=>wv (d:=D) hl
  refine dY.of hE ?_;conv=>whnf
  by_cases hn:x - y - c<0
  ·have t2:decide (x - y - c<0)=true:=decide_eq_true hn;have e3:ε.wrap (x - y - c+10000)=x - y - c+10000:=wrap_i64 aa aa
   (repeat((first|refine ag rfl rfl ?_|refine aq aD ?_|refine ao Q3 ?_|refine aN aJ ?_|refine an Q8 ?_|refine an Q6 ?_|refine an As ?_|rw[t1]|rw[hxe]|rw[e1]|rw[e2]|rw[t2]|rw[e3]|rw[e6]);conv=>whnf))
   exact⟨(td a).length - (i+1),dA [(32,2001)],[0,1,5,6,7],[32],aa,aD,i+1,_,1,rfl,aa,iD _,E1 hw (show 0<=x - y - c+10000 by omega) aa,aa,aa,nv _ _ aa,rfl,by rw[<-hhp];rfl⟩
  ·have t2:decide (x - y - c<0)=false:=decide_eq_false hn
   (repeat((first|refine ag rfl rfl ?_|refine ae rfl rfl ?_|refine aq aD ?_|refine ao Q3 ?_|refine aN aJ ?_|refine an Q8 ?_|refine an Q6 ?_|refine an As ?_|rw[t1]|rw[hxe]|rw[e1]|rw[e2]|rw[t2]|rw[e6]);conv=>whnf))
   exact⟨(td a).length - (i+1),dA [(32,2001)],[0,1,5,6,7],[32],aa,aD,i+1,_,0,rfl,aa,iD _,E1 hw (show 0<=x - y - c by omega) aa,aa,aa,nv _ _ aa,rfl,by rw[<-hhp];rfl⟩
 ·have t1:decide ((i:Int)<((td a).length:Int))=false:=decide_eq_false aa;rw[mf a i aa,mf b i aa]at hv;have h1:=pW hw i;have hc:c=0:=by
   rcases(show c=0\/c=1 by omega)with h|h
   ·exact h
   ·subst h;omega
  subst hc;have k1:=Bk L aa hw;rw[show(bo L L.length).toNat=a - b by rw[hl];omega]at k1;refine o0 5 2001 (λ_ h=>h) rfl rfl hl.symm ?_;refine dY.of hE ?_;conv=>whnf
  (repeat((first|refine ae rfl rfl ?_|refine aN aJ ?_|refine an Q8 ?_|rw[t1]);conv=>whnf));exact Q4
theorem Nz {V P c x y o D C R:Int} (hV:V+c*P=R) (hD:o+x*y+c=D+10000*C):V+(D - o)*P+C*(P*10000)=R+x*y*P:=by
 have h2:(o+x*y+c)*P=(D+10000*C)*P:=by rw[hD]
 grind
theorem NA {i k l:Nat} (h:(10000:Int)^i<10000^k):i<k:=by
 rcases Ϝ i k with g|g
 ·exact g
 ·have:(10000:Nat)^k<=10000^i:=ύ ax g;have h2:((10000^k:Nat):Int)<=((10000^i:Nat):Int):=ak6.2 this;rw[me,me]at h2;omega
theorem Hk (a b:Nat) (ha:(td a).length<536870912) (hb:(td b).length<536870912):C0 135 [nN a,nN b] (nN (a*b)):=by
 have wa:=jV a;have wb:=jV b;have ela:ε.wrap (((td a).length:Int)+((td b).length:Int))=(((td a).length+(td b).length:Nat):Int):=by rw[wrap_i64 aa aa];omega
 refine kg [] Tryz.func135 ?_;intro w0 ρ0 hE;conv=>whnf
 (repeat((first|refine ao Q3 ?_|refine an Q8 ?_|rw[ela]|rw[ι]);conv=>whnf))
 generalize hla:(td a).length=la at*;generalize Vy:(td b).length=lb at*
 refine cG hE (λk=>k) [0,1,5,6] [15] (λm fr hp=>∃(i:Nat) (out:List Int),m=la - i/\i<=la/\out.length=la+lb/\W4 out/\bo out (la+lb)=bo (td a) i*b/\
  fr=[(0,nN a),(1,nN b),(5,.aM 15 1 0 (la+lb)),(6,.val (.int .i64 (i:Nat)))]/\hp=[(15,xv out)]) la ?_ ?_ ?_
 ·kernel_rfl
 ·refine⟨0,θ (la+lb) 0,rfl,Γ _,agr,LG (λx hx=>by rw[(agd.1 hx).2];omega), ?_,rfl,rfl⟩;rw[nc (k:=0) (λi _ _=>bA) (Γ _)];simp[bo]
 rintro m _ _ ⟨i,out,rfl,hi,FO,Pz,hov,rfl,rfl⟩;by_cases aE:i<la
 ·have t1:decide ((i:Int)<(la:Int))=true:=decide_eq_true aa;have e9:=bW (i:=i) aa;have hx:=wa i;have akf:bo (td a) (i+1)*b<10000^(i+1+lb):=by
   have h1:=pW wa (i+1);have h2:(b:Int)<10000^lb:=by rw[<-me];exact aiT.2 (jc aa)
   have h3:=ff wa (i+1);have h4:bo (td a) (i+1)*b<=bo (td a) (i+1)*10000^lb:=Int.mul_le_mul_of_nonneg_left aa h3;have h5:bo (td a) (i+1)*10000^lb<10000^(i+1)*10000^lb:=Int.mul_lt_mul_of_pos_right h1 (nb lb);rw[aiU];omega
  have ahh:bo (td a) (i+1)=bo (td a) i+(td a).getD i 0*10000^i:=rfl;have akg:i<(td a).length:=aa;generalize hxe:(td a).getD i 0=x at*;refine dY.of hE ?_;conv=>whnf
  (repeat((first|refine ag rfl rfl ?_|refine an Q8 ?_|rw[hla]|rw[t1]);conv=>whnf))
  refine av hE (λk=>k) [0,1,5,6,7,8] [15] (λm fr hp=>∃(k:Nat) (out:List Int) (c:Int),m=lb+2 - k/\k<=lb+1/\out.length=la+lb/\W4 out/\0<=c/\c<=9999/\bo out (la+lb)+c*10000^(i+k)=bo (td a) i*b+x*bo (td b) k*10000^i/\
   fr=[(0,nN a),(1,nN b),(5,.aM 15 1 0 (la+lb)),(6,.val (.int .i64 (i:Nat))),(7,.val (.int .i64 c)),(8,.val (.int .i64 (k:Nat)))]/\hp=[(15,xv out)]) (lb+2) ?_ ?_ ?_
  ·kernel_rfl
  ·exact⟨0,out,0,rfl,aa,FO,Pz,aa,aa,by rw[hov];simp[bo],rfl,rfl⟩
  clear hov Pz FO out;rintro m _ _ ⟨k,out,c,rfl,hk,FO,Pz,hc0,ZY,hov,rfl,rfl⟩;have abV:lb<=k->bo out (la+lb)+c*10000^(i+k)=bo (td a) (i+1)*b:=λh=>by
   rw[hov,mf b k aa,ahh];grind
  have hck:0<c->k<=lb:=λh=>by
   rcases Ϝ lb k with g|g
   ·have h1:=abV aa;have h2:=ff Pz (la+lb);have h3:1*(10000:Int)^(i+k)<=c*10000^(i+k):=acQ aa (ahD (nb _));have h4:(10000:Int)^(i+k)<10000^(i+1+lb):=aa;have:=NA (l:=0) h4;omega
   ·exact g
  by_cases hgo:k<lb\/0<c
  ·have FN:k<=lb:=by
    rcases hgo with h|h
    ·omega
    ·exact hck h
   have N8:i+k<out.length:=aa;have k2:=Ww b k aa;have hy:=wb k;have ho:=Pz (i+k);generalize hye:(td b).getD k 0=y at*;generalize hoe:out.getD (i+k) 0=o at*;have YJ:0<=x*y:=ajN hx.1 hy.1;have ahi:x*y<=9999*9999:=by
    have h1:x*y<=9999*y:=acQ aa hy.1;omega
   have e1:ε.wrap ((i:Int)+(k:Int))=((i+k:Nat):Int):=by rw[wrap_i64 aa aa];omega
   have e2:ε.wrap (x*y)=x*y:=wrap_i64 aa aa;have e3:ε.wrap (o+x*y)=o+x*y:=wrap_i64 aa aa;have e4:ε.wrap (o+x*y+c)=o+x*y+c:=wrap_i64 aa aa;have e5:(o+x*y+c).tmod 10000=(o+x*y+c) % 10000:=Ϭ aa;have e6:ε.wrap ((o+x*y+c).tdiv 10000)=(o+x*y+c)/10000:=by rw[ϩ aa];exact wrap_i64 aa aa
   have e7:(o+x*y+c).tdiv 10000=(o+x*y+c)/10000:=ϩ aa;have e8:=bW (i:=k) aa;have hD:o+x*y+c=(o+x*y+c) % 10000+10000*((o+x*y+c)/10000):=(akt _ _).symm;have hC0:0<=(o+x*y+c)/10000:=aa;have hC1:(o+x*y+c)/10000<=9999:=aa;have hD0:0<=(o+x*y+c) % 10000:=aa;have O7:(o+x*y+c) % 10000<10000:=aa;have gi:bo (out.set (i+k) ((o+x*y+c) % 10000)) (la+lb)+(o+x*y+c)/10000*10000^(i+(k+1))=bo (td a) i*b+x*bo (td b) (k+1)*10000^i:=by
    rw[Bi aa N8,hoe,show i+(k+1)=i+k+1 from rfl,ϫ,bo,hye];have:=Nz hov hD;have e:x*(bo (td b) k+y*10000^k)*10000^i=x*bo (td b) k*10000^i+x*y*10000^(i+k):=by rw[aiU];grind
    rw[e];omega
   have iD:(out.set (i+k) ((o+x*y+c) % 10000)).length=la+lb:=by rw[ϒ];exact FO
   have pq:=Pz.set (i:=i+k) hD0 O7;clear abV hck hov YJ ahi hD;conv=>whnf
   by_cases g1:k<lb
   ·have t2:decide ((k:Int)<(lb:Int))=true:=decide_eq_true aa
    (repeat((first|refine ag rfl rfl ?_|refine ae rfl rfl ?_|refine aq aD ?_|refine aX Q3 ?_|refine ao Q3 ?_|refine bn Q3 ?_|refine aN aJ ?_|refine an er ?_|refine an Q8 ?_|refine an Q6 ?_|refine an As ?_|rw[Vy]|rw[t2]|rw[hxe]|rw[e1]|rw[hoe]|rw[e2]|rw[e3]|rw[e4]|rw[e5]|rw[e6]|rw[e8]|rw[ι]|rw[υ]);conv=>whnf))
    exact⟨lb+2 - (k+1),λk=>k,[0,1,5,6,7,8],[15],aa,aD,k+1,_,_,rfl,aa,iD,pq,hC0,hC1,gi,rfl,rfl⟩
   ·have t2:decide ((k:Int)<(lb:Int))=false:=decide_eq_false aa;have t3:decide (c>0)=true:=decide_eq_true aa
    (repeat((first|refine ag rfl rfl ?_|refine aq aD ?_|refine aX Q3 ?_|refine ao Q3 ?_|refine bn Q3 ?_|refine aN aJ ?_|refine an dZ ?_|refine an Q8 ?_|refine an Q6 ?_|refine an As ?_|rw[Vy]|rw[t2]|rw[t3]|rw[hxe]|rw[e1]|rw[hoe]|rw[e2]|rw[e3]|rw[e4]|rw[e5]|rw[e6]|rw[e8]|rw[ι]|rw[υ]);conv=>whnf))
    exact⟨lb+2 - (k+1),λk=>k,[0,1,5,6,7,8],[15],aa,aD,k+1,_,_,rfl,aa,iD,pq,hC0,hC1,gi,rfl,rfl⟩
  ·have t2:decide ((k:Int)<(lb:Int))=false:=decide_eq_false aa;have t3:decide (c>0)=false:=decide_eq_false aa;have hc:c=0:=aa;have hv:=abV aa;rw[hc,ajT,ajU]at hv;conv=>whnf
   (repeat((first|refine ag rfl rfl ?_|refine ae rfl rfl ?_|refine an dZ ?_|refine an Q8 ?_|rw[Vy]|rw[t2]|rw[t3]|rw[e9]);conv=>whnf))
   exact⟨la - (i+1),λk=>k,[0,1,5,6],[15],aa,aD,i+1,out,rfl,aa,FO,Pz,hv,rfl,rfl⟩
 ·have t1:decide ((i:Int)<(la:Int))=false:=decide_eq_false aa;have hI:i=la:=aa;subst hI;rw[mf a i aa]at hov;have k1:=Bk out aa Pz;rw[show(bo out out.length).toNat=a*b by rw[FO,hov,<-Ρ];exact ι _]at k1;refine o0 5 15 (λ_ h=>h) rfl rfl FO.symm ?_;refine dY.of hE ?_;conv=>whnf
  (repeat((first|refine ae rfl rfl ?_|refine aN aJ ?_|refine an Q8 ?_|rw[hla]|rw[t1]);conv=>whnf));exact Q4
theorem JP {P:Program} {ρ:bY} {w:World} {s n:Nat} {vs:List SV} {d:Sx.Data} {v:Value} (hv:Has ρ (fh s vs) v) (himm:∀b o,ρ.aW b=some o->w.heap[b]? =some o)
  (hr:∀z,aw (cW ρ.aW ρ.cA) vs z->(∀x∈vs,x.width=s)->Go.Sx.Rows ρ s d z) (hn:n=vs.length):
  ∃z,Go.Sx.Rows ρ s d z/\(∀w',(∀b,b<w.heap.size->w'.heap[b]? =w.heap[b]?)->(Ω s n v).run P w'= .ok (((z.drop 0).take n).flatten).toArray w')/\ahl v=ajP n:=by
 subst hn;rcases vn hv with⟨rfl,a,rfl⟩|⟨b,cap,z,pre,ex,ty,fz,h1,h2,h3,h4,h5,h6⟩
 ·refine⟨[],hr [] (by simp only[aw]) (λx hx=>by cases hx),λw' _=> ?_,rfl⟩;cases a with
  |none=>simp[Ω]
  |some a=>simp[Ω,loadCells,loadCellsFrom]
 ·have hzr:=hr z h2 h3;obtain⟨zl,zw⟩:=hzr.len;have rR:z.length=vs.length:=da h2;subst h6;refine⟨z,hzr,λw' B6=> ?_,rfl⟩;have hh0:=himm _ _ h1;have vj:b<w.heap.size:=by
   rcases Ϝ b w.heap.size with h'|h'
   ·exact h'
   ·simp[ϴ h']at hh0
  have hh:w'.heap[b]? =some (.cells (pre++(z.flatten++ex)).toArray ty fz):=by rw[B6 b vj];exact hh0
  have e0:(z.drop 0).take vs.length=z:=by rw[afg,ϛ aa]
  rw[e0];have hlen:z.flatten.length=vs.length*s:=by rw[aO (s:=s) _ zw,rR]
  refine run_firstCells_some (P:=P) w' s vs.length _ vs.length cap _ hlen ?_;intro j u hj;have hZ:(⟨b,pre.length,none⟩:Addr).add j=⟨b,pre.length+j,none⟩:=by unfold Addr.add;split<;>simp_all
  rw[hZ,cell_of_row w' b (pre.length+j) _ ty fz hh];have aE:j<z.flatten.length:=(Ϩ.1 hj).1;simp only[ό];rw[List.getElem?_append_right aa,Nat.add_sub_cancel_left,ϳ aE];exact hj
theorem Bm {ρ:bY} {kd:IntKind}:∀(xs:List Int) (z:List (List Value)),aw ρ (xs.map (gB kd)) z->z=xs.map λx=>[.int kd x]
 |[],z,h=>by simpa only[af6,aw]using h
 |x::xs,z,h=>by
  simp only[ϲ,aw]at h;obtain⟨y,r,rfl,h1,h2⟩:=h;rw[Bm xs r h2];simp only[gB,aI]at h1;rw[h1.1,ϲ]
theorem xw {kd:IntKind} (xs:List Int):∀(ρ:bY) z,aw (cW ρ.aW ρ.cA) (xs.map (gB kd)) z->(∀x∈xs.map (gB kd),x.width=1)->Go.Sx.Rows ρ 1 (.ints kd xs) z:=
 λρ z h _=>⟨rfl,Bm xs z h⟩
theorem pX {P:Program} {o:Oper} {fr:List (Nat×SV)} {fk:List (Nat×aC)} {t t2 e:TypeId} {x y:Operand} {xs:Array Operand} {ts:Array TypeId} {ti t0 te:TI} {k kn n m:Nat} {d d' d2:Sx.Data} {vs:List SV} (ho:o.op= .call ⟨.builtin .append,xs,ts⟩) (hxs:xs= #[x,y]) (po:ts= #[t,t2])
  (hx:bg fr x (.aM k te.size 0 n)) (hy:bg fr y (fh te.size vs)) (wY:∀(ρ:bY) z,aw (cW ρ.aW ρ.cA) vs z->(∀x∈vs,x.width=te.size)->Go.Sx.Rows ρ te.size d2 z) (ht:b6 P t ti) (hk:ti.kind= .aM e) (FI:b6 P t2 t0) (KA:t0.kind= .aM e) (he:b6 P e te)
  (hf:(k,⟨e,true,d⟩)∈fk) (hl:d.live=true) (hw:dx d=some te.size)
  (hn:n<=gu d) (hmv:m=vs.length) (hm:0+m<=gu d2) (hd:vf d n d2 0 m=some d') (hbytes:(n+m)*te.bytes<=140737488355328) (h63:n+m<=9223372036854775807):
  bR P o fr fk (.aM kn te.size 0 (n+m)) [(kn,⟨e,true,d'⟩)] [(k,⟨e,true,.dead⟩)]:=
 dU λρ a w hp=>by
  have Gb:=hx ρ a hp.dR;have ML:=hy ρ a hp.dR;obtain⟨i,zv,i1,i2',i3,i4,i5,i6,i7,_⟩:=he.info;have hu:=ht.kind;rw[hk]at hu;have B7:=FI.kind;rw[KA]at B7;obtain⟨z,hz,Z0⟩:=kT (hp.oq k _ hf) hl hw;obtain⟨z2,nu,gw,eg⟩:=JP (P:=P) (d:=d2) ML hp.aW (wY ρ) hmv;obtain⟨zl,zw⟩:=hz.len;obtain⟨zl2,zw2⟩:=nu.len;have ct:=(xb hd hz nu).1;have dN:=hp.fresh kn _ (η ..);simp only at zl;have jn:∀u∈(z2.drop 0).take m,u.length=te.size:=λu hu=>zw2 u (Ψ (Θ hu))
  have ij:((z2.drop 0).take m).length=m:=by rw[ψ,ϗ];omega
  have qP:(((z2.drop 0).take m).flatten).length=m*te.size:=by rw[aO _ jn,ij]
  have kU:∀u∈(((z2.drop 0).take m).flatten),u.oneCell'=true:=λu hu=>by
   obtain⟨q,hq,hu⟩:=afQ.1 hu;exact nu.zA q (Ψ (Θ hq)) u hu
  have gr:∀v w',(abn ts o.type #[a.eval x,a.eval y]).run P w= .ok v w'->(execOp a.eval o).run P w= .ok (.value v) w':=by
   intro v w' h;simp only[execOp,ho,resolve,invoke,builtin,hxs,Β,Ε,ν,List.map_toArray,ϲ,af6];rw[h];rfl
  have D3:∀v∈zv.cells.toList,v.oneCell'=true:=by
   have h1:=(aw.len (ρ:=ρ) te.zero _ (eE i6)).2;rw[i5,List.flatMap_def];exact h1
  have D4:¬((n+m:Nat):Int)>ε.max:=by
   have:ε.max=9223372036854775807:=ax;omega
  have grow:∀(base:Option Addr) (cap:Nat),a.eval x= .slice base n cap->cap<n+m->(∀w',(∀b,b<w.heap.size->w'.heap[b]? =w.heap[b]?)->(Ω te.size n (.slice base n cap)).run P w'= .ok ((z.take n).flatten).toArray w')->
    ∃v w' ρ',(execOp a.eval o).run P w= .ok (.value v) w'/\kN ρ w (.aM kn te.size 0 (n+m)) [(kn,⟨e,true,d'⟩)] [(k,⟨e,true,.dead⟩)] v ρ' w':=by
   intro base cap hbx hcap hfirst;have zJ:¬Builtin.nextslicecap (n+m) cap*i.bytes>2^48:=by
    have:=growslice_fits (bytes:=te.bytes) hcap hbytes;rw[i3];simpa using this
   have UY:n+m<=grownCap w (n+m) cap e:=by
    simp only[grownCap,Question.cut];omega
   have cq:=kR (hL:=ct.eS) (ρ:=ρ) (w:=w.drew) (k:=kn) (s:=te.size) (n:=n+m) (cap:=grownCap w (n+m) cap e) (ty:=e) (d:=d') (vs:=(z.take n++(z2.drop 0).take m).flatten) (ex:=(Τ zv.cells (grownCap w (n+m) cap e - (n+m))).toList) dN ct.data UY
    (by
     have h1:((z.take n++(z2.drop 0).take m).flatten).length=(n+m)*te.size:=by
      rw[aO (s:=te.size) _ (λu hu=>(ϖ.1 hu).elim (λh=>zw u (Θ h)) (jn u)),ξ,ij,ψ];congr 1;omega
     rw[ξ,h1,ϭ];have h2:(Τ zv.cells (grownCap w (n+m) cap e - (n+m))).size=(grownCap w (n+m) cap e - (n+m))*te.size:=by simp[Τ,i7]
     rw[h2,<-gx,show n+m+(grownCap w (n+m) cap e - (n+m))=grownCap w (n+m) cap e from by omega]
     exact ζ _) (ig D3 _)
   refine⟨_,_,_,gr _ _ ?_,{cq with
    bE:=⟨cq.bE.os,cq.bE.tape,cq.bE.output,cq.bE.size,λb hb hn=>cq.bE.block b hb (λhh=>by obtain⟨_,_,_,hh,_⟩:=hh;cases hh)⟩
    blk:=λj b hj=>by
     rcases hj with hj|hj
     ·simp only[μ,ς]at hj;obtain⟨rfl,rfl⟩:=hj;exact .inl rfl
     ·exact cq.blk j b (.inr hj)
    once:=λj b b' h1 h2 h3 h4=>by
     simp only[μ,ς]at h1 h2;rw[h2.2]at h4;cases h4
    B0:=λj b q hj hq=>.inl ((cq.B0 j b q hj hq).elim id (λhh=>by obtain⟨_,_,_,hh,_⟩:=hh;cases hh))}⟩
   have Cy:(if false=true then(ajP 0:Sem Nat)else ahl (a.eval y)).run P w= .ok m w:=by rw[eg];rfl
   have vk:¬n+m<=cap:=aa;have hnb:(w.drew).heap=w.heap:=rfl;have Cz:=hfirst w.drew (λb _=>rfl);have wY:=gw w.drew (λb _=>rfl);simp only[abn,po,hbx,ό,ϑ,ϥ,Β,run_underlying hu,run_underlying B7,ν,he.sizeOf,Ε,Κ,if_false,eg];have vl:∀w',(typeInfo e).run P w'= .ok i w':=λw'=>by simp[typeInfo,i1]
   have DY:∀w',(abc e).run P w'= .ok zv w':=λw'=>by simp[abc,typeInfo,i1,i4]
   have vm:¬(((n+m:Nat):Int)>ε.max/\(False\/i.bytes=0)):=λh=>D4 h.1
   have lU:(Question.appendCap (n+m) cap e).forced=false:=rfl;simp only[vk,if_false,Β,vl,ν,vm,zJ,run_choose,lU,Κ,World.drew_eq,run_askRoom,Cz,acP,if_true,wY,DY,newRow,run_newObj,Ε,World.alloc_eq];have jL:((z.take n).flatten.toArray++((z2.drop 0).take m).flatten.toArray++Τ zv.cells (grownCap w (n+m) cap e - (n+m)))=((z.take n++(z2.drop 0).take m).flatten++(Τ zv.cells (grownCap w (n+m) cap e - (n+m))).toList).toArray:=by
    apply ac0;simp
   show Result.ok (Value.slice (some ⟨w.drew.heap.size,0,none⟩) (n+m) (grownCap w (n+m) cap e)) (w.drew.alloc (.cells ((z.take n).flatten.toArray++((z2.drop 0).take m).flatten.toArray++Τ zv.cells (grownCap w (n+m) cap e - (n+m))) e))=_;rw[jL]
  rcases gN Gb with⟨b,tt,cap,e1,e2,e3,e4⟩|⟨rfl,ad,e4⟩
  ·rcases Z0 with⟨b',tt',ex,c1,c2,c3,c4⟩|⟨c1,_⟩
   ·rw[e1]at c1;cases c1;simp only at c2;rcases Ϝ cap (n+m)with aE|KD
    ·refine grow _ cap e4 aE ?_;obtain⟨z3,hz3,hrun3,_⟩:=ox (P:=P) Gb (hp.oq k _ hf) hl hw (by simpa using hn);intro w' B6
     have h0:=run_firstCells_some (P:=P) w' te.size n ⟨b,0*te.size,none⟩ n cap ((z.take n).flatten) (by
      rw[aO (s:=te.size) _ (λu hu=>zw u (Θ hu)),ψ];congr 1;omega) (by
      intro j u hj;have vj:b<w.heap.size:=by
       rcases Ϝ b w.heap.size with h'|h'
       ·exact h'
       ·simp[ϴ h']at c2
      have hh:w'.heap[b]? =some (.cells (z.flatten++ex).toArray e (0,0)):=by rw[B6 b vj];exact c2
      have hZ:(⟨b,0*te.size,none⟩:Addr).add j=⟨b,j,none⟩:=mr b te.size j;rw[hZ,cell_of_row w' b j _ e (0,0) hh];rw[cL (s:=te.size) _ _ zw]at hj;have h6:z.flatten[j]? =some u:=by
       rw[List.getElem?_take]at hj;split at hj
       ·exact hj
       ·cases hj
      have MN:j<z.flatten.length:=(Ϩ.1 h6).1;simp only[ό];rw[ϳ MN]
      exact h6)
     exact h0
    ·-- in place
     have vj:b<w.heap.size:=by
      rcases Ϝ b w.heap.size with h'|h'
      ·exact h'
      ·simp[ϴ h']at c2
     have wY:=gw w (λb _=>rfl);have xV:0*te.size+n*te.size+(((z2.drop 0).take m).flatten).length<=(z.flatten++ex).length:=by
      rw[qP,c3,aeC,υ,<-gx];exact Ι (ο _ KD) (by simpa using e3)
     have Ky:=run_storeCells_at (P:=P) b (n*te.size) e (((z2.drop 0).take m).flatten) 0 (z.flatten++ex).toArray w c2 (by simp only[af5];simpa using xV) kU;have hZ:(⟨b,0*te.size,none⟩:Addr).add (n*te.size)=⟨b,n*te.size,none⟩:=mr b te.size _
     have fP:((z.flatten++ex).take (n*te.size+0)++(((z2.drop 0).take m).flatten)++(z.flatten++ex).drop (n*te.size+0+(((z2.drop 0).take m).flatten).length))=
       (z.take n++(z2.drop 0).take m).flatten++(z.flatten++ex).drop (n*te.size+m*te.size):=by
      rw[abC,qP,List.flatten_append,cL (s:=te.size) _ _ zw,List.take_append_of_le_length (by rw[aO (s:=te.size) _ zw];exact ο _ aa)]
     rw[fP]at Ky
     let ρ':bY:=⟨λj=>if j=kn then some (b,tt)else ρ.key j,ρ.aW,ρ.cA⟩
     have hle:ρ.Le ρ':=⟨λj q hq=>by
      show(if j=kn then _ else _)=_;by_cases hj:j=kn
      ·subst hj;rw[dN]at hq;cases hq
      ·rw[if_neg hj];exact hq,λb o hb=>hb⟩
     refine⟨.slice (some ⟨b,0*te.size,none⟩) (n+m) cap,w.setRow b ((z.take n++(z2.drop 0).take m).flatten++(z.flatten++ex).drop (n*te.size+m*te.size)).toArray,ρ',gr _ _ ?_, ?_⟩
     ·simp only[abn,po,e4,ό,ϑ,ϥ,Β,run_underlying hu,run_underlying B7,ν,he.sizeOf,Ε,Κ,if_false,eg,KD,if_true,acP,wY,hZ,Ky]
     ·refine⟨hle,iE (.inl ⟨b,tt,cap, ?_,KD,e3,rfl⟩), ?_,⟨rfl,rfl,rfl,by simp[World.setRow], ?_⟩, ?_, ?_, ?_, ?_,λb o hb=>.inl hb⟩
      ·show(if kn=kn then _ else _)=_;rw[if_pos rfl]
      ·intro j hj;show(if j=kn then _ else _)=_;rw[if_neg];rintro rfl;exact hj _ (η ..)
      ·intro q hq hnq;refine dh λZ1=>hnq ⟨k,_,tt,η .., ?_⟩
       rw[Z1];exact e1
      ·intro j bj hj;rcases hj with hj|hj
       ·simp only[μ,ς]at hj;obtain⟨rfl,rfl⟩:=hj;exact .inl rfl
       ·simp only[μ,ς]at hj;obtain⟨rfl,rfl⟩:=hj;refine .inr (.inl ⟨b,tt,_,(z.flatten++ex).drop (n*te.size+m*te.size), ?_,by rw[Data.cK ct.eS];exact dC c2,ct.data.mono hle, ?_, ?_⟩)
        ·show(if j=j then _ else _)=_;rw[if_pos rfl]
        ·have h1:((z.take n++(z2.drop 0).take m).flatten).length=(n+m)*te.size:=by
          rw[aO (s:=te.size) _ (λu hu=>(ϖ.1 hu).elim (λh=>zw u (Θ h)) (jn u)),ξ,ij,ψ];congr 1;omega
         rw[ξ,h1,ϗ,c3,gx];rw[qP,c3]at xV;omega
        ·intro u hu;have:=Ψ hu;rcases ϖ.1 this with h|h
         ·obtain⟨q,hq,hu'⟩:=afQ.1 h;exact hz.zA q hq u hu'
         ·exact c4 u h
      ·intro j c c' h1 h2 h3 h4;simp only[μ,ς]at h1 h2;rw[h2.2]at h4;cases h4
      ·intro j bj q hj hq;simp only[μ,ς]at hj;obtain⟨rfl,rfl⟩:=hj;have uA:(if j=j then some (b,tt)else ρ.key j)=some q:=hq;rw[if_pos rfl]at uA;cases uA;exact .inr ⟨k,_,tt,η ..,rfl,e1⟩
      ·intro j bj j' bj' q q' hj qm a8;simp only[μ,ς]at hj qm;exact absurd (hj.1.trans qm.1.symm) a8
   ·rw[e1]at c1;cases c1
  ·rcases acX m with rfl|Ux
   ·-- nothing onto nothing
    have wY:=gw w (λb _=>rfl);refine⟨.slice ad 0 0,w,ρ,gr _ _ ?_, ?_⟩
    ·have nv:∀q:Addr,(storeCells q ([]:List Value)).run P w= .ok () w:=λq=>rfl
     have Gc:((z2.drop 0).take 0).flatten=[]:=by simp
     rw[Gc]at wY;cases ad<;>simp only[abn,po,e4,ό,ϑ,ϥ,Β,run_underlying hu,run_underlying B7,ν,he.sizeOf,Ε,Κ,if_false,eg,abC,ζ,if_true,acP,wY,nv]
    ·have agx:d'.empty\/True:=.inr trivial;have w8:d'.empty:=by
      unfold vf at hd;split at hd
      ·split at hd
       ·simp only[κ]at hd;subst hd;simp[Data.empty]
       ·simp at hd
      ·simp only[κ]at hd;subst hd;simp[Data.empty]
      ·split at hd
       ·simp only[κ]at hd;subst hd;simp[Data.empty]
       ·simp at hd
      ·simp at hd
     refine⟨.refl ρ,iE (.inr ⟨rfl,ad,rfl⟩),λ_ _=>rfl,.refl _ _, ?_, ?_, ?_, ?_,λb o hb=>.inl hb⟩
     ·intro j bj hj;rcases hj with hj|hj
      ·simp only[μ,ς]at hj;obtain⟨rfl,rfl⟩:=hj;exact .inl rfl
      ·simp only[μ,ς]at hj;obtain⟨rfl,rfl⟩:=hj;exact .inr (.inr ⟨dN,w8⟩)
     ·intro j c c' h1 h2 h3 h4;simp only[μ,ς]at h1 h2;rw[h2.2]at h4;cases h4
     ·intro j bj q hj hq;simp only[μ,ς]at hj;obtain⟨rfl,rfl⟩:=hj;rw[dN]at hq;cases hq
     ·intro j bj j' bj' q q' hj qm a8;simp only[μ,ς]at hj qm;exact absurd (hj.1.trans qm.1.symm) a8
   ·refine grow ad 0 e4 aa ?_;intro w' _;cases ad with
    |none=>simp[Ω]
    |some q=>simp[Ω,loadCells,loadCellsFrom]
theorem Hl {E:Env} (t k:Nat) {c:Code} {K:bF} {fr:List (Nat×SV)} {hp:List (Nat×aC)} {ty:TypeId} {n:Nat} {kd:IntKind} {xs ys:List Int} (hW:∀b,¬E.W0 b) (ht:lk fr t=some (.aM k 1 0 n)) (hk:find hp k=some ⟨ty,true,.ints kd xs⟩)
  (hn:n<=xs.length) (hy:xs.take n=ys) (hs:dY E c K ((t,gP kd ys)::fr) (fi hp k ⟨ty,true,.dead⟩)):dY E c K fr hp:=by
 refine jP t k (xs:=xs.map (gB kd)) hW ht hk rfl rfl (bO (λ_=>rfl) xs) (by simp;omega) ?_;have e:ik (xs.map (gB kd)) 0 (0+n)=ys.map (gB kd):=by
  rw[ik,afg,Nat.sub_zero,υ,<-List.map_take,hy]
 rw[e];exact hs
theorem Wx (xs:List Int) (n:Nat) (hn:n<=xs.length) (hl:xs.length<1099511627776) (K:Nat) (wr:Bool):
  aL Tryz.prog 188 [.aM K 1 0 n] [(K,⟨3,wr,.ints .i64 xs⟩)] (.aM K 1 0 (ji xs n)) [] []:=by
 refine aL.vF ?_;refine gY (Z:=[]) aH bC Tryz.func188 rfl aD (args:=[.aM 1001 1 0 n]) (fk:=[(1001,⟨3,false,.ints .i64 xs⟩)]) (c:=.aM 1001 1 0 (ji xs n)) (new:=[]) (upd:=[]) (cb.of rfl rfl rfl rfl rfl rfl rfl rfl rfl rfl rfl) rfl (λ_=>K) (bl.ro rfl) ?_;intro W0 w0 ρ0 hE;conv=>whnf
 skip
 refine av hE (λk=>k) [0] [1001] (λm fr hp=>m<=n/\ji xs m=ji xs n/\fr=[(0,.aM 1001 1 0 m)]/\hp=[(1001,⟨3,false,.ints .i64 xs⟩)]) n ?_ ?_ ?_
 ·kernel_rfl
 ·exact⟨aa,rfl,rfl,rfl⟩
 rintro m _ _ ⟨hm,hc,rfl,rfl⟩;conv=>whnf
 by_cases h0:m=0
 ·subst h0;have t1:decide (((0:Nat):Int)>0)=false:=rfl;have e:ji xs n=0:=hc.symm;rw[e]
  (repeat(first|(refine ae rfl rfl ?_;conv=>whnf)|(refine an dZ ?_;conv=>whnf)))
  exact⟨au.refl _,(λ_ _ h=>by cases h),(λ_ _ h=>by cases h)⟩
 ·obtain⟨m,rfl⟩:∃k,m=k+1:=⟨m - 1,aa⟩;have t1:decide (((m+1:Nat):Int)>0)=true:=decide_eq_true aa;have e1:ε.wrap (((m+1:Nat):Int) - 1)=(m:Int):=by rw[wrap_i64 aa aa];omega
  by_cases hx:xs.getD m 0=0
  ·have t2:(xs.getD m 0==0)=true:=beq_iff_eq.2 hx;rw[ji,if_pos hx]at hc
   (repeat((first|refine ag rfl rfl ?_|refine aX Q3 ?_|refine ao Q3 ?_|refine an er ?_|rw[t1]|rw[e1]|rw[show 0+(m:Int).toNat=m from by omega]|rw[t2]|rw[show((m:Int) - 0).toNat=m from by omega]|rw[υ]);conv=>whnf))
   exact⟨m,λk=>k,[0],[1001],aa,aD,aa,hc,rfl,rfl⟩
  ·have t2:(xs.getD m 0==0)=false:=beq_false_of_ne hx;rw[ji,if_neg hx]at hc;rw[<-hc]
   (repeat((first|refine ag rfl rfl ?_|refine ae rfl rfl ?_|refine aX Q3 ?_|refine ao Q3 ?_|refine an er ?_|rw[t1]|rw[e1]|rw[show 0+(m:Int).toNat=m from by omega]|rw[t2]);conv=>whnf))
   exact⟨au.refl _,(λ_ _ h=>by cases h),(λ_ _ h=>by cases h)⟩
theorem pY (R i:Nat):R/10000^i=10000*(R/10000^(i+1))+R/10000^i % 10000:=by
 have:=abp (R/10000^i) 10000;rw[ϔ,<-ϙ]at this;exact this.symm
theorem NB (R F:Nat) (hR:(td R).length<1099511627776) (hF:F<1099511627776) (hb:R/10000^F<100000000000000000):C0 214 [nN R,.val (.int .i64 (F:Nat))] (.val (.int .i64 ((R/10000^F:Nat):Int))):=by
 have e0:ε.wrap (((td R).length:Int) - 1)=((td R).length:Int) - 1:=wrap_i64 aa aa;refine bB [] Tryz.func214 ?_;intro W0 w0 ρ0 hE;conv=>whnf
 (repeat(first|(refine an Q8 ?_;conv=>whnf)|(rw[e0];conv=>whnf)))
 refine av hE (λk=>k) [0,1,5,6] [] (λq fr hp=>∃j:Nat,q=j - F/\j<=(td R).length/\(F<=j\/j=(td R).length)/\fr=[(0,nN R),(1,.val (.int .i64 (F:Nat))),(5,.val (.int .i64 ((R/10000^j:Nat):Int))),(6,.val (.int .i64 ((j:Int) - 1)))]/\hp=[]) ((td R).length - F) ?_ ?_ ?_
 ·kernel_rfl
 ·exact⟨(td R).length,rfl,ζ _,.inr rfl,by rw[Ϯ (gh R)];rfl,rfl⟩
 rintro q _ _ ⟨j,rfl,hj,hjF,rfl,rfl⟩;conv=>whnf
 by_cases hgo:F<j
 ·obtain⟨i,rfl⟩:∃i,j=i+1:=⟨j - 1,aa⟩;have ei:(((i+1:Nat):Int) - 1)=(i:Int):=aa;rw[ei];have hs:=pY R i;have hle:R/10000^i<=R/10000^F:=ak0 (ύ ax aa) (acS ax);have hg:=Bj R i;have t1:decide ((i:Int)>=(F:Int))=true:=decide_eq_true aa;generalize hA:R/10000^(i+1)=A at*;generalize hB:R/10000^i=B at*;have e1:ε.wrap (10000*(A:Int))=10000*(A:Int):=wrap_i64 aa aa;have e2:ε.wrap (10000*(A:Int)+((B % 10000:Nat):Int))=(B:Int):=by rw[wrap_i64 aa aa];omega
  have e3:ε.wrap ((i:Int) - 1)=(i:Int) - 1:=wrap_i64 aa aa;have hiT:i<(td R).length:=aa;clear hs hle
  (repeat((first|refine ag rfl rfl ?_|refine an Q6 ?_|refine an As ?_|rw[t1]|rw[hg]|rw[e1]|rw[e2]|rw[e3]);conv=>whnf))
  exact⟨i - F,λk=>k,[0,1,5,6],[],aa,aD,i,rfl,aa,aa,by rw[hB];rfl,rfl⟩
 ·have t1:decide ((j:Int) - 1>=(F:Int))=false:=decide_eq_false aa;have e:R/10000^F=R/10000^j:=by
   rcases hjF with h|h
   ·rw[show j=F by omega]
   ·rw[h,Ϯ (gh R),Ϯ (jc aa)]
  rw[e]
  (repeat(first|(refine ae rfl rfl ?_;conv=>whnf)|(rw[t1];conv=>whnf)));exact Q4
theorem JQ (L:List Int) (R F:Nat) (hL:L.take (td R).length=td R) (Uw:(td R).length<=L.length) (hR:(td R).length<1099511627776) (hF:F<1099511627776) (hb:R/10000^F<100000000000000000) (K:Nat) (wr:Bool):
  aL Tryz.prog 214 [.aM K 1 0 (td R).length,.val (.int .i64 (F:Nat))] [(K,⟨3,wr,.ints .i64 L⟩)] (.val (.int .i64 ((R/10000^F:Nat):Int))) [] []:=by
 have e0:ε.wrap (((td R).length:Int) - 1)=((td R).length:Int) - 1:=wrap_i64 aa aa;have hLg:∀i,i<(td R).length->L.getD i 0=((R/10000^i % 10000:Nat):Int):=λi hi=>by rw[<-Bj,<-hL,getD_take,if_pos hi]
 refine aL.vF ?_;refine gY (Z:=[]) aH bC Tryz.func214 rfl aD (args:=[.aM 1001 1 0 (td R).length,.val (.int .i64 (F:Nat))]) (fk:=[(1001,⟨3,false,.ints .i64 L⟩)]) (c:=.val (.int .i64 ((R/10000^F:Nat):Int))) (new:=[]) (upd:=[]) (cb.of rfl rfl rfl rfl rfl rfl rfl rfl rfl rfl rfl) rfl (λ_=>K) (bl.ro rfl) ?_;intro W0 w0 ρ0 hE;conv=>whnf
 (repeat(first|(rw[e0];conv=>whnf)))
 refine av hE (λk=>k) [0,1,5,6] [1001] (λq fr hp=>∃j:Nat,q=j - F/\j<=(td R).length/\(F<=j\/j=(td R).length)/\fr=[(0,.aM 1001 1 0 (td R).length),(1,.val (.int .i64 (F:Nat))),(5,.val (.int .i64 ((R/10000^j:Nat):Int))),(6,.val (.int .i64 ((j:Int) - 1)))]/\hp=[(1001,⟨3,false,.ints .i64 L⟩)]) ((td R).length - F) ?_ ?_ ?_
 ·kernel_rfl
 ·exact⟨(td R).length,rfl,ζ _,.inr rfl,by rw[Ϯ (gh R)];rfl,rfl⟩
 rintro q _ _ ⟨j,rfl,hj,hjF,rfl,rfl⟩;conv=>whnf
 by_cases hgo:F<j
 ·obtain⟨i,rfl⟩:∃i,j=i+1:=⟨j - 1,aa⟩;have ei:(((i+1:Nat):Int) - 1)=(i:Int):=aa;rw[ei];have hs:=pY R i;have hle:R/10000^i<=R/10000^F:=ak0 (ύ ax aa) (acS ax);have hg:=hLg i aa;have t1:decide ((i:Int)>=(F:Int))=true:=decide_eq_true aa;generalize hA:R/10000^(i+1)=A at*;generalize hB:R/10000^i=B at*;have e1:ε.wrap (10000*(A:Int))=10000*(A:Int):=wrap_i64 aa aa;have e2:ε.wrap (10000*(A:Int)+((B % 10000:Nat):Int))=(B:Int):=by rw[wrap_i64 aa aa];omega
  have e3:ε.wrap ((i:Int) - 1)=(i:Int) - 1:=wrap_i64 aa aa;have hiT:i<(td R).length:=aa;clear hs hle
  (repeat((first|refine ag rfl rfl ?_|refine aX Q3 ?_|refine ao Q3 ?_|rw[t1]|rw[hg]|rw[e1]|rw[e2]|rw[e3]|rw[ι]|rw[υ]);conv=>whnf))
  exact⟨i - F,λk=>k,[0,1,5,6],[1001],aa,aD,i,rfl,aa,aa,by rw[hB];rfl,rfl⟩
 ·have t1:decide ((j:Int) - 1>=(F:Int))=false:=decide_eq_false aa;have e:R/10000^F=R/10000^j:=by
   rcases hjF with h|h
   ·rw[show j=F by omega]
   ·rw[h,Ϯ (gh R),Ϯ (jc aa)]
  rw[e]
  (repeat(first|(refine ae rfl rfl ?_;conv=>whnf)|(rw[t1];conv=>whnf)))
  exact⟨au.refl _,(λ_ _ h=>by cases h),(λ_ _ h=>by cases h)⟩
section
variable {a b R d P F T lb:Nat}
theorem QX {R b P T:Nat} (hb:0<b) (hP:0<P) (hT:b<(T+1)*P):R/P/(T+1)<=R/b:=by
 rw[agm hb];have h1:R/P/(T+1)*(T+1)<=R/P:=ac5 _ _;have h2:R/P*P<=R:=ac5 _ _;have h3:R/P/(T+1)*b<=R/P/(T+1)*((T+1)*P):=ϧ _ (aiD hT);have h4:R/P/(T+1)*(T+1)*P<=R/P*P:=ο P h1;rw[Ϛ]at h4;omega
theorem QY {R b P T:Nat} (hT0:0<T) (hP:0<P) (hT:T*P<=b):R/b<=R/P/T:=by
 rw[agm hT0,agm hP];have h1:R/b*b<=R:=ac5 _ _;have h2:R/b*(T*P)<=R/b*b:=ϧ _ hT;rw[Ϛ];omega
end
theorem QZ {A b d:Nat} (hb:0<b):(10000*A+d)/b=10000*(A/b)+(A % b*10000+d)/b:=by
 have h:10000*A+d=A % b*10000+d+b*(10000*(A/b)):=by
  have:=abp A b;have e:b*(10000*(A/b))=10000*(b*(A/b)):=by rw[<-Ϛ,Ϣ b 10000,Ϛ]
  omega
 rw[h,Nat.add_mul_div_left _ _ hb];omega
theorem Q0 {A b d:Nat}:(10000*A+d) % b=(A % b*10000+d) % b:=by
 have h:10000*A+d=A % b*10000+d+b*(10000*(A/b)):=by
  have:=abp A b;have e:b*(10000*(A/b))=10000*(b*(A/b)):=by rw[<-Ϛ,Ϣ b 10000,Ϛ]
  omega
 rw[h,Nat.add_mul_mod_self_left]
theorem Ra {r b d:Nat} (hb:0<b) (hr:r<b) (hd:d<10000):(r*10000+d)/b<10000:=by
 rw[acW hb];have:(r+1)*10000<=b*10000:=ο _ hr;rw[gx]at this;rw[Ϣ 10000 b];omega
theorem Wy {b:Nat} (hb:0<b):0<b/10000^((td b).length - 3):=by
 refine ajs (Ι (ύ ax aa) (xu aa)) (acS ax)
theorem abX {b:Nat}:b/10000^((td b).length - 3)<1000000000000:=by
 rw[acW (acS ax),show 1000000000000=10000^3 from rfl,<-acU];exact jc aa
theorem Wz {d R:Nat} (hd:d<10000) (h:R*10000+d≠0):td (R*10000+d)=(d:Int)::td R:=by
 rw[sF h,show(R*10000+d) % 10000=d by omega,show(R*10000+d)/10000=R by omega]
theorem E2:∀(k n:Nat),(td n).drop k=td (n/10000^k)
 |0,n=>by simp
 |k+1,n=>by
  by_cases h:n=0
  ·subst h;rw[wo,Nat.zero_div];rfl
  ·rw[sF h,List.drop_succ_cons,E2 k,ϔ,ϙ,Ϣ]
theorem Rb {d R:Nat} (hd:d<10000):ji ((d:Int)::td R) ((td R).length+1)=(td (R*10000+d)).length/\((d:Int)::td R).take (td (R*10000+d)).length=td (R*10000+d):=by
 by_cases h:R*10000+d=0
 ·obtain rfl:R=0:=aa;obtain rfl:d=0:=aa;exact⟨rfl,rfl⟩
 ·have e:=Wz hd h;have hl:(td (R*10000+d)).length=(td R).length+1:=by rw[e];rfl
  have ht:=(E0 h).2;rw[hl,e,aeN]at ht;refine⟨?_, ?_⟩
  ·rw[hl,ji,if_neg ht]
  ·rw[<-e,adi]
theorem Hm {n:Nat} (h:n<9223372036854775808):ε.wrap (n:Int)=n:=wrap_i64 aa aa
theorem Rc (a b:Nat) (hb:0<b) (ha:(td a).length<268435456) (hbl:(td b).length<268435456):C0 182 [nN a,nN b] (.bQ [nN (a/b),nN (a % b)]):=by
 have k1:=QV a b aa aa;by_cases aE:a<b
 ·have t1:decide (((a:Int) - b).sign<0)=true:=decide_eq_true (by rw[ϕ aa];omega);have e0:nN (a/b)=fh 1 []:=by rw[Ϯ aE];rfl
  have e1:nN (a % b)=nN a:=by rw[Υ aE]
  rw[e0,e1];refine kg [] Tryz.func182 ?_;intro w0 ρ0 hE;conv=>whnf
  (repeat(first|(refine ag rfl rfl ?_;conv=>whnf)|(refine aN aJ ?_;conv=>whnf)|(rw[t1];conv=>whnf)));exact Q30
 have t1:decide (((a:Int) - b).sign<0)=false:=decide_eq_false Q33;have hle:=gJ (show b<=a by omega);have akj:0<(td b).length:=by have:=(gK (n:=b));omega
 have hT0:=Wy hb;have hT1:=abX (b:=b);have JR:0<10000^((td b).length - 3):=acS ax;have hTb:b/10000^((td b).length - 3)*10000^((td b).length - 3)<=b:=ac5 _ _;have hbT:b<(b/10000^((td b).length - 3)+1)*10000^((td b).length - 3):=by rw[Ϣ];exact Nat.lt_mul_div_succ b JR
 have k2:=NB b ((td b).length - 3) aa aa aa;generalize hF:(td b).length - 3=F at*;generalize hT:b/10000^F=T at*;have e1:ε.wrap (((td b).length:Int) - 3)=((td b).length:Int) - 3:=wrap_i64 aa aa;have e2:(if ((td b).length:Int) - 3>0 then((td b).length:Int) - 3 else 0)=(F:Int):=by split<;>omega
 generalize hD:(td a).length - (td b).length=D;have e3:ε.wrap (((td a).length:Int) - ((td b).length:Int))=(D:Int):=by rw[wrap_i64 aa aa];omega
 have e4:ε.wrap ((D:Int)+1)=((D+1:Nat):Int):=by rw[wrap_i64 aa aa];omega
 have hA0:a/10000^(D+1)<b:=by
  have h1:=gh a;have h2:=xu (n:=b) aa;rw[acW (acS ax)];refine Ϟ h1 (Ι (m:=10000^((td b).length - 1)*10000^(D+1)) ?_ (ο _ h2));rw[<-acU];exact ύ ax aa
 have ae2:((td a).drop (D+1)).take ((td a).length - (D+1))=td (a/10000^(D+1)):=by
  rw[E2,ϛ];rw[<-E2,ϗ];omega
 have wb:=jV b;refine kg [] Tryz.func182 ?_;intro w0 ρ0 hE;conv=>whnf
 have akk:(td (a/10000^(D+1))).length<1099511627776:=by have:=gJ (ac1 a (10000^(D+1)));omega
 generalize UF:a/10000^(D+1)=R0 at*
 (repeat(first|(refine ae rfl rfl ?_;conv=>whnf)|(refine ao Q3 ?_;conv=>whnf)|(refine aN aJ ?_;conv=>whnf)|(refine an Q8 ?_;conv=>whnf)|(refine an Q20 ?_;conv=>whnf)|(refine⟨.aM 40 1 0 (0+(td R0).length),[(35,⟨3,true,.ints .i64 []⟩)],[(40,⟨3,true,.ints .i64 (td R0)⟩)],[(35,⟨3,true,.dead⟩)],pX rfl rfl rfl (ai rfl) (ai rfl) (xw (td R0)) (aH.get (t:=65) rfl) rfl (aH.get (t:=65) rfl) rfl (aH.get (t:=3) rfl) (η ..) rfl rfl (by simp[gu]) (by simp) (by simp[gu]) (by simp[vf]) (by show(0+_)*ti3.bytes<=_;simp only[aar];omega) aa,eB rfl,eh rfl,eT (η ..) rfl rfl rfl, ?_⟩;conv=>whnf)|(rw[t1];conv=>whnf)|(rw[e1];conv=>whnf)|(rw[e2];conv=>whnf)|(rw[e3];conv=>whnf)|(rw[e4];conv=>whnf)|(rw[ae2];conv=>whnf)|(rw[ι];conv=>whnf)|(rw[υ];conv=>whnf)))
 refine Hl 10 40 (λ_ h=>h) rfl rfl (ζ _) (adi) ?_;have e5:((D+1:Nat):Int) - 1=(D:Int):=aa
 refine cG hE (λk=>k) [0,1,6,7,8,9,10] [34] (λm fr hp=>∃Q:List Int,m<=D+1/\Q.length=D+1/\W4 Q/\(∀k,k<m->Q.getD k 0=0)/\bo Q (D+1)=((a/10000^m/b:Nat):Int)*10000^m/\
  fr=[(0,nN a),(1,nN b),(6,.val (.int .i64 (F:Nat))),(7,.val (.int .i64 (T:Nat))),(8,.val (.int .i64 ((m:Int) - 1))),(9,.aM 34 1 0 (D+1)),(10,nN (a/10000^m % b))]/\hp=[(34,xv Q)]) (D+1) ?_ ?_ ?_
 ·kernel_rfl
 ·refine⟨θ (D+1) 0,ζ _,agr,LG (λx hx=>by rw[(agd.1 hx).2];omega),(λk _=>bA), ?_, ?_,rfl⟩
  ·rw[nc (k:=0) (λi _ _=>bA) (Γ _),UF,Ϯ hA0];simp[bo]
  ·rw[e5,UF,Υ hA0];rfl
 rintro m _ _ ⟨Q,hm,hQl,hQw,hQ0,hQv,rfl,rfl⟩;by_cases h0:m=0
 ·subst h0;rw[agF,akG,Int.pow_zero,Int.mul_one]at hQv;have hz:nN (a/10000^0 % b)=nN (a % b):=by rw[agF,akG]
  rw[hz];have t2:decide (((0:Nat):Int) - 1>=0)=false:=rfl;have kt:=Bk Q aa hQw;rw[show(bo Q Q.length).toNat=a/b by rw[hQl,hQv];exact ι _]at kt;refine o0 9 34 (λ_ h=>h) rfl rfl hQl.symm ?_;refine dY.of hE ?_;conv=>whnf
  (repeat(first|(refine ae rfl rfl ?_;conv=>whnf)|(refine aN aJ ?_;conv=>whnf)));exact Q4
 ·obtain⟨i,rfl⟩:∃i,m=i+1:=⟨m - 1,aa⟩;have ei:(((i+1:Nat):Int) - 1)=(i:Int):=aa;rw[ei];have nv:=pY a i;have WA:(td a).getD i 0=((a/10000^i % 10000:Nat):Int):=Bj a i;have ae3:a/10000^i % 10000<10000:=ab8 _ ax;have hia:i<(td a).length:=aa;have akl:=gJ (Ι (Nat.mod_le (a/10000^(i+1)) b) (ac1 a _));have hq1:=hQv;have jB:((a/10000^i/b:Nat):Int)=10000*((a/10000^(i+1)/b:Nat):Int)+(((a/10000^(i+1) % b*10000+a/10000^i % 10000)/b:Nat):Int):=by
   rw[nv,QZ hb];have:(10000*(a/10000^(i+1))+a/10000^i % 10000) % 10000=a/10000^i % 10000:=by rw[<-nv]
   rw[this];omega
  have ae4:a/10000^i % b=(a/10000^(i+1) % b*10000+a/10000^i % 10000) % b:=by
   have h:=Q0 (A:=a/10000^(i+1)) (b:=b) (d:=a/10000^i % 10000);rw[<-nv]at h;exact h
  have hRb:a/10000^(i+1) % b<b:=ab8 _ hb;clear nv;generalize hd:a/10000^i % 10000=d at*;generalize hR:a/10000^(i+1) % b=R at*;obtain⟨ZY,hc2⟩:=Rb (R:=R) ae3;have akn:(td (R*10000+d)).length<=(td R).length+1:=gg (by have:=gh R;rw[ϙ];omega);have ako:=Ra (d:=d) hb hRb ae3;have akp:(td (R*10000+d)).length<=(td b).length+1:=gg (by have:=gh b;rw[ϙ];omega);have kt:=Wx ((d:Int)::td R) (1+(td R).length) (by rw[ϊ];omega) (by rw[ϊ];omega) 51 true;rw[afk 1,ZY,afk]at kt;have ahk:(R*10000+d)/10000^F<10000^4:=by
   rw[acW (acS ax),<-acU];exact jc aa
  have kl:=JQ ((d:Int)::td R) (R*10000+d) F hc2 (by rw[ϊ];omega) aa aa aa 51 true;have glo:=QX (R:=R*10000+d) hb JR hbT;have ghi:=QY (R:=R*10000+d) hT0 JR hTb;have Rd:R*10000+d - b*((R*10000+d)/b)=a/10000^i % b:=by
   rw[ae4];have:=abp (R*10000+d) b;omega
  have abY:b*((R*10000+d)/b)<=R*10000+d:=Nat.mul_div_le _ _;have ae5:∀x,b*x<=R*10000+d↔x<=(R*10000+d)/b:=λx=>by rw[agm hb,Ϣ]
  generalize lN:R*10000+d=R' at*;generalize WB:R'/10000^F=fst at*;generalize hqd:R'/b=qd at*;have e6:ε.wrap ((T:Int)+1)=((T+1:Nat):Int):=by rw[wrap_i64 aa aa];omega
  have e7:ε.wrap ((fst:Int).tdiv ((T+1:Nat):Int))=((fst/(T+1):Nat):Int):=by
   rw[ϩ aa,<-afA];exact Hm (ϓ (ac1 fst (T+1)) aa)
  have e8:ε.wrap ((fst:Int).tdiv (T:Int))=((fst/T:Nat):Int):=by
   rw[ϩ aa,<-afA];exact Hm (ϓ (ac1 fst T) aa)
  have e9:(if (9999:Int)<((fst/T:Nat):Int)then(9999:Int)else((fst/T:Nat):Int))=((min (fst/T) 9999:Nat):Int):=by split<;>omega
  have t2:decide ((i:Int)>=0)=true:=decide_eq_true aa;have hRl:(td R).length<1099511627776:=aa;refine dY.of hE ?_;conv=>whnf
  (repeat(first|(refine ag rfl rfl ?_;conv=>whnf)|(refine aq aD ?_;conv=>whnf)|(refine bn Q3 ?_;conv=>whnf)|(refine od aJ rfl ?_;conv=>whnf)|(refine an Q6 ?_;conv=>whnf)|(refine an As ?_;conv=>whnf)|(refine⟨.aM 51 1 0 (1+(td R).length),[(49,⟨3,true,.ints .i64 [(d:Int)]⟩)],[(51,⟨3,true,.ints .i64 ((d:Int)::td R)⟩)],[(49,⟨3,true,.dead⟩)],pX rfl rfl rfl (ai rfl) (ai rfl) (xw (td R)) (aH.get (t:=65) rfl) rfl (aH.get (t:=65) rfl) rfl (aH.get (t:=3) rfl) (η ..) rfl rfl (by simp[gu]) (by simp) (by simp[gu]) (by simp[vf]) (by show(1+_)*ti3.bytes<=_;simp only[aar];omega) aa,eB rfl,eh rfl,eT (η ..) rfl rfl rfl, ?_⟩;conv=>whnf)|(rw[t2];conv=>whnf)|(rw[WA];conv=>whnf)|(rw[e6];conv=>whnf)|(rw[e7];conv=>whnf)|(rw[e8];conv=>whnf)|(rw[e9];conv=>whnf)))
  refine Hl 10 51 (λ_ h=>h) rfl rfl (by rw[ϊ];omega) hc2 ?_;have ae6:fst/(T+1)<=qd:=glo;have ae7:qd<=min (fst/T) 9999:=aa;have ae8:min (fst/T) 9999<=9999:=Nat.min_le_right _ _;clear kl kt ZY hc2 glo ghi hbT hTb e9 e8 e7 e6 ahk;generalize fst/(T+1)=lo0 at*;generalize min (fst/T) 9999=hi0 at*
  refine av hE (λk=>k) [0,1,6,7,8,9,10,12,13] [34] (λq fr hp=>∃lo hi:Nat,q=hi - lo/\lo<=qd/\qd<=hi/\hi<=9999/\
   fr=[(0,nN a),(1,nN b),(6,.val (.int .i64 (F:Nat))),(7,.val (.int .i64 (T:Nat))),(8,.val (.int .i64 (i:Nat))),(9,.aM 34 1 0 (D+1)),(10,nN R'),(12,.val (.int .i64 (lo:Nat))),(13,.val (.int .i64 (hi:Nat)))]/\hp=[(34,xv Q)]) (hi0 - lo0) ?_ ?_ ?_
  ·kernel_rfl
  ·exact⟨lo0,hi0,rfl,ae6,ae7,ae8,rfl,rfl⟩
  rintro q _ _ ⟨lo,hi,rfl,FG,BX,hhi2,rfl,rfl⟩;conv=>whnf
  by_cases hl:lo<hi
  ·have t3:decide ((lo:Int)<(hi:Int))=true:=decide_eq_true aa;have GG:ε.wrap ((lo:Int)+(hi:Int))=((lo+hi:Nat):Int):=by rw[wrap_i64 aa aa];omega
   have YO:ε.wrap (((lo+hi:Nat):Int)+1)=((lo+hi+1:Nat):Int):=by rw[wrap_i64 aa aa];omega
   have e12:ε.wrap (((lo+hi+1:Nat):Int).tdiv 2)=(((lo+hi+1)/2:Nat):Int):=by
    rw[ϩ aa];exact wrap_i64 aa aa
   have akr:(((lo+hi+1:Nat):Int).tdiv 2)=(((lo+hi+1)/2:Nat):Int):=by rw[ϩ aa];rfl
   have aks:lo<(lo+hi+1)/2/\(lo+hi+1)/2<=hi:=aa;generalize (lo+hi+1)/2=um at*;have e13:Ζ.wrap (um:Int)=(um:Int):=wrap_u64 aa aa
   have hbm:(td (b*um)).length<=(td b).length+1:=gg (by
    have h1:=gh b;have h2:b*um<=b*10000:=ϧ _ aa
    rw[ϙ];omega)
   have Uz:(td um).length<=1:=gg aa;have o1:=Wv um aa;have o2:=Hk b um aa aa;have o3:=QV (b*um) R' aa aa;by_cases hc:b*um<=R'
   ·have t4:decide ((((b*um:Nat):Int) - R').sign<=0)=true:=decide_eq_true (by
     have:=Int.sign_nonpos_iff.2 (show((b*um:Nat):Int) - R'<=0 by omega);omega)
    have:=(ae5 um).1 hc
    (repeat((first|refine ag rfl rfl ?_|refine bn Q3 ?_|refine aN aJ ?_|rw[t3]|rw[GG]|rw[YO]|rw[e12]|rw[e13]|rw[t4]);conv=>whnf))
    exact⟨hi - um,λk=>k,[0,1,6,7,8,9,10,12,13],[34],aa,aD,um,hi,rfl,this,BX,hhi2,rfl,rfl⟩
   ·have t4:decide ((((b*um:Nat):Int) - R').sign<=0)=false:=decide_eq_false (by
     rw[ϰ (show 0<((b*um:Nat):Int) - R' by omega)];omega)
    have:¬um<=qd:=λh=>hc ((ae5 um).2 h)
    have e14:ε.wrap ((um:Int) - 1)=((um - 1:Nat):Int):=by rw[wrap_i64 aa aa];omega
    (repeat((first|refine ag rfl rfl ?_|refine ae rfl rfl ?_|refine bn Q3 ?_|refine aN aJ ?_|rw[t3]|rw[GG]|rw[YO]|rw[e12]|rw[e13]|rw[t4]|rw[e14]);conv=>whnf))
    exact⟨um - 1 - lo,λk=>k,[0,1,6,7,8,9,10,12,13],[34],aa,aD,lo,um - 1,rfl,FG,aa,aa,rfl,rfl⟩
  ·have t3:decide ((lo:Int)<(hi:Int))=false:=decide_eq_false aa;obtain rfl:lo=qd:=aa;have e13:Ζ.wrap (lo:Int)=(lo:Int):=wrap_u64 aa aa;have e14:ε.wrap ((i:Int) - 1)=(i:Int) - 1:=wrap_i64 aa aa
   have hbm:(td (b*lo)).length<=(td b).length+1:=gg (by
    have h1:=gh b;have h2:b*lo<=b*10000:=ϧ _ aa
    rw[ϙ];omega)
   have Uz:(td lo).length<=1:=gg aa;have o1:=Wv lo aa;have o2:=Hk b lo aa aa;have o3:=LH R' (b*lo) abY aa;rw[Rd]at o3;have hiQ:i<Q.length:=aa;have hQs:(Q.set i (lo:Int)).length=D+1:=by rw[ϒ];exact hQl
   have ahm:=hQw.set (i:=i) (show(0:Int)<=lo by omega) aa;have ahn:∀k,k<i->(Q.set i (lo:Int)).getD k 0=0:=λk hk=>by rw[aT,if_neg aa];exact hQ0 k aa
   have aho:bo (Q.set i (lo:Int)) (D+1)=((a/10000^i/b:Nat):Int)*10000^i:=by
    rw[Bi aa hiQ,hQ0 i aa,hQv,jB,ϫ];grind
   (repeat((first|refine ae rfl rfl ?_|refine aX Q3 ?_|refine ao Q3 ?_|refine aN aJ ?_|rw[t3]|rw[show 0+(i:Int).toNat=i from by omega]|rw[e13]|rw[e14]);conv=>whnf))
   exact⟨i,λk=>k,[0,1,6,7,8,9,10],[34],aa,aD,Q.set i (lo:Int),aa,hQs,ahm,ahn,aho,rfl,rfl⟩
theorem mE {a b:Nat} (h:a<=b) {M:Nat} (hb:(td b).length<M):(td a).length<M:=ϓ (gJ h) hb
theorem ae9 (a b:Nat) (ha:(td a).length<268435456) (hb:(td b).length<268435456):C0 181 [nN a,nN b] (nN (ac2 a b)):=by
 refine bB [] Tryz.func181 ?_;intro W0 w0 ρ0 hE;conv=>whnf
 skip
 refine av hE (λk=>k) [0,1] [] (λq fr hp=>∃x y:Nat,q=y/\ac2 x y=ac2 a b/\(td x).length<268435456/\(td y).length<268435456/\fr=[(0,nN x),(1,nN y)]/\hp=[]) b ?_ ?_ ?_
 ·kernel_rfl
 ·exact⟨a,b,rfl,rfl,ha,hb,rfl,rfl⟩
 rintro q _ _ ⟨x,y,rfl,hg,hx,hy,rfl,rfl⟩;conv=>whnf
 by_cases h0:0<q
 ·have t1:decide (((td q).length:Int)>0)=true:=decide_eq_true (by have:=gK (n:=q);omega);have k1:=Rc x q h0 hx hy;have aE:=ab8 x h0
  (repeat((first|refine ag rfl rfl ?_|refine aN aJ ?_|refine an Q8 ?_|rw[t1]);conv=>whnf))
  exact⟨x % q,λk=>k,[0,1],[],aE,aD,q,x % q,rfl,by rw[<-hg,ak9 x q,Nat.gcd_rec q x];exact ak9 _ _,hy,mE (aiD aE) hy,rfl,rfl⟩
 ·obtain rfl:q=0:=aa;rw[Nat.gcd_zero_right]at hg;subst hg;have t1:decide (((td 0).length:Int)>0)=false:=rfl
  (repeat(first|(refine ae rfl rfl ?_;conv=>whnf)|(refine an Q8 ?_;conv=>whnf)));exact Q4
abbrev zZ (z:Int):SV:=.agg [.val (.bool (decide (z<0))),nN z.natAbs]
abbrev fF (q:Rat):SV:=.agg [zZ q.num,nN (q.den - 1)]
theorem Bn {n M:Nat} (h:sz n<=M):(td n).length<=M:=gg (Ϟ (eW.1 h) (aiM ax M))
theorem LI (neg:Bool) (n:Nat) (hn:(td n).length<1099511627776):C0 139 [.val (.bool neg),nN n] (zZ (signed neg n)):=by
 refine bB [] Tryz.func139 ?_;intro W0 w0 ρ0 hE;conv=>whnf
 cases neg with
 |false=>
  have e:zZ (signed false n)= .agg [.val (.bool false),nN n]:=by
   have h:¬(signed false n<0):=by show ¬((n:Int)<0);omega
   rw[zZ,decide_eq_false h,iO]
  rw[e]
  (repeat(first|(refine ae rfl rfl ?_;conv=>whnf)|(refine an dZ ?_;conv=>whnf)))
  exact au.refl _
 |true=>
  by_cases h0:0<n
  ·have t1:decide (((td n).length:Int)>0)=true:=decide_eq_true (by have:=gK (n:=n);omega);have e:zZ (signed true n)= .agg [.val (.bool true),nN n]:=by
    have h:signed true n<0:=by show -(n:Int)<0;omega
    rw[zZ,decide_eq_true h,iO]
   rw[e]
   (repeat((first|refine ag rfl rfl ?_|refine an er ?_|refine an Q8 ?_|rw[t1]);conv=>whnf))
   exact au.refl _
  ·obtain rfl:n=0:=aa;have t1:decide (((td 0).length:Int)>0)=false:=rfl;have e:zZ (signed true 0)= .agg [.val (.bool false),nN 0]:=rfl;rw[e]
   (repeat((first|refine ag rfl rfl ?_|refine an er ?_|refine an Q8 ?_|rw[t1]);conv=>whnf))
   exact au.refl _
theorem gL {neg:Bool} {n:Nat} {z:Int} (hz:signed neg n=z) (hn:(td n).length<1099511627776):C0 139 [.val (.bool neg),nN n] (zZ z):=by
 rw[<-hz];exact LI neg n hn
theorem WC (z:Int) (hz:(td z.natAbs).length<1099511627776):C0 142 [zZ z] (.val (.int .i64 z.sign)):=by
 refine bB [1] Tryz.func142 ?_;intro W0 w0 ρ0 hE;conv=>whnf
 by_cases h0:z=0
 ·subst h0;have t1:(((td (Int.natAbs 0)).length:Int)==0)=true:=rfl
  (repeat((first|refine ag rfl rfl ?_|refine an Q8 ?_|refine an Q6 ?_|refine an Q9 ?_);conv=>whnf));exact Q4
 ·have t1:(((td z.natAbs).length:Int)==0)=false:=beq_false_of_ne (by have:=gK (n:=z.natAbs);omega);by_cases hn:z<0
  ·have t2:decide (z<0)=true:=decide_eq_true hn;rw[ϕ hn]
   (repeat((first|refine ag rfl rfl ?_|refine ae rfl rfl ?_|refine an Q8 ?_|refine an Q6 ?_|refine an Q9 ?_|rw[t1]|rw[t2]);conv=>whnf));exact Q4
  ·have t2:decide (z<0)=false:=decide_eq_false hn;rw[ϰ aa]
   (repeat((first|refine ae rfl rfl ?_|refine an Q8 ?_|refine an Q6 ?_|refine an Q9 ?_|rw[t1]|rw[t2]);conv=>whnf));exact Q4
theorem abZ (z:Int) (hz:(td z.natAbs).length<1099511627776):C0 215 [zZ z] (zZ (-z)):=by
 have k1:=gL (neg:= !decide (z<0)) (n:=z.natAbs) (z:= -z) (by by_cases h:z<0<;>simp[signed,h]<;>omega) hz;refine bB [1] Tryz.func215 ?_;intro W0 w0 ρ0 hE;conv=>whnf
 (repeat(first|(refine aN aJ ?_;conv=>whnf)|(refine an Q6 ?_;conv=>whnf)|(refine an Q9 ?_;conv=>whnf)))
 exact au.refl _
theorem ab0 (a b:Int) (ha:(td a.natAbs).length<536870912) (hb:(td b.natAbs).length<536870912):C0 132 [zZ a,zZ b] (zZ (a+b)):=by
 refine bB [2,3] Tryz.func132 ?_;intro W0 w0 ρ0 hE;conv=>whnf
 by_cases hs:a<0↔b<0
 ·have t1:(decide (a<0)==decide (b<0))=true:=by rw[decide_eq_decide.2 hs];exact beq_self_eq_true _
  have k1:=Y9 a.natAbs b.natAbs aa aa;have hl:(td (a.natAbs+b.natAbs)).length<1099511627776:=by
   have h1:(td (a.natAbs+b.natAbs)).length<=max ((td a.natAbs).length) ((td b.natAbs).length)+1:=gg (by
    have h2:=jc (n:=a.natAbs) (k:=max ((td a.natAbs).length) ((td b.natAbs).length)) (Nat.le_max_left _ _);have h3:=jc (n:=b.natAbs) (k:=max ((td a.natAbs).length) ((td b.natAbs).length)) (Nat.le_max_right _ _)
    rw[ϙ];omega)
   omega
  have k2:=gL (neg:=decide (a<0)) (n:=a.natAbs+b.natAbs) (z:=a+b) (by unfold signed;by_cases h:a<0<;>simp[h]<;>omega) hl
  (repeat((first|refine ag rfl rfl ?_|refine aq aD ?_|refine aN aJ ?_|refine an Q6 ?_|refine an Q9 ?_|rw[t1]);conv=>whnf))
  exact au.refl _
 ·have t1:(decide (a<0)==decide (b<0))=false:=beq_false_of_ne (λh=>hs (decide_eq_decide.1 h));have k1:=QV a.natAbs b.natAbs aa aa;by_cases At:b.natAbs<=a.natAbs
  ·have t2:decide (((a.natAbs:Int) - b.natAbs).sign>=0)=true:=decide_eq_true (by have:=Int.sign_nonneg_iff.2 (show 0<=(a.natAbs:Int) - b.natAbs by omega);omega);have k2:=LH a.natAbs b.natAbs At aa;have k3:=gL (neg:=decide (a<0)) (n:=a.natAbs - b.natAbs) (z:=a+b) (by unfold signed;by_cases h:a<0<;>simp[h]<;>omega) (mE (alb _ b.natAbs) aa)
   (repeat((first|refine ag rfl rfl ?_|refine ae rfl rfl ?_|refine aq aD ?_|refine aN aJ ?_|refine an Q6 ?_|refine an Q9 ?_|rw[t1]|rw[t2]);conv=>whnf))
   exact au.refl _
  ·have t2:decide (((a.natAbs:Int) - b.natAbs).sign>=0)=false:=decide_eq_false (by rw[ϕ (show(a.natAbs:Int) - b.natAbs<0 by omega)];omega);have k2:=LH b.natAbs a.natAbs aa aa;have k3:=gL (neg:=decide (b<0)) (n:=b.natAbs - a.natAbs) (z:=a+b) (by unfold signed;by_cases h:b<0<;>simp[h]<;>omega) (mE (alb _ a.natAbs) aa)
   (repeat((first|refine ae rfl rfl ?_|refine aq aD ?_|refine aN aJ ?_|refine an Q6 ?_|refine an Q9 ?_|rw[t1]|rw[t2]);conv=>whnf))
   exact au.refl _
theorem xx {a b:Nat}:(td (a*b)).length<=(td a).length+(td b).length:=gg (by
 rcases acX b with h|h
 ·subst h;rw[Nat.mul_zero];exact acS ax
 ·rw[acU]
  exact Ϟ (Nat.mul_lt_mul_of_pos_right (gh a) h) (ϧ _ (aiD (gh b))))
theorem JS (a b:Int) (ha:(td a.natAbs).length<134217728) (hb:(td b.natAbs).length<134217728):C0 133 [zZ a,zZ b] (zZ (a*b)):=by
 have k1:=Hk a.natAbs b.natAbs aa aa;have k2:=gL (Av a b) (ϓ xx aa);refine bB [2,3] Tryz.func133 ?_;intro W0 w0 ρ0 hE;conv=>whnf
 (repeat((first|refine aq aD ?_|refine aN aJ ?_|refine an Q6 ?_|refine an Q9 ?_);conv=>whnf))
 exact au.refl _
theorem afa (n:Int) (h0: -9223372036854775808<=n) (h1:n<9223372036854775808):C0 137 [.val (.int .i64 n)] (zZ n):=by
 have k1:=Wv n.natAbs aa;have hl:(td n.natAbs).length<1099511627776:=ϓ (gg (k:=5) aa) ax;refine bB [] Tryz.func137 ?_;intro W0 w0 ρ0 hE;conv=>whnf
 by_cases hn:n<0
 ·have t1:decide (n<0)=true:=decide_eq_true hn;have e1:ε.wrap (n+1)=n+1:=wrap_i64 aa aa;have e2:ε.wrap (0 - (n+1))= -(n+1):=by rw[Int.zero_sub];exact wrap_i64 aa aa
  have e3:Ζ.wrap (-(n+1))= -(n+1):=wrap_u64 aa aa;have e4:Ζ.wrap (-(n+1)+1)=(n.natAbs:Int):=by rw[wrap_u64 aa aa];omega
  have k2:=gL (neg:=true) (n:=n.natAbs) (z:=n) (by show -(n.natAbs:Int)=n;omega) hl;have e:zZ n= .agg [.val (.bool true),nN n.natAbs]:=by rw[zZ,t1]
  rw[e]at*
  (repeat((first|refine ag rfl rfl ?_|refine aN aJ ?_|rw[t1]|rw[e1]|rw[e2]|rw[e3]|rw[e4]);conv=>whnf))
  exact au.refl _
 ·have t1:decide (n<0)=false:=decide_eq_false hn;have e1:Ζ.wrap n=(n.natAbs:Int):=by rw[wrap_u64 aa aa];omega
  have k2:=gL (neg:=false) (n:=n.natAbs) (z:=n) (by show(n.natAbs:Int)=n;omega) hl;have e:zZ n= .agg [.val (.bool false),nN n.natAbs]:=by rw[zZ,t1]
  rw[e]at*
  (repeat((first|refine ae rfl rfl ?_|refine aN aJ ?_|rw[t1]|rw[e1]);conv=>whnf))
  exact au.refl _
theorem Re:C0 184 [] (nN 1):=by
 have k1:=Wv 1 ax;refine bB [] Tryz.func184 ?_;intro W0 w0 ρ0 hE;conv=>whnf
 (repeat(first|(refine aN aJ ?_;conv=>whnf)));exact Q4
theorem uT (q:Rat) (h:(td q.den).length<134217728):C0 136 [fF q] (nN q.den):=by
 have k0:=Re;have k1:=Y9 (q.den - 1) 1 (ϓ (gJ (alb q.den 1)) aa) ax;rw[Aw]at k1;refine bB [1] Tryz.func136 ?_;intro W0 w0 ρ0 hE;conv=>whnf
 (repeat((first|refine aq aD ?_|refine aN aJ ?_|refine an Q6 ?_|refine an Q9 ?_);conv=>whnf));exact Q4
theorem Rf (q:Rat) (h:(td q.den).length<134217728):C0 134 [fF q] (zZ q.den):=by
 have k0:=uT q h;have k1:=gL (neg:=false) (n:=q.den) (z:=(q.den:Int)) rfl aa;refine bB [1] Tryz.func134 ?_;intro W0 w0 ρ0 hE;conv=>whnf
 (repeat(first|(refine aN aJ ?_;conv=>whnf)|(refine an Q6 ?_;conv=>whnf)))
 exact au.refl _
theorem JT {n:Int} {d:Nat} (hd:d≠0):signed (decide (n<0)) (n.natAbs/ac2 n.natAbs d)=(mkRat n d).num:=by
 rw[num_mkRat hd];have YG:ac2 n.natAbs d ∣ n.natAbs:=Nat.gcd_dvd_left _ _;unfold signed;by_cases hn:n<0
 ·rw[decide_eq_true hn,if_pos rfl];have:n= -(n.natAbs:Int):=aa;rw[afA,<-Int.neg_ediv_of_dvd (Int.natCast_dvd_natCast.2 YG),<-this]
 ·rw[decide_eq_false hn];simp only[Κ,if_false];have:n=(n.natAbs:Int):=aa;rw[afA,<-this]
theorem y9 (n:Int) (d:Nat) (hd:d≠0) (h1:(td n.natAbs).length<268435456) (h2:(td d).length<268435456):C0 131 [zZ n,nN d] (fF (mkRat n d)):=by
 have hg:ac2 n.natAbs d≠0:=λh=>hd (Nat.gcd_eq_zero_iff.1 h).2
 have hgl:(td (ac2 n.natAbs d)).length<268435456:=mE (akA aa (ajv _ _)) h2;have hq:d/ac2 n.natAbs d≠0:=Nat.div_ne_zero_iff.2 ⟨hg,akA aa (ajv _ _)⟩;have k1:=ae9 n.natAbs d h1 h2;have k2:=Rc n.natAbs (ac2 n.natAbs d) aa h1 hgl;have k3:=Rc d (ac2 n.natAbs d) aa h2 hgl;have k4:=gL (JT (n:=n) hd) (mE (ac1 _ _) aa);have k5:=Re;have k6:C0 183 [nN (d/ac2 n.natAbs d),nN 1] (nN ((mkRat n d).den - 1)):=by
  rw[den_mkRat hd];exact LH (d/ac2 n.natAbs d) 1 (Nat.pos_of_ne_zero hq) (mE (ac1 _ _) aa)
 refine bB [2] Tryz.func131 ?_;intro W0 w0 ρ0 hE;conv=>whnf
 (repeat(first|(refine aN aJ ?_;conv=>whnf)|(refine an Q6 ?_;conv=>whnf)|(refine an Q9 ?_;conv=>whnf)))
 exact au.refl _
theorem Hn {q:Rat} {M:Nat} (h:fs q<=M):(td q.num.natAbs).length<=M/\(td q.den).length<=M:=by
 have h1:=dJ q;have h2:=dG q;unfold fs at h;exact⟨Bn aa,Bn aa⟩
theorem E3 {n M:Nat} (h:sz n<=M):(td n).length<=M/13+1:=gg (Ϟ (eW.1 h) (Ι (ύ ax (show M<=13*(M/13+1) by omega)) (by
 rw[ajl]
 exact aiM ax _)))
theorem E4 {q:Rat} {M:Nat} (h:fs q<=M):(td q.num.natAbs).length<=M/13+1/\(td q.den).length<=M/13+1:=by
 have h1:=dJ q;have h2:=dG q;unfold fs at h;exact⟨E3 aa,E3 aa⟩
theorem pZ (n:Int) (h0: -9223372036854775808<=n) (h1:n<9223372036854775808):C0 70 [.val (.int .i64 n)] (fF (n:Rat)):=by
 have k1:=afa n h0 h1;have e:fF (n:Rat)= .agg [zZ n,fh 1 []]:=by rw[fF];rfl
 rw[e];refine kg [] Tryz.func70 ?_;intro w0 ρ0 hE;conv=>whnf
 (repeat(first|(refine aN aJ ?_;conv=>whnf)));(first|exact au.refl _|exact qF.pC (au.refl _) rfl|(refine qF.one rfl rfl ?_;(repeat(first|exact eO.bI rfl|exact pB.nil|refine pB.cons ?_ ?_|exact eO.aam|refine eO.agg ?_)))|(refine qF.bQ ?_;skip))
theorem zd (q:Rat) (h:(td q.num.natAbs).length<1099511627776):C0 78 [fF q] (.val (.int .i64 q.num.sign)):=by
 have k1:=WC q.num h;refine bB [1] Tryz.func78 ?_;intro W0 w0 ρ0 hE;conv=>whnf
 (repeat(first|(refine aN aJ ?_;conv=>whnf)|(refine an Q6 ?_;conv=>whnf)|(refine an Q9 ?_;conv=>whnf)));exact Q4
theorem ab1 (q:Rat) (h:(td q.num.natAbs).length<1099511627776):C0 190 [fF q] (fF (-q)):=by
 have k1:=abZ q.num h;have e:fF (-q)= .agg [zZ (-q.num),nN (q.den - 1)]:=by rw[fF,Rat.neg_num,Rat.neg_den]
 rw[e];refine bB [1] Tryz.func190 ?_;intro W0 w0 ρ0 hE;conv=>whnf
 (repeat((first|refine aq aD ?_|refine aN aJ ?_|refine an Q6 ?_|refine an Q9 ?_);conv=>whnf))
 exact au.refl _
theorem sH (a b:Rat) (h:fs a+fs b<=1700000000):C0 68 [fF a,fF b] (fF (a+b)):=by
 obtain⟨a1,a2⟩:=E4 (q:=a) (ζ _);obtain⟨b1,b2⟩:=E4 (q:=b) (ζ _);have n1:=dJ a;have n2:=dG a;have n3:=dJ b;have n4:=dG b;have m1:=xx (a:=a.num.natAbs) (b:=b.den);have m2:=xx (a:=b.num.natAbs) (b:=a.den);have m3:=xx (a:=a.den) (b:=b.den);have k1:=Rf b aa;have k2:=Rf a aa;have k3:=JS a.num b.den aa Vo;have k4:=JS b.num a.den aa Vo;have k5:=ab0 (a.num*b.den) (b.num*a.den) Q32 Q32;have k6:=uT a aa;have k7:=uT b aa;have k8:=Hk a.den b.den aa aa
 have m4:(td (a.num*b.den+b.num*a.den).natAbs).length<=(fs a+fs b+1)/13+1:=E3 (by
  have h1:=fU a.num.natAbs b.den;have h2:=fU b.num.natAbs a.den;unfold fs;refine Ι (fY (Int.natAbs_add_le _ _)) (Ι (Ah (k:=ui a+ui b) ?_ ?_) aa)
  ·rw[ac6,abK];omega
  ·rw[ac6,abK];omega)
 have k9:=y9 (a.num*b.den+b.num*a.den) (a.den*b.den) (agI a.den_nz b.den_nz) aa aa;rw[<-Rat.add_def']at k9;clear m1 m2 m3 m4 n1 n2 n3 n4;refine bB [2,3] Tryz.func68 ?_;intro W0 w0 ρ0 hE;conv=>whnf
 (repeat((first|refine aq aD ?_|refine aN aJ ?_|refine an Q6 ?_|refine an Q9 ?_);conv=>whnf))
 exact au.refl _
theorem Rg (a b:Rat) (h:fs a+fs b<=100000000):C0 68 [fF a,fF b] (fF (a+b)):=sH a b aa
theorem ze (a b:Rat) (h:fs a+fs b<=1700000000):C0 69 [fF a,fF b] (fF (a*b)):=by
 obtain⟨a1,a2⟩:=E4 (q:=a) (ζ _);obtain⟨b1,b2⟩:=E4 (q:=b) (ζ _);have m1:=xx (a:=a.num.natAbs) (b:=b.num.natAbs);have m3:=xx (a:=a.den) (b:=b.den);have k3:=JS a.num b.num aa aa;have k6:=uT a aa;have k7:=uT b aa;have k8:=Hk a.den b.den aa aa;have k9:=y9 (a.num*b.num) (a.den*b.den) (agI a.den_nz b.den_nz) (by rw[ac6];omega) aa;rw[<-Rat.mul_def']at k9;clear m1 m3;refine bB [2,3] Tryz.func69 ?_;intro W0 w0 ρ0 hE;conv=>whnf
 (repeat((first|refine aq aD ?_|refine aN aJ ?_|refine an Q6 ?_|refine an Q9 ?_);conv=>whnf))
 exact au.refl _
theorem Rh (a b:Rat) (h:fs a+fs b<=100000000):C0 69 [fF a,fF b] (fF (a*b)):=ze a b aa
theorem JU (a b:Rat) (hb:b≠0) (h:fs a+fs b<=100000000):C0 73 [fF a,fF b] (fF (a/b)):=by
 have hn:b.num≠0:=λh=>hb (Rat.num_eq_zero.1 h)
 obtain⟨b1,b2⟩:=Hn (q:=b) (ζ _);have k1:=zd b aa;have t1:(b.num.sign==0)=false:=beq_false_of_ne (λh=>hn (Int.sign_eq_zero_iff_zero.1 h));have k2:=uT b aa;have k3:=LI (decide (b.num<0)) b.den aa;have e1:decide (b.num<0)=decide (b.num.sign<0):=decide_eq_decide.2 Int.sign_neg_iff.symm;have k4:=y9 (signed (decide (b.num<0)) b.den) b.num.natAbs aa (by rw[iO];omega) aa;rw[e1,CX hn,<-e1]at k4;have k5:=Rh a b⁻¹ (by have:=PK b;omega);rw[<-Rat.div_def]at k5;refine bB [2,3] Tryz.func73 ?_;intro W0 w0 ρ0 hE;conv=>whnf
 (repeat((first|refine ae rfl rfl ?_|refine aq aD ?_|refine aN aJ ?_|refine an Q6 ?_|refine an Q9 ?_|rw[t1]);conv=>whnf))
 exact au.refl _
theorem afb (n d:Int) (UG: -9223372036854775808<=n) (M3:n<9223372036854775808) (w8: -9223372036854775808<=d) (Ob:d<9223372036854775808) (hd:d≠0):C0 80 [.val (.int .i64 n),.val (.int .i64 d)] (fF ((n:Rat)/(d:Rat))):=by
 have k1:=pZ n UG M3;have k2:=pZ d w8 Ob;have f1:=pO UG M3;have f2:=pO w8 Ob;have k3:=JU (n:Rat) (d:Rat) (λh=>hd (by have:=congrArg Rat.num h;simpa using this)) aa;refine bB [] Tryz.func80 ?_;intro W0 w0 ρ0 hE;conv=>whnf
 (repeat(first|(refine aN aJ ?_;conv=>whnf)))
 exact au.refl _
theorem Ho {P:Program} {o:Oper} {fr:List (Nat×SV)} {fk:List (Nat×aC)} {src dst:TypeId} {x:Operand} {ti td:TI} {kd kd':IntKind} {d:Nat} (ho:o.op= .convert src dst x) (hx:bg fr x (.val (.int kd (d:Nat)))) (hd:d<128)
  (ht:b6 P src ti) (hk:ti.kind= .int kd') (htd:b6 P dst td) (Cw:td.kind= .str):bR P o fr fk (.val (.string ⟨#[aal d]⟩)) [] []:=
 br λρ a w hp=>by
  have hv:=aK (hx ρ a hp.dR);have hu:=ht.kind;rw[hk]at hu;have Z2:=htd.kind;rw[Cw]at Z2;refine⟨_, ?_,ck rfl⟩;have e:ame (d:Int)=⟨#[aal d]⟩:=by
   exact(show ∀d,d<128->ame ((d:Nat):Int)=⟨#[aal d]⟩ by decide+kernel) d hd
  simp only[execOp,ho,hv,convert,Β,run_underlying hu,run_underlying Z2,ν,Conv.intToString,Ε,e]
theorem Dq:∀e n,iz (e+1) (n % 10^(e+1))=aal (48+n/10^e % 10)::iz e (n % 10^e)
 |0,n=>by simp[iz]
 |e+1,n=>by
  have h1:n % 10^(e+2)/10=n/10 % 10^(e+1):=by rw[ϙ 10 (e+1),Ϣ,ahx]
  have h2:n % 10^(e+1)/10=n/10 % 10^e:=by rw[ϙ,Ϣ,ahx]
  have h3:n % 10^(e+2) % 10=n % 10:=aiW _ (aiO (by exact⟨1,rfl⟩) (aiO (show 10 ∣ 10^1 from⟨1,rfl⟩) (ajz 10 aa)));have h4:n % 10^(e+1) % 10=n % 10:=aiW _ (aiO (show 10 ∣ 10^1 from⟨1,rfl⟩) (ajz 10 aa));rw[iz,h1,h3,Dq e (n/10),iz,h2,h4,ϔ,<-Nat.pow_succ'];rfl
theorem rG:∀e n,n<10^(e+1)->(e=0\/10^e<=n)->iz (e+1) n=ώ n
 |0,n,h,_=>by
  have h:n<10:=by simpa using h
  rw[iz,dec_lt h,show n % 10=n by omega];rfl
 |e+1,n,h,h'=>by
  have h2:10^(e+1)<=n:=h'.resolve_left aa;have h10:10<=n:=Ι (Ι ax (ύ (n:=10) ax (show 1<=e+1 by omega))) h2;rw[ϙ]at h
  rw[iz,y6 h10,rG e (n/10) aa (by
   rw[ϙ]at h2
   exact .inr aa)]
theorem JV (c:UInt8) (l:List UInt8):(⟨#[c]⟩:ByteArray)++⟨l.toArray⟩=⟨(c::l).toArray⟩:=by
 apply ByteArray.ext;rw[afl];apply ac0;simp
abbrev dS (l:List UInt8):SV:=.val (.string ⟨l.toArray⟩)
theorem o8:∀k r,(iz k r).length=k
 |0,_=>rfl
 |k+1,r=>by rw[iz,ξ,o8 k];rfl
theorem Ri (n:Nat) (hn:(td n).length<268435456):C0 141 [nN n] (.val (.string (tN n))):=by
 rw[qo];by_cases h0:n=0
 ·subst h0;have t1:(((td 0).length:Int)==0)=true:=rfl;have e:(⟨(ώ 0).toArray⟩:ByteArray)=⟨#[48]⟩:=by rw[dec_lt ax];rfl
  rw[e];refine bB [] Tryz.func141 ?_;intro W0 w0 ρ0 hE;conv=>whnf
  (repeat(first|(refine ag rfl rfl ?_;conv=>whnf)|(refine an Q8 ?_;conv=>whnf)));exact Q4
 have hl0:=gK (n:=n);have t1:(((td n).length:Int)==0)=false:=beq_false_of_ne aa;have uI:=xu h0;have ahp:=gh n;have p10:∀i,(10000:Nat)^i=10^(4*i):=λi=>by rw[ajl]
 refine bB [] Tryz.func141 ?_;intro W0 w0 ρ0 hE;conv=>whnf
 (repeat(first|(refine ae rfl rfl ?_;conv=>whnf)|(refine an Q8 ?_;conv=>whnf)|(rw[t1];conv=>whnf)))
 refine av hE (λk=>k) [0,3,4] [] (λq fr hp=>∃(i:Nat) (l:List UInt8),q=(td n).length - i/\i<=(td n).length/\l.length<=4*i/\(i<(td n).length->l=iz (4*i) (n % 10^(4*i)))/\(i=(td n).length->l=ώ n)/\
  fr=[(0,nN n),(3,dS l),(4,.val (.int .i64 (i:Nat)))]/\hp=[]) (td n).length ?_ ?_ ?_
 ·kernel_rfl
 ·exact⟨0,[],rfl,Γ _,by simp,(λ_=>rfl),(λh=>aa),rfl,rfl⟩
 rintro q _ _ ⟨i,l,rfl,hi,hll,iT,iD,rfl,rfl⟩;conv=>whnf
 by_cases aE:i<(td n).length
 ·have t2:decide ((i:Int)<((td n).length:Int))=true:=decide_eq_true aa;have e1:=bW (i:=i) aa;obtain rfl:=iT aE;clear iT iD hll;have hg:=Bj n i;have hd:n/10000^i % 10000=n/10^(4*i) % 10^4:=by rw[p10]
  have wx:i+1=(td n).length->n/10^(4*i)<10^4/\0<n/10^(4*i):=λh=>by
   rw[<-p10];constructor
   ·rw[acW (acS ax),show(10:Nat)^4=10000^1 from rfl,<-acU,afk,h];exact ahp
   ·exact ajs (by rw[<-h,aeN]at uI;exact uI) (acS ax)
  (repeat((first|refine ag rfl rfl ?_|refine an Q8 ?_|refine an Q6 ?_|refine an As ?_|rw[t2]|rw[hg]);conv=>whnf))
  refine av hE (λk=>k) [0,3,4,5,6] [] (λq fr hp=>∃k:Nat,q=4 - k/\k<=4/\(i+1=(td n).length->k=0\/0<n/10^(4*i+(k - 1)))/\
   fr=[(0,nN n),(3,dS (iz (4*i+k) (n % 10^(4*i+k)))),(4,.val (.int .i64 (i:Nat))),(5,.val (.int .i64 ((n/10^(4*i) % 10^4/10^k:Nat):Int))),(6,.val (.int .i64 (k:Nat)))]/\hp=[]) 4 ?_ ?_ ?_
  ·kernel_rfl
  ·exact⟨0,rfl,Γ _,(λ_=>.inl rfl),by rw[abC,agF,akG,<-hd];rfl,rfl⟩
  rintro q _ _ ⟨k,rfl,hk,ph,rfl,rfl⟩;have hlen:=o8 (4*i+k) (n % 10^(4*i+k));have YG:n/10^(4*i) % 10^4/10^k<10000:=ϓ (ac1 _ _) (ab8 _ ax);have Za:n/10^(4*i) % 10^4/10^k/10=n/10^(4*i) % 10^4/10^(k+1):=by rw[ϔ,<-ϙ]
  have WA:k<4->n/10^(4*i) % 10^4/10^k % 10=n/10^(4*i+k) % 10:=λh=>by
   have e4:(10:Nat)^4=10^k*10^(4 - k):=by rw[<-acU];congr 1;omega
   rw[e4,ahx,ϔ,<-acU];refine aiW _ ?_;exact aiO (show 10 ∣ 10^1 from⟨1,rfl⟩) (ajz 10 aa)
  have hlz:i+1=(td n).length->n/10^(4*i) % 10^4/10^k=n/10^(4*i+k):=λh=>by
   rw[Υ (wx h).1,ϔ,<-acU]
  have ab2:=Dq (4*i+k) n;conv=>whnf
  generalize hD:n/10^(4*i) % 10^4/10^k=D at*;by_cases hk4:k<4
  ·have t3:decide ((k:Int)<4)=true:=decide_eq_true aa;have e2:=bW (i:=k) aa;have ai4:(i+1<(td n).length\/0<D)->True:=λ_=>trivial
   have e3:(D:Int).tmod 10=((D % 10:Nat):Int):=by rw[Ϭ aa];rfl
   have e4:ε.wrap (48+((D % 10:Nat):Int))=((48+D % 10:Nat):Int):=by rw[wrap_i64 aa aa];omega
   have e5:abO.wrap ((48+D % 10:Nat):Int)=((48+D % 10:Nat):Int):=by rw[IntKind.wrap_u8];omega
   have e6:ε.wrap ((D:Int).tdiv 10)=((D/10:Nat):Int):=by rw[ϩ aa];exact wrap_i64 aa aa
   have e7:(D:Int).tdiv 10=((D/10:Nat):Int):=by rw[ϩ aa];rfl
   have jH:(⟨#[aal (48+D % 10)]⟩:ByteArray).size+(⟨(iz (4*i+k) (n % 10^(4*i+k))).toArray⟩:ByteArray).size<=9223372036854775807:=by
    have h1:(⟨(iz (4*i+k) (n % 10^(4*i+k))).toArray⟩:ByteArray).size=4*i+k:=by show(iz _ _).toArray.size=_;rw[af5,hlen]
    have h2:(⟨#[aal (48+D % 10)]⟩:ByteArray).size=1:=rfl;omega
   have Zb:=JV (aal (48+D % 10)) (iz (4*i+k) (n % 10^(4*i+k)));rw[WA hk4]at Zb;rw[<-ab2]at Zb;rw[<-WA hk4]at Zb;by_cases hm:i+1<(td n).length
   ·have t4:decide (((i+1:Nat):Int)<((td n).length:Int))=true:=decide_eq_true aa
    (repeat((first|refine ag rfl rfl ?_|refine ae rfl rfl ?_|refine kA Q3 ?_|refine bn Q3 ?_|refine an er ?_|refine an Q8 ?_|refine⟨_,[],[],Ho rfl (ai rfl) aa (aH.get (t:=5) rfl) rfl (aH.get (t:=9) rfl) rfl,aF,ak, ?_⟩|rw[t3]|rw[e1]|rw[t4]|rw[e3]|rw[e4]|rw[e5]|rw[e6]|rw[Zb]|rw[e2]);conv=>whnf))
    exact⟨4 - (k+1),λk=>k,[0,3,4,5,6],[],aa,aD,k+1,rfl,aa,(λh=>aa),by rw[<-Za];rfl,rfl⟩
   ·have t4:decide (((i+1:Nat):Int)<((td n).length:Int))=false:=decide_eq_false aa;by_cases w8:0<D
    ·have t5:decide ((D:Int)>0)=true:=decide_eq_true aa;have jh:0<n/10^(4*i+(k+1 - 1)):=by rw[aeN,<-hlz aa];exact w8
     (repeat((first|refine ag rfl rfl ?_|refine kA Q3 ?_|refine bn Q3 ?_|refine an er ?_|refine an dZ ?_|refine an Q8 ?_|refine⟨_,[],[],Ho rfl (ai rfl) aa (aH.get (t:=5) rfl) rfl (aH.get (t:=9) rfl) rfl,aF,ak, ?_⟩|rw[t3]|rw[e1]|rw[t4]|rw[t5]|rw[e3]|rw[e4]|rw[e5]|rw[e6]|rw[Zb]|rw[e2]);conv=>whnf))
     exact⟨4 - (k+1),λk=>k,[0,3,4,5,6],[],aa,aD,k+1,rfl,aa,(λ_=>.inr jh),by rw[<-Za];rfl,rfl⟩
    ·have t5:decide ((D:Int)>0)=false:=decide_eq_false aa;have hz:=hlz aa;have vP:iz (4*i+k) (n % 10^(4*i+k))=ώ n:=by
      have Zc:n<10^(4*i+k):=by
       rcases Ϝ n (10^(4*i+k))with g|g
       ·exact g
       ·have:=ajs g (acS (n:=4*i+k) ax);omega
      rcases ph aa with g|g
      ·subst g;have:=(wx aa).2;rw[abC]at hz;omega
      ·obtain⟨k,rfl⟩:∃j,k=j+1:=by
        rcases acX k with g2|g2
        ·subst g2;have:=(wx aa).2;rw[abC]at hz;omega
        ·exact⟨k - 1,aa⟩
       rw[Υ Zc];refine rG (4*i+k) n Zc (.inr ?_);rcases Ϝ n (10^(4*i+k))with g3|g3
       ·rw[aeN,Ϯ g3]at g;omega
       ·exact g3
     (repeat((first|refine ag rfl rfl ?_|refine ae rfl rfl ?_|refine an er ?_|refine an dZ ?_|refine an Q8 ?_|rw[t3]|rw[e1]|rw[t4]|rw[t5]);conv=>whnf))
     exact⟨(td n).length - (i+1),λk=>k,[0,3,4],[],aa,aD,i+1,_,rfl,aa,by rw[o8];omega,(λh=>aa),(λ_=>vP),rfl,rfl⟩
  ·obtain rfl:k=4:=aa;have t3:decide (((4:Nat):Int)<4)=false:=rfl;have vP:i+1=(td n).length->iz (4*i+4) (n % 10^(4*i+4))=ώ n:=λh=>by
    have h1:=(wx h).1;rw[acW (acS ax),<-acU,afk]at h1;have g:=(ph h).resolve_left ax;rw[Υ h1];refine rG (4*i+3) n h1 (.inr ?_);rcases Ϝ n (10^(4*i+3))with g3|g3
    ·rw[show 4 - 1=3 from rfl,Ϯ g3]at g;omega
    ·exact g3
   (repeat((first|refine ae rfl rfl ?_|refine an dZ ?_|rw[t3]|rw[e1]);conv=>whnf))
   exact⟨(td n).length - (i+1),λk=>k,[0,3,4],[],aa,aD,i+1,_,rfl,aa,by rw[o8];omega,(λh=>rfl),vP,rfl,rfl⟩
 ·obtain rfl:i=(td n).length:=aa;have t2:decide (((td n).length:Int)<((td n).length:Int))=false:=decide_eq_false aa;obtain rfl:=iD rfl
  (repeat(first|(refine ae rfl rfl ?_;conv=>whnf)|(refine an Q8 ?_;conv=>whnf)|(rw[t2];conv=>whnf)));exact Q4
theorem WD (z:Int) (hz:sz z.natAbs<=100000000):C0 140 [zZ z] (.val (.string (tZ z))):=by
 have k1:=Ri z.natAbs (ϓ (Bn hz) ax);have hs:=lB z.natAbs;have h1:(ϱ #[45]).size=1:=rfl;have h2:(ϱ #[45]).size+(tN z.natAbs).size<=9223372036854775807:=aa;unfold tZ;refine bB [1] Tryz.func140 ?_;intro W0 w0 ρ0 hE;conv=>whnf
 by_cases hn:z<0
 ·have t1:decide (z<0)=true:=decide_eq_true hn;rw[if_pos hn]
  (repeat((first|refine ag rfl rfl ?_|refine kA Q3 ?_|refine aN aJ ?_|refine an Q6 ?_|refine an Q9 ?_|rw[t1]);conv=>whnf));exact Q4
 ·have t1:decide (z<0)=false:=decide_eq_false hn;rw[if_neg hn]
  (repeat((first|refine ae rfl rfl ?_|refine aN aJ ?_|refine an Q6 ?_|refine an Q9 ?_|rw[t1]);conv=>whnf));exact Q4
theorem WE (q:Rat) (h:fs q<=100000000):C0 74 [fF q] (.val (.string (tQ q))):=by
 have n1:=dJ q;have n2:=dG q;unfold fs at h;have k1:=WD q.num aa;have hdl:(td q.den).length<=100000000:=Bn aa;have k2:=uT q aa;have k3:=Ri q.den aa;have hs:=wg q.num;have La:=lB q.den;have h1:(ϱ #[47]).size=1:=rfl;have h2:(tZ q.num).size+(ϱ #[47]).size<=9223372036854775807:=aa;have h3:(tZ q.num++(ϱ #[47])).size+(tN q.den).size<=9223372036854775807:=by rw[adS];omega
 have hz:=gK (n:=q.den - 1);have hp:=q.den_pos;unfold tQ;refine bB [1] Tryz.func74 ?_;intro W0 w0 ρ0 hE;conv=>whnf
 by_cases hd:q.den=1
 ·have t1:(((td (q.den - 1)).length:Int)==0)=true:=beq_iff_eq.2 aa;rw[if_pos hd]
  (repeat((first|refine ag rfl rfl ?_|refine aN aJ ?_|refine an Q8 ?_|refine an Q6 ?_|refine an Q9 ?_|rw[t1]);conv=>whnf));exact Q4
 ·have t1:(((td (q.den - 1)).length:Int)==0)=false:=beq_false_of_ne aa;rw[if_neg hd]
  (repeat((first|refine ae rfl rfl ?_|refine aq aD ?_|refine kA Q3 ?_|refine aN aJ ?_|refine an Q8 ?_|refine an Q6 ?_|refine an Q9 ?_|rw[t1]);conv=>whnf));exact Q4
abbrev nC (a:List Rat):SV:=bN 3 fF a
abbrev iA (a:List Rat):aC:=⟨69,true,.seq 3 (a.map fF)⟩
theorem uo {z:List Rat} {i:Nat} (hi:i<z.length):iA (z.take (i+1))=⟨69,true,.seq 3 (afH i ((z.take i).map fF)++afH 1 (ajh 0 [fF (z.getD i 0)]))⟩:=by
 have hl:((z.take i).map fF).length=i:=by rw[Χ,ψ];omega
 rw[iA,oQ z i hi,agf,ϛ (l:=(z.take i).map fF) aa];rfl
abbrev Hp:aC:=⟨69,true,.one [.val (.bool false),.val (.slice none 0 0),.val (.slice none 0 0)]⟩
abbrev LJ (q:Rat):aC:=⟨69,true,.one [zZ q.num,nN (q.den - 1)]⟩
theorem ab3 (q:Int×Int) (h:my q):C0 26 [qA q] (fF (qV q)):=by
 have hd:(if q.2<1 then 1 else q.2)≠0:=by have:=h.2;split<;>omega
 have e2:ε.wrap (if (1:Int)>q.2 then 1 else q.2)=(if q.2<1 then 1 else q.2):=wrap_i64 Oa Oa;have k1:=afb q.1 (if q.2<1 then 1 else q.2) h.1.1 h.1.2 Oa Oa hd;refine bB [1] Tryz.func26 ?_;intro W0 w0 ρ0 hE;conv=>whnf
 (repeat((first|refine aN aJ ?_|refine an Q6 ?_|refine an Q9 ?_|rw[e2]);conv=>whnf))
 exact au.refl _
abbrev Hq (l:List (List Rat)):aC:=⟨61,true,.seq 1 (l.map nC)⟩
theorem Dr {l:List (List Rat)} {i:Nat} (hi:i<l.length):Hq (l.take (i+1))=⟨61,true,.seq 1 (afH i ((l.take i).map nC)++afH 1 (ajh 0 [nC (l.getD i [])]))⟩:=by
 have hl:((l.take i).map nC).length=i:=by rw[Χ,ψ];omega
 have e:l.take (i+1)=l.take i++[l.getD i []]:=by rw[List.take_add_one,δ,φ hi];rfl
 rw[Hq,e,agf,ϛ (l:=(l.take i).map nC) aa];rfl
theorem E5 {r c B:Nat} {a:List Rat} (ha:a.length=r*c) (sa:Sm B a):Sm B (fZ r c a):=C4 λ_ _ hi hk=>eM sa ha hk hi
abbrev m4:List Rat:=dp [1,2,3,4]
theorem E6 {F:Rat->Rat->Rat} {r c:Nat} {a b:List Rat} (ha:fa r c a) (hb:fa r c b):fa r c (ω F a b):=⟨ha.r,ha.c,fw ha.n hb.n⟩
theorem JW {r c:Nat} {F:Nat->Nat->Rat} (hr:r<=2048) (hc:c<=2048):fa r c (mk r c F):=⟨hr,hc,eD ..⟩
theorem jW (x:Int) (h:0<=x/\x<256) (m:Int) (hm:0<m/\m<256):abO.wrap (x.tmod m)=x.tmod m/\ε.wrap (x.tmod m)=((x % m).toNat:Nat):=by
 have h1:=Int.emod_nonneg x (show m≠0 by omega);have h2:=Int.emod_lt_of_pos x hm.1;rw[Ϭ h.1];constructor
 ·exact wrap_u8 h1 aa
 ·rw[wrap_i64 aa aa];omega
theorem LK {r s t:Nat} {a b:List Rat} (ha:fa r s a) (hb:fa s t b):fa r t (yy r s t a b):=JW ha.r hb.c
theorem Hr {r c:Nat} {a:List Rat} (ha:fa r c a):fa c r (fZ r c a):=JW ha.c ha.r
