/- The texts Lg. -/
import Derived.Test.YtadphegfhgmgmaaGreatDoorQMModesKnown27
import Derived.Test.YtadphegfhgmgmaaGreatDoorQMModesKnown28
import Derived.Test.YtadphegfhgmgmaaGreatDoorQMModesKnown29
import Derived.Test.YtadphegfhgmgmaaGreatDoorQMModesKnown31
import Derived.Test.YtadphegfhgmgmaaGreatDoorQMModesKnown37
import Derived.Test.YtadphegfhgmgmaaGreatDoorQMModesKnown38
set_option linter.unusedSimpArgs false
set_option linter.unusedVariables false
set_option maxHeartbeats 40000000
set_option maxRecDepth 100000
open Go.IntKind renaming i64->ε,u32->Φ,u8->abO
open Go.Lit renaming int->Ϸ
open Go.Value renaming int->adt
open Int renaming tmod_eq_emod_of_nonneg->Ϭ,toNat_natCast->ι
open List renaming getD_eq_getElem?_getD->δ,length_set->ϒ,map_set->agu,mem_of_mem_drop->Ψ,mem_of_mem_take->Θ,mem_or_eq_of_mem_set->ajE
open Nat renaming le_refl->ζ,zero_add->υ,zero_le->Γ
namespace Go.Sx
theorem mG {E:Env} {c:Code} {K:bF} {fr fr1:List (Nat×SV)} {hp hp1:List (Nat×aC)} (h:∀K':bF,K' .normal fr1 hp1->dY E c K' fr hp) (hk:K .normal fr1 hp1):dY E c K fr hp:=h K hk
end Go.Sx
namespace Go.Proofs.YtadphegfhgmgmaaGreatDoor
open Go.Sx
theorem Uq {n:Int} (h0: -9223372036854775808<=n) (h1:n<9223372036854775808):(Ϸ .i64 n).wf=true:=by
 have f1:ε.min= -9223372036854775808:=rfl;have f2:ε.max=9223372036854775807:=rfl;show(decide (ε.min<=n)&&decide (n<=ε.max))=true;rw[f1,f2,decide_eq_true h0,decide_eq_true aa];rfl
theorem ZD {n:Int} (h0:0<=n) (h1:n<256):(Ϸ .u8 n).wf=true:=by
 have f1:abO.min=0:=rfl;have f2:abO.max=255:=rfl;show(decide (abO.min<=n)&&decide (n<=abO.max))=true;rw[f1,f2,decide_eq_true h0,decide_eq_true aa];rfl
theorem ah8 {n:Int} (h0:0<=n) (h1:n<4294967296):(Ϸ .u32 n).wf=true:=by
 have f1:Φ.min=0:=rfl;have f2:Φ.max=4294967295:=rfl;show(decide (Φ.min<=n)&&decide (n<=Φ.max))=true;rw[f1,f2,decide_eq_true h0,decide_eq_true aa];rfl
theorem Iz {q:Int×Int} (h:my q):((Ϸ .i64 q.1).wf=true)/\((Ϸ .u32 q.2).wf=true):=⟨Uq h.1.1 h.1.2,ah8 h.2.1 h.2.2⟩
theorem afM:25<=maxLen:=ax
theorem xQ {l:List (Int×Int)} (hl:l.length<=25) (h:∀q∈l,my q):yg l:=⟨Nat.le_trans hl afM,λq hq=>Iz (h q hq)⟩
theorem IA {l:List (Int×Int)} {q:Int×Int} (h:∀q∈l,my q) (hq:my q):∀x∈l++[q],my x:=λx hx=>by
 rcases List.mem_append.1 hx with hx|hx
 ·exact h x hx
 ·rcases List.mem_cons.1 hx with rfl|hx
  ·exact hq
  ·cases hx
abbrev IB (l:List (Int×Int)):aC:=⟨25,true,.seq 2 (l.map qA)⟩
theorem DN {l:List (Int×Int)} {i:Nat} (hl:l.length=i) (q:Int×Int):IB (l++[q])=⟨25,true,.seq 2 (List.take i (l.map qA)++[qA q])⟩:=by
 rw[IB,List.map_append,List.take_of_length_le (by simp;omega)];rfl
theorem BW:C0 3 [] (.val (.bool true)):=by
 have kw:=gX;refine kg [6,7,165,227,232,237,100012,100014,100015,100016,100018] Tryz.func3 ?_;intro w0 ρ0 hE;conv=>whnf
 skip
 refine av hE (λk=>k) [1,2] [] (λM fr hp=>∃n k:Nat,M=12 - n/\n<=12/\k<100003/\fr=[(1,iv (k:Nat)),(2,iv (n:Nat))]/\hp=[]) 12 ?_ ?_ ?_
 ·kernel_rfl
 ·exact⟨0,1,rfl,Γ _,ax,rfl,rfl⟩
 rintro M _ _ ⟨n,k,rfl,hn,hk,rfl,rfl⟩;conv=>whnf
 by_cases aE:n<12
 ·have t1:decide (((n:Nat):Int)<12)=true:=decide_eq_true aa;have t2:=bW (i:=n) aa
  (repeat(first|(refine ay t1 ?_;conv=>whnf)|(rw[t1];conv=>whnf)))
  refine dD (t:=3) (k:=2001) (s:=2) (blk:=IB []) rfl rfl rfl ?_;refine dD (t:=4) (k:=2002) (s:=2) (blk:=IB []) rfl rfl rfl ?_
  refine cG hE (λk=>k) [1,2,3,4,5] [2001,2002] (λM fr hp=>∃(i k:Nat) (la lb:List (Int×Int)),M=20 - i/\i<=20/\k<100003/\la.length=i/\lb.length=i/\(∀q∈la,my q)/\(∀q∈lb,my q)/\
   fr=[(1,iv (k:Nat)),(2,iv (n:Nat)),(3,.aM 2001 2 0 i),(4,.aM 2002 2 0 i),(5,iv (i:Nat))]/\hp=[(2001,IB la),(2002,IB lb)]) 20 ?_ ?_ ?_
  ·kernel_rfl
  ·exact⟨0,k,[],[],rfl,Γ _,hk,rfl,rfl,λq hq=>(by cases hq),λq hq=>(by cases hq),rfl,rfl⟩
  clear hk k;rintro M _ _ ⟨i,k,la,lb,rfl,hi,hk,hla,Vy,hoa,jH,rfl,rfl⟩;have lqa:(la.map qA).length=i:=by simp;omega
  have lqb:(lb.map qA).length=i:=by simp;omega
  by_cases hli:i<20
  ·have t3:decide (((i:Nat):Int)<20)=true:=decide_eq_true aa;have t4:=bW (i:=i) aa;have e1:Hid (ε.wrap (((k:Nat):Int).tmod 9 - 4)=((k % 9:Nat):Int) - 4):=show ε.wrap (((k:Nat):Int).tmod 9 - 4)=((k % 9:Nat):Int) - 4 from by rw[Ϭ aa,wrap_i64 aa aa];omega
   have e2:Hid (Φ.wrap (((k:Nat):Int).tmod 3)=((k % 3:Nat):Int)):=show Φ.wrap (((k:Nat):Int).tmod 3)=((k % 3:Nat):Int)from by rw[Ϭ aa,wrap_u32 aa aa];omega
   have e3:Hid (ε.wrap (((k:Nat):Int).tdiv 7)=((k/7:Nat):Int)):=show ε.wrap (((k:Nat):Int).tdiv 7)=((k/7:Nat):Int)from wrap_i64 (n:=((k/7:Nat):Int)) aa aa
   have e4:Hid (ε.wrap (((k/7:Nat):Int).tmod 5 - 2)=((k/7 % 5:Nat):Int) - 2):=show ε.wrap (((k/7:Nat):Int).tmod 5 - 2)=((k/7 % 5:Nat):Int) - 2 from by rw[Ϭ aa,wrap_i64 aa aa];omega
   have e7:Hid (ε.wrap (((k:Nat):Int)*31)=((k*31:Nat):Int)):=show ε.wrap (((k:Nat):Int)*31)=((k*31:Nat):Int)from by rw[wrap_i64 aa aa];omega
   have e8:Hid (ε.wrap (7*((i:Nat):Int))=((7*i:Nat):Int)):=show ε.wrap (7*((i:Nat):Int))=((7*i:Nat):Int)from by rw[wrap_i64 aa aa];omega
   have e9:Hid (ε.wrap (((k*31:Nat):Int)+((7*i:Nat):Int))=((k*31+7*i:Nat):Int)):=show ε.wrap (((k*31:Nat):Int)+((7*i:Nat):Int))=((k*31+7*i:Nat):Int)from by rw[wrap_i64 aa aa];omega
   have GG:Hid (ε.wrap (((k*31+7*i:Nat):Int)+11)=((k*31+7*i+11:Nat):Int)):=show ε.wrap (((k*31+7*i:Nat):Int)+11)=((k*31+7*i+11:Nat):Int)from by rw[wrap_i64 aa aa];omega
   have qa:my (((k % 9:Nat):Int) - 4,((k % 3:Nat):Int)):=⟨⟨by show _<=_ - _;omega,by show _ - _<_;omega⟩,⟨by show 0<=_;omega,by show _<_;omega⟩⟩;have qb:my (((k/7 % 5:Nat):Int) - 2,1):=⟨⟨by show _<=_ - _;omega,by show _ - _<_;omega⟩,⟨by show(0:Int)<=1;decide,by show(1:Int)<4294967296;decide⟩⟩;have sa:=DN hla (((k % 9:Nat):Int) - 4,((k % 3:Nat):Int));have sb:=DN Vy (((k/7 % 5:Nat):Int) - 2,1);refine dY.of hE ?_;conv=>whnf
   (repeat(first|(refine bn Q3 ?_;conv=>whnf)|(refine ay t3 ?_;conv=>whnf)|(refine And.intro (by simp only[adF,gu,List.length_map,List.length_append,List.length_cons,List.length_nil];omega) ?_;conv=>whnf)|(rw[t3];conv=>whnf)|(rw[e1.out];conv=>whnf)|(rw[e2.out];conv=>whnf)|(rw[e3.out];conv=>whnf)|(rw[e4.out];conv=>whnf)|(rw[e7.out];conv=>whnf)|(rw[e8.out];conv=>whnf)|(rw[e9.out];conv=>whnf)|(rw[GG.out];conv=>whnf)|(rw[t4];conv=>whnf)))
   refine⟨20 - (i+1),dA [(38,2001),(46,2002)],[1,2,3,4,5],[38,46],aa,aD,i+1,(k*31+7*i+11) % 100003,la++[(((k % 9:Nat):Int) - 4,((k % 3:Nat):Int))],lb++[(((k/7 % 5:Nat):Int) - 2,1)],rfl,hli,aa,by simp;omega,by simp;omega,IA hoa qa,IA jH qb,rfl, ?_⟩;rw[sa,sb];rfl
  ·have t3:decide (((i:Nat):Int)<20)=false:=decide_eq_false aa;obtain rfl:i=20:=aa;refine dY.of hE ?_;conv=>whnf
   (repeat(first|(refine ae rfl rfl ?_;conv=>whnf)|(rw[t3];conv=>whnf)))
   by_cases hz:n % 3=0
   ·have t5:(((n:Nat):Int).tmod 3==0)=true:=beq_iff_eq.2 (by rw[Ϭ aa];omega);have q0:my (0,0):=⟨⟨ax,ax⟩,⟨ax,ax⟩⟩;obtain⟨lc,hlc⟩:∃lc,(la.set 0 (0,0)).set 2 (0,0)=lc:=⟨_,rfl⟩;have hll:lc.length=20:=by rw[<-hlc,ϒ,ϒ];exact hla
    have FO:∀q∈lc,my q:=λq hq=>by
     rw[<-hlc]at hq;rcases ajE hq with hq|rfl
     ·rcases ajE hq with hq|rfl
      ·exact hoa q hq
      ·exact q0
     ·exact q0
    have nv:IB lc=⟨25,true,.seq 2 (((la.map qA).set 0 (qA (0,0))).set 2 (qA (0,0)))⟩:=by rw[IB,<-hlc,agu,agu]
    have g1:(la.map qA).getD (0+(0:Int).toNat) .any=qA (la.getD 0 (0,0)):=nQ (d:=((0,0):Int×Int)) aa;have g2:((la.map qA).set (0+(0:Int).toNat) (qA (0,0))).getD (0+(2:Int).toNat) .any=qA (la.getD 2 (0,0)):=by
     show((la.map qA).set 0 (qA (0,0))).getD 2 .any=_;rw[δ,List.getElem?_set_ne ax,<-δ];exact nQ (d:=((0,0):Int×Int)) aa
    have g3:((la.map qA).set (Int.toNat 0) (SV.agg [SV.val (adt ε 0),SV.val (adt Φ 0)])).getD (Int.toNat 2) SV.any=qA (la.getD 2 (0,0)):=by
     have h:=g2;rw[υ,υ]at h;exact h
    refine cv hE ?_;conv=>whnf
    (repeat(first|(refine ao Q3 ?_;conv=>whnf)|(refine bn Q3 ?_;conv=>whnf)|(refine ay t5 ?_;conv=>whnf)|(refine pg rfl (ai rfl) (ai rfl) rfl (ez rfl) (congrArg (λc=>some (some _,[c])) g1) (by show 0<_;omega) rfl (ζ _) rfl rfl ?_;conv=>whnf)|(refine pg rfl (ai rfl) (ai rfl) rfl (ez rfl) (congrArg (λc=>some (some _,[c])) g2) (by rw[ϒ];show 2<_;omega) rfl (ζ _) rfl rfl ?_;conv=>whnf)|(rw[t5];conv=>whnf)|(rw[g1];conv=>whnf)|(rw[g3];conv=>whnf)|(rw[υ];conv=>whnf)))
    have eqc:lc.map qA=((la.map qA).set 0 (qA (0,0))).set 2 (qA (0,0)):=by rw[<-hlc,agu,agu]
    refine qk (s:=2) 2001 (lc.map qA) rfl (λρ z h=>by rw[eqc];exact h) (λx hx=>by
     obtain⟨q,_,rfl⟩:=List.mem_map.1 hx
     rfl) (λh=>by rw[eqc];exact h) ?_
    clear nv eqc g1 g2 q0 hlc hla hoa;have qT:my (((k % 7:Nat):Int) - 3,2):=⟨⟨by show _<=_ - _;omega,by show _ - _<_;omega⟩,⟨by show(0:Int)<=2;decide,by show(2:Int)<4294967296;decide⟩⟩;have qX:my (((n:Nat):Int) - 5,3):=⟨⟨by show _<=_ - _;omega,by show _ - _<_;omega⟩,⟨by show(0:Int)<=3;decide,by show(3:Int)<4294967296;decide⟩⟩;have wT:=Iz qT;have wX:=Iz qX;have wl:yg lc:=xQ aa FO;have wb:yg lb:=xQ aa jH;have wl3:yg ((lc.drop 3).take (lc.length - 3)):=xQ (by simp;omega) (λq hq=>FO q (Ψ (Θ hq)));have un:(Ϸ .u8 ((n:Nat):Int)).wf=true:=ZD aa aa;have uh:(Ϸ .u8 ((n/2:Nat):Int)).wf=true:=ZD aa aa;have u3:(Ϸ .u8 ((n % 3:Nat):Int)).wf=true:=ZD aa aa;have u4:(Ϸ .u8 ((n % 4:Nat):Int)).wf=true:=ZD aa aa;have k1:=rO lc lb ((n:Nat):Int) (((k % 7:Nat):Int) - 3,2) wl wb un wT;have k2:=pc lc lb ((lc.drop 3).take (lc.length - 3)) ((n:Nat):Int) (((k % 7:Nat):Int) - 3,2) wl wb wl3 un wT;have k3:=rL lc lb ((n:Nat):Int) (((k % 7:Nat):Int) - 3,2) (((n:Nat):Int) - 5,3) (((k % 7:Nat):Int) - 3,2) wl wb un wT wX wT;have k4:=pd lc lb ((n:Nat):Int) ((n/2:Nat):Int) ((n:Nat):Int) ((n:Nat):Int) wl wb un uh un un;have k5:=rM lc lb ((n:Nat):Int) wl wb un;have k6:=nZ lc lb lb ((n:Nat):Int) (((k % 7:Nat):Int) - 3,2) (((n:Nat):Int) - 5,3) wl wb wb un wT wX;have k7:=nq lc lb ((n:Nat):Int) (((k % 7:Nat):Int) - 3,2) wl wb un wT;have k8:=dQ lc ((n % 3:Nat):Int) ((n % 4:Nat):Int) ((n % 3:Nat):Int) ((n:Nat):Int) (((n:Nat):Int) - 3) ((n*10:Nat):Int) wl u3 u4 u3 un (Uq aa aa) (Uq aa aa);have e1:Hid (ε.wrap (((k:Nat):Int).tmod 7 - 3)=((k % 7:Nat):Int) - 3):=show ε.wrap (((k:Nat):Int).tmod 7 - 3)=((k % 7:Nat):Int) - 3 from by rw[Ϭ aa,wrap_i64 aa aa];omega
    have e2:Hid (ε.wrap (((n:Nat):Int) - 5)=((n:Nat):Int) - 5):=show ε.wrap (((n:Nat):Int) - 5)=((n:Nat):Int) - 5 from wrap_i64 aa aa
    have e3:Hid (abO.wrap ((n:Nat):Int)=((n:Nat):Int)):=show abO.wrap ((n:Nat):Int)=((n:Nat):Int)from wrap_u8 aa aa
    have e4:Hid (abO.wrap (((n:Nat):Int).tdiv 2)=((n/2:Nat):Int)):=show abO.wrap (((n:Nat):Int).tdiv 2)=((n/2:Nat):Int)from wrap_u8 (n:=((n/2:Nat):Int)) aa aa
    have e5:Hid (ε.wrap (((n:Nat):Int) - 3)=((n:Nat):Int) - 3):=show ε.wrap (((n:Nat):Int) - 3)=((n:Nat):Int) - 3 from wrap_i64 aa aa
    have e6:Hid (ε.wrap (((n:Nat):Int)*10)=((n*10:Nat):Int)):=show ε.wrap (((n:Nat):Int)*10)=((n*10:Nat):Int)from by rw[wrap_i64 aa aa];omega
    have e7:Hid (((n:Nat):Int).tmod 3=((n % 3:Nat):Int)):=show((n:Nat):Int).tmod 3=((n % 3:Nat):Int)from rfl
    have e8:Hid (((n:Nat):Int).tmod 4=((n % 4:Nat):Int)):=show((n:Nat):Int).tmod 4=((n % 4:Nat):Int)from rfl
    refine ec 3 2001 (λ_ h=>h) (λ_=>rfl) rfl rfl hll.symm ?_;refine ec 4 2002 (λ_ h=>h) (λ_=>rfl) rfl rfl Vy.symm ?_;have hl3:3<=lc.length:=aa;clear qT qX wT wX wl wb wl3 un uh u3 u4 lqa lqb FO jH;refine mG (fr1:= ?fr142) (hp1:= ?hp142) (λK hK=>cv hE ?ra142) ?rb142
    case ra142=>
     conv=>whnf
     (repeat(first|(refine bn Q3 ?_;conv=>whnf)|(rw[e1.out];conv=>whnf)|(rw[e2.out];conv=>whnf)))
     exact hK
    conv=>whnf
    skip
    refine mG (fr1:= ?fr152) (hp1:= ?hp152) (λK hK=>cv hE ?ra152) ?rb152
    case ra152=>
     conv=>whnf
     (repeat(first|(rw[e3.out];conv=>whnf)))
     exact hK
    conv=>whnf
    skip
    refine mG (fr1:= ?fr162) (hp1:= ?hp162) (λK hK=>cv hE ?ra162) ?rb162
    case ra162=>
     conv=>whnf
     (repeat((first|refine ag rfl rfl ?_|refine aq aD ?_|refine bn Q3 ?_|refine aN aJ ?_|refine an dZ ?_|refine an Q20 ?_|rw[e4.out]|rw[e5.out]|rw[e6.out]|rw[e7.out]|rw[e8.out]|rw[ι]);conv=>whnf))
     exact hK
    conv=>whnf
    (repeat(first|(refine ae rfl rfl ?_;conv=>whnf)))
    rw[t2];exact⟨12 - (n+1),λk=>k,[1,2],[],aa,aD,n+1,k,rfl,aE,hk,rfl,rfl⟩
   ·have t5:(((n:Nat):Int).tmod 3==0)=false:=beq_eq_false_iff_ne.2 (by rw[Ϭ aa];omega);have hll:=hla;have FO:=hoa;refine cv hE ?_;conv=>whnf
    (repeat(first|(refine bn Q3 ?_;conv=>whnf)|(refine aG t5 ?_;conv=>whnf)|(rw[t5];conv=>whnf)))
    have qT:my (((k % 7:Nat):Int) - 3,2):=⟨⟨by show _<=_ - _;omega,by show _ - _<_;omega⟩,⟨by show(0:Int)<=2;decide,by show(2:Int)<4294967296;decide⟩⟩;have qX:my (((n:Nat):Int) - 5,3):=⟨⟨by show _<=_ - _;omega,by show _ - _<_;omega⟩,⟨by show(0:Int)<=3;decide,by show(3:Int)<4294967296;decide⟩⟩;have wT:=Iz qT;have wX:=Iz qX;have wl:yg la:=xQ aa FO;have wb:yg lb:=xQ aa jH;have wl3:yg ((la.drop 3).take (la.length - 3)):=xQ (by simp;omega) (λq hq=>FO q (Ψ (Θ hq)));have un:(Ϸ .u8 ((n:Nat):Int)).wf=true:=ZD aa aa;have uh:(Ϸ .u8 ((n/2:Nat):Int)).wf=true:=ZD aa aa;have u3:(Ϸ .u8 ((n % 3:Nat):Int)).wf=true:=ZD aa aa;have u4:(Ϸ .u8 ((n % 4:Nat):Int)).wf=true:=ZD aa aa;have k1:=rO la lb ((n:Nat):Int) (((k % 7:Nat):Int) - 3,2) wl wb un wT;have k2:=pc la lb ((la.drop 3).take (la.length - 3)) ((n:Nat):Int) (((k % 7:Nat):Int) - 3,2) wl wb wl3 un wT;have k3:=rL la lb ((n:Nat):Int) (((k % 7:Nat):Int) - 3,2) (((n:Nat):Int) - 5,3) (((k % 7:Nat):Int) - 3,2) wl wb un wT wX wT;have k4:=pd la lb ((n:Nat):Int) ((n/2:Nat):Int) ((n:Nat):Int) ((n:Nat):Int) wl wb un uh un un;have k5:=rM la lb ((n:Nat):Int) wl wb un;have k6:=nZ la lb lb ((n:Nat):Int) (((k % 7:Nat):Int) - 3,2) (((n:Nat):Int) - 5,3) wl wb wb un wT wX;have k7:=nq la lb ((n:Nat):Int) (((k % 7:Nat):Int) - 3,2) wl wb un wT;have k8:=dQ la ((n % 3:Nat):Int) ((n % 4:Nat):Int) ((n % 3:Nat):Int) ((n:Nat):Int) (((n:Nat):Int) - 3) ((n*10:Nat):Int) wl u3 u4 u3 un (Uq aa aa) (Uq aa aa);have e1:Hid (ε.wrap (((k:Nat):Int).tmod 7 - 3)=((k % 7:Nat):Int) - 3):=show ε.wrap (((k:Nat):Int).tmod 7 - 3)=((k % 7:Nat):Int) - 3 from by rw[Ϭ aa,wrap_i64 aa aa];omega
    have e2:Hid (ε.wrap (((n:Nat):Int) - 5)=((n:Nat):Int) - 5):=show ε.wrap (((n:Nat):Int) - 5)=((n:Nat):Int) - 5 from wrap_i64 aa aa
    have e3:Hid (abO.wrap ((n:Nat):Int)=((n:Nat):Int)):=show abO.wrap ((n:Nat):Int)=((n:Nat):Int)from wrap_u8 aa aa
    have e4:Hid (abO.wrap (((n:Nat):Int).tdiv 2)=((n/2:Nat):Int)):=show abO.wrap (((n:Nat):Int).tdiv 2)=((n/2:Nat):Int)from wrap_u8 (n:=((n/2:Nat):Int)) aa aa
    have e5:Hid (ε.wrap (((n:Nat):Int) - 3)=((n:Nat):Int) - 3):=show ε.wrap (((n:Nat):Int) - 3)=((n:Nat):Int) - 3 from wrap_i64 aa aa
    have e6:Hid (ε.wrap (((n:Nat):Int)*10)=((n*10:Nat):Int)):=show ε.wrap (((n:Nat):Int)*10)=((n*10:Nat):Int)from by rw[wrap_i64 aa aa];omega
    have e7:Hid (((n:Nat):Int).tmod 3=((n % 3:Nat):Int)):=show((n:Nat):Int).tmod 3=((n % 3:Nat):Int)from rfl
    have e8:Hid (((n:Nat):Int).tmod 4=((n % 4:Nat):Int)):=show((n:Nat):Int).tmod 4=((n % 4:Nat):Int)from rfl
    refine ec 3 2001 (λ_ h=>h) (λ_=>rfl) rfl rfl hll.symm ?_;refine ec 4 2002 (λ_ h=>h) (λ_=>rfl) rfl rfl Vy.symm ?_;have hl3:3<=la.length:=aa;clear qT qX wT wX wl wb wl3 un uh u3 u4 lqa lqb FO jH;refine mG (fr1:= ?fr141) (hp1:= ?hp141) (λK hK=>cv hE ?ra141) ?rb141
    case ra141=>
     conv=>whnf
     (repeat(first|(refine bn Q3 ?_;conv=>whnf)|(rw[e1.out];conv=>whnf)|(rw[e2.out];conv=>whnf)))
     exact hK
    conv=>whnf
    skip
    refine mG (fr1:= ?fr151) (hp1:= ?hp151) (λK hK=>cv hE ?ra151) ?rb151
    case ra151=>
     conv=>whnf
     (repeat(first|(rw[e3.out];conv=>whnf)))
     exact hK
    conv=>whnf
    skip
    refine mG (fr1:= ?fr161) (hp1:= ?hp161) (λK hK=>cv hE ?ra161) ?rb161
    case ra161=>
     conv=>whnf
     (repeat((first|refine ag rfl rfl ?_|refine aq aD ?_|refine bn Q3 ?_|refine aN aJ ?_|refine an dZ ?_|refine an Q20 ?_|rw[e4.out]|rw[e5.out]|rw[e6.out]|rw[e7.out]|rw[e8.out]|rw[ι]);conv=>whnf))
     exact hK
    conv=>whnf
    (repeat(first|(refine ae rfl rfl ?_;conv=>whnf)))
    rw[t2];exact⟨12 - (n+1),λk=>k,[1,2],[],aa,aD,n+1,k,rfl,aE,hk,rfl,rfl⟩
 ·have t1:decide (((n:Nat):Int)<12)=false:=decide_eq_false aa;obtain rfl:n=12:=aa
  (repeat(first|(refine ae rfl rfl ?_;conv=>whnf)|(rw[t1];conv=>whnf)))
  have c1:=ah0;have c2:=ah1;have c3:=ah2;have c4:=ah3;have c5:=ah4;have c6:=ah5;have c7:=ah6;have c8:=ah7;have o1:=LA 1 ax;rw[acM]at o1;have o2:=LA 65 ax;have o3:=LA 2 ax;rw[Sv]at o3;have o4:=Ws 2 2 [1,2,2,1] ax ax rfl ax;obtain⟨n9,h9⟩:∃n9:Nat,n9=2049:=⟨_,rfl⟩;have kq:=e_q n9 h9;have h8:(2049:Int)=(n9:Int):=aa
  have wq:yg [(1,1)]:=⟨ax,λx hx=>by
   obtain rfl:=List.mem_singleton.1 hx
   exact⟨rfl,rfl⟩⟩
  have wn:yg []:=⟨ax,λx hx=>by cases hx⟩;have z0:(Ϸ .u8 0).wf=true:=rfl;have z1:(Ϸ .u8 1).wf=true:=rfl;have r1:=dQ [(1,1)] 1 1 1 1 0 100 wq z1 z1 z1 z1 rfl rfl;have r2:=dQ [(1,1)] 1 1 1 1 0 101 wq z1 z1 z1 z1 rfl rfl;have r3:=dQ [(1,1)] 1 1 1 1 (-1) 101 wq z1 z1 z1 z1 rfl rfl;have r4:=(dQ [] 0 0 0 0 0 0 wn z0 z0 z0 z0 rfl rfl).wk (args:=[.val (.slice none 0 0),gB .u8 0,gB .u8 0,gB .u8 0,gB .u8 0,gB .i64 0,gB .i64 0]) Q18;have r5:=(dQ [] 1 1 1 0 9223372036854775807 (-9223372036854775808) wn z1 z1 z1 z0 rfl rfl).wk (args:=[.val (.slice none 0 0),gB .u8 1,gB .u8 1,gB .u8 1,gB .u8 0,gB .i64 9223372036854775807,gB .i64 (-9223372036854775808)]) Q18;clear h9 wq wn z0 z1 hn hk;generalize Cj 65=I6 at*;refine Bo 150 (blk:=eJ []) rfl rfl ?_;refine Bo 219 (blk:=eJ []) rfl rfl ?_;refine cv hE ?_;conv=>whnf
  (repeat((first|refine ag rfl rfl ?_|refine ae rfl rfl ?_|refine aq aD ?_|refine aN aJ ?_|refine an (acK h8 rfl) ?_|refine an (acJ rfl) ?_|refine an dZ ?_);conv=>whnf))
  (repeat(first|(refine ag rfl rfl ?_;conv=>whnf)|(refine aN aJ ?_;conv=>whnf)|(refine an er ?_;conv=>whnf)));exact Q4
