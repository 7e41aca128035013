/- The texts Le. -/
import Derived.Test.YtfpagioknjjacaaGreatDoorQMElimsKnown17
import Derived.Test.YtfpagioknjjacaaGreatDoorQMElimsKnown19
import Derived.Test.YtfpagioknjjacaaGreatDoorQMElimsKnown20
import Derived.Test.YtfpagioknjjacaaGreatDoorQMElimsKnown22
import Derived.Test.YtfpagioknjjacaaGreatDoorQMElimsKnown24
import Derived.Test.YtfpagioknjjacaaGreatDoorQMElimsKnown26
import Derived.Test.YtfpagioknjjacaaGreatDoorQMElimsKnown28
import Derived.Test.YtfpagioknjjacaaGreatDoorQMElimsKnown30
namespace Go.Sx
set_option linter.unusedSimpArgs false
set_option linter.unusedVariables false
theorem AI {E:Env} {c:Code} {K:bI} {fr fr1:List (Nat×SV)} {hp hp1:List (Nat×aF)} (h:∀K':bI,K' .normal fr1 hp1→ey E c K' fr hp) (hk:K .normal fr1 hp1):ey E c K fr hp:=h K hk
end Go.Sx
namespace Go.Proofs.YtfpagioknjjacaaGreatDoor
open Go.Sx
set_option linter.unusedSimpArgs false
set_option linter.unusedVariables false
set_option maxRecDepth 100000
set_option maxHeartbeats 40000000
theorem My {n:Int} (h0: -9223372036854775808≤n) (h1:n<9223372036854775808):(Lit.int .i64 n).wf=true:=by
 have f1:IntKind.i64.min= -9223372036854775808:=rfl
 have f2:IntKind.i64.max=9223372036854775807:=rfl
 show(decide (IntKind.i64.min≤n)&&decide (n≤IntKind.i64.max))=true
 rw[f1,f2,decide_eq_true h0,decide_eq_true aa];rfl
theorem MA {n:Int} (h0:0≤n) (h1:n<256):(Lit.int .u8 n).wf=true:=by
 have f1:IntKind.u8.min=0:=rfl
 have f2:IntKind.u8.max=255:=rfl
 show(decide (IntKind.u8.min≤n)&&decide (n≤IntKind.u8.max))=true
 rw[f1,f2,decide_eq_true h0,decide_eq_true aa];rfl
theorem aey {n:Int} (h0:0≤n) (h1:n<4294967296):(Lit.int .u32 n).wf=true:=by
 have f1:IntKind.u32.min=0:=rfl
 have f2:IntKind.u32.max=4294967295:=rfl
 show(decide (IntKind.u32.min≤n)&&decide (n≤IntKind.u32.max))=true
 rw[f1,f2,decide_eq_true h0,decide_eq_true aa];rfl
theorem Ri {q:Int×Int} (h:ue q):((Lit.int .i64 q.1).wf=true)∧((Lit.int .u32 q.2).wf=true):=⟨My h.1.1 h.1.2,aey h.2.1 h.2.2⟩
theorem Rj:25≤maxLen:=aI
theorem yJ {l:List (Int×Int)} (hl:l.length≤25) (h:∀q∈l,ue q):Kq l:=⟨Nat.le_trans hl Rj,fun q hq=>Ri (h q hq)⟩
theorem FR {A B:Nat} {l:List (Int×Int)} (hA:A<256) (hB:B<256) (hl:l.length≤25) (h:∀q∈l,ue q):GL ((A:Int),(B:Int),l):=⟨MA (Int.natCast_nonneg _) (by show(A:Int)<256;omega),MA (Int.natCast_nonneg _) (by show(B:Int)<256;omega),yJ hl h⟩
theorem D6 {l:List (Int×Int)} {q:Int×Int} (h:∀q∈l,ue q) (hq:ue q):∀x∈l++[q],ue x:=fun x hx=>by
 rcases List.mem_append.1 hx with hx|hx
 ·exact h x hx
 ·rcases List.mem_cons.1 hx with rfl|hx
  ·exact hq
  ·cases hx
abbrev Iw (l:List (Int×Int)):aF:=⟨25,true,.seq 2 (l.map qA)⟩
theorem AJ {l:List (Int×Int)} {i:Nat} (hl:l.length=i) (q:Int×Int):Iw (l++[q])=⟨25,true,.seq 2 (List.take i (l.map qA)++[qA q])⟩:=by
 rw[Iw,List.map_append,List.take_of_length_le (by simp;omega)];rfl
theorem yK:ab Tryz.prog 4 [] [] (.val (.bool true)) [] []:=by
 have kw:=eP
 refine fZ [6,7,66,100012,100013] Tryz.func4 ?_
 intro w0 ρ0 hE
 conv=>whnf
 skip
 refine aj hE (fun k=>k) [1,2] [] (fun M fr hp=>∃n k:Nat,M=14 - n∧n≤14∧k<100003∧fr=[(1,iv (k:Nat)),(2,iv (n:Nat))]∧hp=[]) 14 ?_ ?_ ?_
 ·kernel_rfl
 ·exact⟨0,1,rfl,Nat.zero_le _,aI,rfl,rfl⟩
 rintro M _ _ ⟨n,k,rfl,hn,hk,rfl,rfl⟩
 conv=>whnf
 by_cases aE:n<14
 ·have t1:decide (((n:Nat):Int)<14)=true:=decide_eq_true aa
  have t2:=br (i:=n) aa
  (repeat(first|(refine ao t1 ?_;conv=>whnf)|(rw[t1];conv=>whnf)))
  refine ct (t:=3) (k:=2001) (s:=2) (blk:=Iw []) rfl rfl rfl ?_
  refine ct (t:=4) (k:=2002) (s:=2) (blk:=Iw []) rfl rfl rfl ?_
  refine dE hE (fun k=>k) [1,2,3,4,5] [2001,2002] (fun M fr hp=>∃(i k:Nat) (la lb:List (Int×Int)),M=25 - i∧i≤25∧k<100003∧la.length=i∧lb.length=i∧(∀q∈la,ue q)∧(∀q∈lb,ue q)∧
   fr=[(1,iv (k:Nat)),(2,iv (n:Nat)),(3,.aO 2001 2 0 i),(4,.aO 2002 2 0 i),(5,iv (i:Nat))]∧hp=[(2001,Iw la),(2002,Iw lb)]) 25 ?_ ?_ ?_
  ·kernel_rfl
  ·exact⟨0,k,[],[],rfl,Nat.zero_le _,hk,rfl,rfl,fun q hq=>(by cases hq),fun q hq=>(by cases hq),rfl,rfl⟩
  clear hk k
  rintro M _ _ ⟨i,k,la,lb,rfl,hi,hk,hla,Qx,hoa,ju,rfl,rfl⟩
  have lqa:(la.map qA).length=i:=by simp;omega
  have lqb:(lb.map qA).length=i:=by simp;omega
  by_cases hli:i<25
  ·have t3:decide (((i:Nat):Int)<25)=true:=decide_eq_true aa
   have t4:=br (i:=i) aa
   have e1:Hid (IntKind.i64.wrap (((k:Nat):Int).tmod 7 - 3)=((k % 7:Nat):Int) - 3):=show IntKind.i64.wrap (((k:Nat):Int).tmod 7 - 3)=((k % 7:Nat):Int) - 3 from by rw[Int.tmod_eq_emod_of_nonneg aa,wrap_i64 aa aa];omega
   have e2:Hid (IntKind.u32.wrap (((k:Nat):Int).tmod 3)=((k % 3:Nat):Int)):=show IntKind.u32.wrap (((k:Nat):Int).tmod 3)=((k % 3:Nat):Int)from by rw[Int.tmod_eq_emod_of_nonneg aa,wrap_u32 aa aa];omega
   have e3:Hid (IntKind.i64.wrap (((k:Nat):Int).tdiv 7)=((k/7:Nat):Int)):=show IntKind.i64.wrap (((k:Nat):Int).tdiv 7)=((k/7:Nat):Int)from wrap_i64 (n:=((k/7:Nat):Int)) aa aa
   have e4:Hid (IntKind.i64.wrap (((k/7:Nat):Int).tmod 9 - 4)=((k/7 % 9:Nat):Int) - 4):=show IntKind.i64.wrap (((k/7:Nat):Int).tmod 9 - 4)=((k/7 % 9:Nat):Int) - 4 from by rw[Int.tmod_eq_emod_of_nonneg aa,wrap_i64 aa aa];omega
   have e7:Hid (IntKind.i64.wrap (((k:Nat):Int)*31)=((k*31:Nat):Int)):=show IntKind.i64.wrap (((k:Nat):Int)*31)=((k*31:Nat):Int)from by rw[wrap_i64 aa aa];omega
   have e8:Hid (IntKind.i64.wrap (7*((i:Nat):Int))=((7*i:Nat):Int)):=show IntKind.i64.wrap (7*((i:Nat):Int))=((7*i:Nat):Int)from by rw[wrap_i64 aa aa];omega
   have e9:Hid (IntKind.i64.wrap (((k*31:Nat):Int)+((7*i:Nat):Int))=((k*31+7*i:Nat):Int)):=show IntKind.i64.wrap (((k*31:Nat):Int)+((7*i:Nat):Int))=((k*31+7*i:Nat):Int)from by rw[wrap_i64 aa aa];omega
   have MO:Hid (IntKind.i64.wrap (((k*31+7*i:Nat):Int)+11)=((k*31+7*i+11:Nat):Int)):=show IntKind.i64.wrap (((k*31+7*i:Nat):Int)+11)=((k*31+7*i+11:Nat):Int)from by rw[wrap_i64 aa aa];omega
   have qa:ue (((k % 7:Nat):Int) - 3,((k % 3:Nat):Int)):=⟨⟨by show _≤_ - _;omega,by show _ - _<_;omega⟩,⟨by show 0≤_;omega,by show _<_;omega⟩⟩
   have qb:ue (((k/7 % 9:Nat):Int) - 4,1):=⟨⟨by show _≤_ - _;omega,by show _ - _<_;omega⟩,⟨by show(0:Int)≤1;decide,by show(1:Int)<4294967296;decide⟩⟩
   have sa:=AJ hla (((k % 7:Nat):Int) - 3,((k % 3:Nat):Int))
   have sb:=AJ Qx (((k/7 % 9:Nat):Int) - 4,1)
   refine ey.of hE ?_
   conv=>whnf
   (repeat(first|(refine bX Q3 ?_;conv=>whnf)|(refine ao t3 ?_;conv=>whnf)|(refine And.intro (by simp only[aae,en,List.length_map,List.length_append,List.length_cons,List.length_nil];omega) ?_;conv=>whnf)|(rw[t3];conv=>whnf)|(rw[e1.out];conv=>whnf)|(rw[e2.out];conv=>whnf)|(rw[e3.out];conv=>whnf)|(rw[e4.out];conv=>whnf)|(rw[e7.out];conv=>whnf)|(rw[e8.out];conv=>whnf)|(rw[e9.out];conv=>whnf)|(rw[MO.out];conv=>whnf)|(rw[t4];conv=>whnf)))
   refine⟨25 - (i+1),cE [(25,2001),(33,2002)],[1,2,3,4,5],[25,33],aa,av,i+1,(k*31+7*i+11) % 100003,la++[(((k % 7:Nat):Int) - 3,((k % 3:Nat):Int))],lb++[(((k/7 % 9:Nat):Int) - 4,1)],rfl,hli,aa,by simp;omega,by simp;omega,D6 hoa qa,D6 ju qb,rfl, ?_⟩
   rw[sa,sb]
   rfl
  ·have t3:decide (((i:Nat):Int)<25)=false:=decide_eq_false aa
   obtain rfl:i=25:=aa
   have mx:GL (((n % 5:Nat):Int),((n/2 % 6:Nat):Int),la):=FR aa aa aa hoa
   have my:GL (((n % 5:Nat):Int),((n % 3:Nat):Int),lb):=FR aa aa aa ju
   have wa:Kq la:=yJ aa hoa
   have wb:Kq lb:=yJ aa ju
   have wt:∀m,Kq (la.take m):=fun m=>yJ (Nat.le_trans (List.length_take_le' _ _) aa) (fun q hq=>hoa q (List.mem_of_mem_take hq))
   have wu:∀m,Kq (lb.take m):=fun m=>yJ (Nat.le_trans (List.length_take_le' _ _) aa) (fun q hq=>ju q (List.mem_of_mem_take hq))
   have u5:(Lit.int .u8 ((n % 5:Nat):Int)).wf=true:=MA aa aa
   have u4:(Lit.int .u8 ((n % 4:Nat):Int)).wf=true:=MA aa aa
   have u6:(Lit.int .u8 ((n % 6:Nat):Int)).wf=true:=MA aa aa
   have u3:(Lit.int .u8 ((n % 3:Nat):Int)).wf=true:=MA aa aa
   have u2:(Lit.int .u8 ((n % 2:Nat):Int)).wf=true:=MA aa aa
   have aez:n % 5*(n % 4)≤12:=Nat.mul_le_mul (show n % 5≤4 by omega) (show n % 4≤3 by omega)
   have up:(Lit.int .u8 ((n % 5*(n % 4):Nat):Int)).wf=true:=MA (Int.natCast_nonneg _) aa
   have qn:=Ri (kO hoa n)
   have k1:=nq _ ((n % 5:Nat):Int) mx u5
   have k2:=zf _ [0,1,1,2,2,0,3,3] (la.take 4) mx ⟨Nat.le_trans aI Rj,aI⟩ (wt 4)
   have k3:=ze _ _ ((n % 5:Nat):Int) ((n % 4:Nat):Int) ((n % 6:Nat):Int) mx my u5 u4 u6
   have k4:=vJ _ (lb.take 3) mx (wu 3)
   have k5:=ub _ lb la (la.take 3) mx wb wa (wt 3)
   have k6:=uS _ _ ((n % 5:Nat):Int) lb mx my u5 wb
   have k7:=Cb _ _ ((n % 5:Nat):Int) ((n % 3:Nat):Int) ((n % 2:Nat):Int) (la.getD n (0,0)) mx my u5 u3 u2 qn
   have k8:=oc (((n:Nat):Int).tmod 5) (((n:Nat):Int).tmod 4) ((n % 5*(n % 4):Nat):Int) ((n % 5:Nat):Int) (by rw[Int.tmod_eq_emod_of_nonneg aa];exact My aa aa) (by rw[Int.tmod_eq_emod_of_nonneg aa];exact My aa aa) up u5
   have e1:Hid (IntKind.u8.wrap (((n:Nat):Int).tmod 5)=((n % 5:Nat):Int)):=show IntKind.u8.wrap (((n:Nat):Int).tmod 5)=((n % 5:Nat):Int)from by rw[Int.tmod_eq_emod_of_nonneg aa,wrap_u8 aa aa];omega
   have e2:Hid (IntKind.i64.wrap (((n:Nat):Int).tdiv 2)=((n/2:Nat):Int)):=show IntKind.i64.wrap (((n:Nat):Int).tdiv 2)=((n/2:Nat):Int)from wrap_i64 (n:=((n/2:Nat):Int)) aa aa
   have e3:Hid (IntKind.u8.wrap (((n/2:Nat):Int).tmod 6)=((n/2 % 6:Nat):Int)):=show IntKind.u8.wrap (((n/2:Nat):Int).tmod 6)=((n/2 % 6:Nat):Int)from by rw[Int.tmod_eq_emod_of_nonneg aa,wrap_u8 aa aa];omega
   have e4:Hid (IntKind.u8.wrap (((n:Nat):Int).tmod 3)=((n % 3:Nat):Int)):=show IntKind.u8.wrap (((n:Nat):Int).tmod 3)=((n % 3:Nat):Int)from by rw[Int.tmod_eq_emod_of_nonneg aa,wrap_u8 aa aa];omega
   have e5:Hid (IntKind.u8.wrap (((n:Nat):Int).tmod 4)=((n % 4:Nat):Int)):=show IntKind.u8.wrap (((n:Nat):Int).tmod 4)=((n % 4:Nat):Int)from by rw[Int.tmod_eq_emod_of_nonneg aa,wrap_u8 aa aa];omega
   have e6:Hid (IntKind.u8.wrap (((n:Nat):Int).tmod 6)=((n % 6:Nat):Int)):=show IntKind.u8.wrap (((n:Nat):Int).tmod 6)=((n % 6:Nat):Int)from by rw[Int.tmod_eq_emod_of_nonneg aa,wrap_u8 aa aa];omega
   have e7:Hid (IntKind.u8.wrap (((n:Nat):Int).tmod 2)=((n % 2:Nat):Int)):=show IntKind.u8.wrap (((n:Nat):Int).tmod 2)=((n % 2:Nat):Int)from by rw[Int.tmod_eq_emod_of_nonneg aa,wrap_u8 aa aa];omega
   have e8:Hid (IntKind.i64.wrap (((n:Nat):Int).tmod 5*((n:Nat):Int).tmod 4)=((n % 5*(n % 4):Nat):Int)):=show IntKind.i64.wrap (((n:Nat):Int).tmod 5*((n:Nat):Int).tmod 4)=((n % 5*(n % 4):Nat):Int)from wrap_i64 (n:=((n % 5*(n % 4):Nat):Int)) aa aa
   have e9:Hid (IntKind.u8.wrap ((n % 5*(n % 4):Nat):Int)=((n % 5*(n % 4):Nat):Int)):=show IntKind.u8.wrap ((n % 5*(n % 4):Nat):Int)=((n % 5*(n % 4):Nat):Int)from wrap_u8 aa aa
   have Zv:n<la.length:=aa
   refine eA 3 2001 (fun _ h=>h) (fun _=>rfl) rfl rfl hla.symm ?_
   refine eA 4 2002 (fun _ h=>h) (fun _=>rfl) rfl rfl Qx.symm ?_
   clear mx my wa wb wt wu u5 u4 u6 u3 u2 up qn lqa lqb hoa ju aez
   refine ey.of hE ?_
   conv=>whnf
   (repeat(first|(refine ae rfl rfl ?_;conv=>whnf)|(rw[t3];conv=>whnf)))
   refine AI (fr1:= ?fr12) (hp1:= ?hp12) (fun K hK=>bA hE ?ra12) ?rb12
   case ra12=>
    conv=>whnf
    (repeat((first|refine bX Q3 ?_|rw[e1.out]|rw[e2.out]|rw[e3.out]|rw[e4.out]);conv=>whnf))
    exact hK
   conv=>whnf
   skip
   refine AI (fr1:= ?fr13) (hp1:= ?hp13) (fun K hK=>bA hE ?ra13) ?rb13
   case ra13=>
    conv=>whnf
    (repeat((first|refine ag rfl rfl ?_|refine aq av ?_|refine bX Q3 ?_|refine aS (by assumption) ?_|refine ah dP ?_|refine ah Q5 ?_|refine ah X8 ?_|refine ah Ga ?_|rw[e1.out]|rw[e4.out]|rw[e5.out]|rw[e6.out]|rw[e7.out]|rw[e8.out]|rw[e9.out]);conv=>whnf))
    exact hK
   conv=>whnf
   (repeat(first|(refine ae rfl rfl ?_;conv=>whnf)))
   rw[t2]
   exact⟨14 - (n+1),fun k=>k,[1,2],[],aa,av,n+1,k,rfl,aE,hk,rfl,rfl⟩
 ·have t1:decide (((n:Nat):Int)<14)=false:=decide_eq_false aa
  obtain rfl:n=14:=aa
  have mE:∀a b:Int, -1≤a→a≤2049→0≤b→b≤2049→ab Tryz.prog 29 [jv .i64 a,jv .i64 b,jv .u8 0,jv .u8 0] [] (.val (.bool true)) [] []:=fun a b h1 h2 h3 h4=>
   oc a b 0 0 (My aa aa) (My aa aa) (MA aI aI) (MA aI aI)
  have m1:=mE (-1) 3 aI aI aI aI
  have m2:=mE 2049 0 aI aI aI aI
  have m3:=mE 0 2048 aI aI aI aI
  have m4:=mE 0 0 aI aI aI aI
  have m5:=(nq (0,0,[]) 0 (FR (A:=0) (B:=0) aI aI (Nat.zero_le _) (fun q hq=>by cases hq)) (MA aI aI)).wk (args:=[.agg [jv .u8 0,jv .u8 0,.val (.slice none 0 0)],jv .u8 0]) Q29
  clear mE
  (repeat((first|refine ag rfl rfl ?_|refine ae rfl rfl ?_|refine aS (by assumption) ?_|refine ah dO ?_);conv=>whnf));exact Q4
end Go.Proofs.YtfpagioknjjacaaGreatDoor
