/- The texts Os. -/
import Derived.Test.YtadphegfhgmgmaaGreatDoorQMModesKnown5
import Derived.Test.YtadphegfhgmgmaaGreatDoorQMModesKnown6
import Derived.Test.YtadphegfhgmgmaaGreatDoorQMModesKnown21
set_option linter.unusedSimpArgs false
set_option linter.unusedVariables false
set_option maxHeartbeats 40000000
set_option maxRecDepth 100000
open List renaming getD_eq_getElem?_getD->δ,getElem?_eq_getElem->φ,length_append->ξ,length_singleton->adg,mem_cons_self->η,take->afH,take_add_one->aij,take_of_length_le->ϛ
open Nat renaming le_refl->ζ,zero_add->υ,zero_le->Γ
open Rat renaming add_zero->alc,mul_assoc->al2
namespace Go.Proofs.YtadphegfhgmgmaaGreatDoor
open Go.Sx
def pS (n B:Nat):Nat->Nat
 |0=>2
 |m+1=>2+n*(B+pS n B m)
theorem L0 {n B:Nat} (hn:n<=5) (hB:B<=2000):∀m,pS n B m<=pS 5 2000 m
 |0=>ζ _
 |m+1=>Nat.add_le_add_left (Nat.mul_le_mul hn (Nat.add_le_add hB (L0 hn hB m))) 2
theorem Sf {n B m:Nat} (hn:n<=5) (hB:B<=2000) (hm:m<=5):pS n B m<=7817812:=by
 refine Nat.le_trans (L0 hn hB m) ?_;obtain rfl|rfl|rfl|rfl|rfl|rfl:m=0\/m=1\/m=2\/m=3\/m=4\/m=5:=aa
 all_goals decide
theorem afo (t:Nat) (x:Rat):fs (sg t*x)=fs x:=by
 induction t with
 |zero=>rw[sg];congr 1;grind
 |succ t ih=>rw[sg,show -sg t*x= -(sg t*x) by grind,ju,ih]
theorem L1 {n B S i:Nat} {a:List Rat} (ha:a.length=n*n) (sa:Sm B a) (hi:i<n) (k:Nat) (l:List Nat) (hk:k<n) {D:Rat} (hD:fs D<=S):fs (if k∈l then 0 else sg (turns l k)*el a n i k*D)<=B+S:=by
 split
 ·rw[et];have:=PM D;omega
 ·have h1:=eM sa ha hi hk;have h3:=cH (el a n i k) D;rw[al2,afo];omega
theorem wG {n B:Nat} {a:List Rat} (ha:a.length=n*n) (sa:Sm B a):∀(m i:Nat) (l:List Nat),i+m=n->fs (cU n (el a n) m i l)<=pS n B m
 |0,_,_,_=>Nat.le_of_eq jv
 |m+1,i,l,h=>by
  rw[cU,pS];exact pQ (B:=B+pS n B m) n λk hk=>L1 ha sa aa k l hk (wG ha sa m (i+1) (l++[k]) aa)
abbrev jF (l:List Nat):List Int:=l.map λu:Nat=>(u:Int)
theorem Sg {l:List Nat} {u:Nat} (hu:u<l.length):(jF l).getD u 0=(l.getD u 0:Nat):=by
 simp[δ,hu]
theorem NM (l:List Nat):(jF l).length=l.length:=List.length_map _
theorem Sh {l:List Nat} {u k:Nat} (hu:u<l.length):k∈l.take (u+1)↔k∈l.take u\/l.getD u 0=k:=by
 have e:l.getD u 0=l[u]:=by rw[δ,φ hu];rfl
 rw[e,aij,φ hu,List.mem_append,Option.toList_some,List.mem_singleton,eq_comm (a:=k)]
theorem J7 {l:List Nat} {u:Nat} (k:Nat) (hu:u<l.length):turns (l.take (u+1)) k=turns (l.take u) k+if k<l.getD u 0 then 1 else 0:=by
 rw[aij,δ,φ hu];exact fA _ _ _
theorem HQ (l:List Nat) (k:Nat):turns l k<=l.length:=List.countP_le_length
theorem L2 {n B:Nat} {a:List Rat} (ha:a.length=n*n) (sa:Sm B a) (hn:n<=5) (hB:B<=2000):∀(m i:Nat) (l:List Nat),i+m=n->l.length<=i->(∀u,u<l.length->l.getD u 0<n)->
  C0 138 [bN 1 nC (bD n n a),iv i,gP .i64 (jF l)] (fF (cU n (el a n) m i l))
 |0,i,l,h,hl,hv=>by
  obtain rfl:i=n:=aa;have k1:=pZ 1 ax ax;have t1:((i:Int)==((bD i i a).length:Int))=true:=by rw[jU];exact beq_self_eq_true _
  rw[show cU i (el a i) 0 i l=((1:Int):Rat)from rfl];refine kg [] Tryz.func138 ?_;intro w0 ρ0 hE;conv=>whnf
  (repeat(first|(refine aN aJ ?_;conv=>whnf)|(refine ay t1 ?_;conv=>whnf)|(refine an Q8 ?_;conv=>whnf)));exact Q4
 |m+1,i,l,h,hl,hv=>by
  have lr:=jU n n a;have t1:((i:Int)==((bD n n a).length:Int))=false:=by rw[lr];exact beq_eq_false_iff_ne.2 aa
  have k1:=pZ 0 ax ax;have oy:i<n:=aa;have hg:=oY (c:=n) (a:=a) oy;have FF:=NM l;have hST:=Sf (n:=n) (B:=B) (m:=m+1) hn hB aa;have hSM:=Sf (n:=n) (B:=B) (m:=m) hn hB aa;generalize hG:(λk=>if k∈l then 0 else sg (turns l k)*el a n i k*cU n (el a n) m (i+1) (l++[k]))=G;have hfG:∀k,k<=n->fs (aj k G)<=2+k*(B+pS n B m):=λk hk=>pQ k λq hq=>by
   rw[<-hG];exact L1 ha sa oy q l aa (wG ha sa m (i+1) (l++[q]) aa)
  have hGs:cU n (el a n) (m+1) i l=aj n G:=by rw[<-hG];rfl
  rw[hGs];refine kg [100017,100018] Tryz.func138 ?_;intro w0 ρ0 hE;conv=>whnf
  (repeat((first|refine aN aJ ?_|refine aG t1 ?_|refine an Q8 ?_|rw[t1]);conv=>whnf))
  refine av hE (λk=>k) [0,1,2,6,7,8] [6,7] (λM fr hp=>∃k:Nat,M=n - k/\k<=n/\
   fr=[(0,bN 1 nC (bD n n a)),(1,iv i),(2,gP .i64 (jF l)),(6,.ptr 6 0 0 0),(7,.ptr 7 0 0 0),(8,iv (k:Nat))]/\
   hp=[(6,Hp),(7,LJ (aj k G))]) n ?_ ?_ ?_
  ·kernel_rfl
  ·exact⟨0,rfl,Γ _,rfl,rfl⟩
  clear k1;rintro M _ _ ⟨k,rfl,hk,rfl,rfl⟩;conv=>whnf
  by_cases aE:k<n
  ·have t2:=gZ (show k<(bD n n a).length by omega);have t9:=bW (i:=k) aa
   (repeat(first|(refine ay t2 ?_;conv=>whnf)|(refine an Q8 ?_;conv=>whnf)|(rw[t2];conv=>whnf)))
   refine av hE (λk=>k) [0,1,2,6,7,8,9,10,11] [6,7] (λM fr hp=>∃(u:Nat) (al:Bool),M=l.length - u/\u<=l.length/\al= !decide (k∈l.take u)/\
    fr=[(0,bN 1 nC (bD n n a)),(1,iv i),(2,gP .i64 (jF l)),(6,.ptr 6 0 0 0),(7,.ptr 7 0 0 0),(8,iv (k:Nat)),(9,iv (turns (l.take u) k:Nat)),(10,.val (.bool al)),(11,iv (u:Nat))]/\
    hp=[(6,Hp),(7,LJ (aj k G))]) l.length ?_ ?_ ?_
   ·kernel_rfl
   ·exact⟨0,true,rfl,Γ _,by simp,rfl,rfl⟩
   rintro M _ _ ⟨u,al,rfl,hu,FJ,rfl,rfl⟩;conv=>whnf
   by_cases YS:u<l.length
   ·have t3:=gZ (show u<(jF l).length by omega);have t4:=bW (i:=u) aa;have g1:=Sg YS;have htl:=HQ (l.take u) k;have MN:(l.take u).length<=u:=by rw[List.length_take];omega
    have t5:=bW (i:=turns (l.take u) k) aa;have hmt:=Sh (k:=k) YS;have Wa:=J7 k YS;have hx:u<(jF l).length:=aa;generalize l.getD u 0=y at*;have e1:((y:Int) != (k:Int))= !decide (y=k):=by
     by_cases h:y=k
     ·rw[h,decide_eq_true rfl];exact bne_self_eq_false _
     ·rw[decide_eq_false h];exact bne_iff_ne.2 aa
    have Si:(al&& !decide (y=k))= !decide (k∈l.take (u+1)):=by
     rw[FJ,decide_eq_decide.2 hmt,Bool.decide_or];cases decide (k∈l.take u)<;>cases decide (y=k)<;>rfl
    rw[<-e1]at Si;by_cases XZ:k<y
    ·have t6:decide ((y:Int)>(k:Int))=true:=decide_eq_true aa;rw[if_pos XZ]at Wa;rw[Wa.symm]at t5;cases al
     ·(repeat((first|refine ae rfl rfl ?_|refine an dZ ?_|refine ay t3 ?_|refine ay t6 ?_|refine an Q8 ?_|refine an Q6 ?_|refine an As ?_|rw[t3]|rw[g1]|rw[t6]|rw[t5]|rw[t4]);conv=>whnf))
      exact⟨l.length - (u+1),λk=>k,[0,1,2,6,7,8,9,10,11],[6,7],aa,aD,u+1,false,rfl,YS,Si,rfl,rfl⟩
     ·(repeat((first|refine ag rfl rfl ?_|refine an er ?_|refine ay t3 ?_|refine ay t6 ?_|refine an Q8 ?_|refine an Q6 ?_|refine an As ?_|rw[t3]|rw[g1]|rw[t6]|rw[t5]|rw[t4]);conv=>whnf))
      exact⟨l.length - (u+1),λk=>k,[0,1,2,6,7,8,9,10,11],[6,7],aa,aD,u+1,_,rfl,YS,Si,rfl,rfl⟩
    ·have t6:decide ((y:Int)>(k:Int))=false:=decide_eq_false aa;rw[if_neg XZ,Nat.add_zero]at Wa;cases al
     ·(repeat((first|refine ae rfl rfl ?_|refine an dZ ?_|refine ay t3 ?_|refine aG t6 ?_|refine an Q8 ?_|refine an Q6 ?_|refine an As ?_|rw[t3]|rw[g1]|rw[t6]|rw[t4]);conv=>whnf))
      exact⟨l.length - (u+1),λk=>k,[0,1,2,6,7,8,9,10,11],[6,7],aa,aD,u+1,false,rfl,YS,Si,by rw[Wa];rfl,rfl⟩
     ·(repeat((first|refine ag rfl rfl ?_|refine an er ?_|refine ay t3 ?_|refine aG t6 ?_|refine an Q8 ?_|refine an Q6 ?_|refine an As ?_|rw[t3]|rw[g1]|rw[t6]|rw[t4]);conv=>whnf))
      exact⟨l.length - (u+1),λk=>k,[0,1,2,6,7,8,9,10,11],[6,7],aa,aD,u+1,_,rfl,YS,Si,by rw[Wa];rfl,rfl⟩
   ·have t3:=iH (show ¬u<(jF l).length by omega);rw[ϛ aa]at*;by_cases hm:k∈l
    ·rw[decide_eq_true hm]at FJ;subst FJ
     (repeat((first|refine ag rfl rfl ?_|refine ae rfl rfl ?_|refine an er ?_|refine aG t3 ?_|refine an Q8 ?_|rw[t3]|rw[t9]);conv=>whnf))
     refine⟨n - (k+1),λk=>k,[0,1,2,6,7,8],[6,7],aa,aD,k+1,rfl,aE,rfl, ?_⟩;rw[aj,<-hG];show _=[(6,Hp),(7,LJ (aj k _+if k∈l then 0 else sg (turns l k)*el a n i k*_))];rw[if_pos hm,alc];rfl
    ·rw[decide_eq_false hm]at FJ;subst FJ;have hx:i<(bD n n a).length:=aa;have hy:k<((bD n n a).getD i []).length:=by rw[hg,gI oy ha];exact aE
     have ee:((bD n n a).getD i []).getD k 0=el a n i k:=by rw[hg];exact lD aE
     have fe:fs (el a n i k)<=B:=eM sa ha oy aE;rw[<-ee]at fe;have ks:=zd (((bD n n a).getD i []).getD k 0) (by have:=Hn (q:=((bD n n a).getD i []).getD k 0) (ζ _);omega);by_cases hz:((bD n n a).getD i []).getD k 0=0
     ·have t7:((((bD n n a).getD i []).getD k 0).num.sign==0)=true:=by rw[hz];rfl
      (repeat((first|refine ag rfl rfl ?_|refine aN aJ ?_|refine an dZ ?_|refine aG t3 ?_|refine ay t7 ?_|refine an Q8 ?_|refine an Ar ?_|refine an Q6 ?_|refine an IG ?_|rw[t3]|rw[t7]|rw[t9]);conv=>whnf))
      refine⟨n - (k+1),λk=>k,[0,1,2,6,7,8],[6,7],aa,aD,k+1,rfl,aE,rfl, ?_⟩;rw[aj,<-hG];show _=[(6,Hp),(7,LJ (aj k _+if k∈l then 0 else sg (turns l k)*el a n i k*_))];rw[if_neg hm,<-ee,hz,Rat.mul_zero,Rat.zero_mul,alc];rfl
     ·have t7:((((bD n n a).getD i []).getD k 0).num.sign==0)=false:=beq_eq_false_iff_ne.2 λe=>hz (Rat.num_eq_zero.1 (Int.sign_eq_zero_iff_zero.1 e))
      have hIH:=L2 ha sa hn hB m (i+1) (l++[k]) aa (by rw[ξ,adg];omega) (λu hu=>by
       rw[ξ,adg]at hu;by_cases g:u<l.length
       ·rw[δ,List.getElem?_append_left g,<-δ];exact hv u g
       ·obtain rfl:u=l.length:=aa
        simp[δ];exact aE)
      have O0:=wG ha sa m (i+1) (l++[k]) aa;have hGk:G k=sg (turns l k)*(((bD n n a).getD i []).getD k 0*cU n (el a n) m (i+1) (l++[k])):=by
       rw[<-hG,ee];show(if k∈l then 0 else sg (turns l k)*el a n i k*cU n (el a n) m (i+1) (l++[k]))=_;rw[if_neg hm,al2]
      generalize cU n (el a n) m (i+1) (l++[k])=D at*;have fm:=cH (((bD n n a).getD i []).getD k 0) D;have km:=Rh (((bD n n a).getD i []).getD k 0) D aa;have w1:=bW (i:=i) aa;have B9:jF (l++[k])=jF l++[(k:Int)]:=by simp
      have lq:(jF l).length=l.length:=FF
      (repeat((first|refine ag rfl rfl ?_|refine aN aJ ?_|refine an dZ ?_|refine aG t3 ?_|refine aG t7 ?_|refine an Q8 ?_|refine an Ar ?_|refine an Q6 ?_|refine an IG ?_|rw[t3]|rw[t7]);conv=>whnf))
      refine dD (t:=12) (k:=2001) (s:=1) (blk:=BC []) rfl rfl rfl ?_;refine cv hE ?_;conv=>whnf
      (repeat(first|(refine ao Q3 ?_;conv=>whnf)|(refine⟨.aM 64 1 0 (0+(jF l).length),[(2001,BC [])],[(64,BC (jF l))],[(2001,⟨3,true,.dead⟩)],pX rfl rfl rfl (ai rfl) (ai rfl) (xw (jF l)) (aH.get (t:=64) rfl) rfl (aH.get (t:=64) rfl) rfl (aH.get (t:=3) rfl) (η ..) rfl rfl (by simp[gu]) (by simp) (by simp[gu]) (by simp[vf];exact ϛ (by simp)) (by show(0+_)*ti3.bytes<=_;simp only[aar];omega) aa,eB rfl,eh rfl,eT (η ..) rfl rfl rfl, ?_⟩;conv=>whnf)|(rw[υ];conv=>whnf)))
      refine yr (xs:=jF (l++[k])) 12 67 (λ_ h=>h) rfl (show some (⟨3,true,.ints .i64 (afH (jF l).length (jF l)++afH 1 (List.drop 0 [(k:Int)]))⟩:aC)=some ⟨3,true,.ints .i64 (jF (l++[k]))⟩ by rw[B9,ϛ (ζ _)];rfl) (by rw[B9,ξ,adg]) ?_;refine cv hE ?_;conv=>whnf
      have htl:=HQ l k;have e3:((turns l k:Nat):Int).tmod 2=((turns l k:Nat):Int) % 2:=Int.tmod_eq_emod_of_nonneg (Int.natCast_nonneg _);have mN:=hfG k hk;have hkB:k*(B+pS n B m)<=n*(B+pS n B m):=Nat.mul_le_mul_right _ hk;have qC:pS n B (m+1)=2+n*(B+pS n B m):=rfl;have afp:aj (k+1) G=aj k G+G k:=rfl;by_cases hodd:turns l k % 2=1
      ·have t8:(((turns l k:Nat):Int).tmod 2==1)=true:=by rw[e3];exact beq_iff_eq.2 aa
       have hsg:sg (turns l k)= -1:=by rw[<-vW,yV,if_pos hodd];rfl
       have kn:=ab1 (((bD n n a).getD i []).getD k 0*D) (by have:=Hn (q:=((bD n n a).getD i []).getD k 0*D) (ζ _);omega);have ka:=Rg (aj k G) (-(((bD n n a).getD i []).getD k 0*D)) (by rw[ju];omega);rw[hsg,show -1*(((bD n n a).getD i []).getD k 0*D)= -(((bD n n a).getD i []).getD k 0*D) by grind]at hGk;rw[show aj k G+ -(((bD n n a).getD i []).getD k 0*D)=aj (k+1) G from by rw[afp,hGk]]at ka;clear mN hkB qC hSM hST
       (repeat((first|refine aq aD ?_|refine bn Q3 ?_|refine aN aJ ?_|refine ay t8 ?_|refine an Ar ?_|refine an Q6 ?_|refine an IG ?_|rw[w1]|rw[t8]|rw[t9]);conv=>whnf))
       exact⟨n - (k+1),λk=>k,[0,1,2,6,7,8],[6,7],aa,aD,k+1,rfl,aE,rfl,rfl⟩
      ·have t8:(((turns l k:Nat):Int).tmod 2==1)=false:=by rw[e3];exact beq_eq_false_iff_ne.2 aa
       have hsg:sg (turns l k)=1:=by rw[<-vW,yV,if_neg hodd];rfl
       have ka:=Rg (aj k G) (((bD n n a).getD i []).getD k 0*D) aa;rw[hsg,show 1*(((bD n n a).getD i []).getD k 0*D)=((bD n n a).getD i []).getD k 0*D by grind]at hGk;rw[show aj k G+((bD n n a).getD i []).getD k 0*D=aj (k+1) G from by rw[afp,hGk]]at ka;clear mN hkB qC hSM hST
       (repeat((first|refine aq aD ?_|refine bn Q3 ?_|refine aN aJ ?_|refine aG t8 ?_|refine an Ar ?_|refine an Q6 ?_|refine an IG ?_|rw[w1]|rw[t8]|rw[t9]);conv=>whnf))
       exact⟨n - (k+1),λk=>k,[0,1,2,6,7,8],[6,7],aa,aD,k+1,rfl,aE,rfl,rfl⟩
  ·have t2:=iH (show ¬k<(bD n n a).length by omega);obtain rfl:k=n:=aa
   (repeat(first|(refine aG t2 ?_;conv=>whnf)|(refine an Q8 ?_;conv=>whnf)))
   exact Q4
theorem afq {n B:Nat} {a:List Rat} (ha:a.length=n*n) (sa:Sm B a) (hn:n<=5) (hB:B<=2000):C0 71 [bN 1 nC (bD n n a)] (fF (bz n (el a n))):=by
 have k1:=(L2 ha sa hn hB n 0 [] (υ n) (ζ _) (λu hu=>by simp at hu)).wk (args:=[bN 1 nC (bD n n a),iv 0,.val (.slice none 0 0)]) Q18;rw[C9]at k1;refine bB [] Tryz.func71 ?_;intro W0 w0 ρ0 hE;conv=>whnf
 (repeat(first|(refine aN aJ ?_;conv=>whnf)));exact Q4
