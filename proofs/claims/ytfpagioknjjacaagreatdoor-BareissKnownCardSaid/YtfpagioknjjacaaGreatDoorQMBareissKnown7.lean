/- The texts Os. -/
import Derived.Test.YtfpagioknjjacaaGreatDoorQMBareissKnown5
import Derived.Test.YtfpagioknjjacaaGreatDoorQMBareissKnown6
namespace Go.Proofs.YtfpagioknjjacaaGreatDoor
open Go.Sx
set_option linter.unusedSimpArgs false
set_option linter.unusedVariables false
set_option maxRecDepth 100000
set_option maxHeartbeats 40000000
def pS (n B:Nat):Nat→Nat
 |0=>2
 |m+1=>2+n*(B+pS n B m)
theorem FT {n B:Nat} (hn:n≤5) (hB:B≤2000):∀m,pS n B m≤pS 5 2000 m
 |0=>Nat.le_refl _
 |m+1=>Nat.add_le_add_left (Nat.mul_le_mul hn (Nat.add_le_add hB (FT hn hB m))) 2
theorem Eu {n B m:Nat} (hn:n≤5) (hB:B≤2000) (hm:m≤5):pS n B m≤7817812:=by
 refine Nat.le_trans (FT hn hB m) ?_
 obtain rfl|rfl|rfl|rfl|rfl|rfl:m=0∨m=1∨m=2∨m=3∨m=4∨m=5:=aa
 all_goals decide
theorem acz (t:Nat) (x:Rat):fs (sg t*x)=fs x:=by
 induction t with
 |zero=>rw[sg];congr 1;grind
 |succ t ih=>rw[sg,show -sg t*x= -(sg t*x) by grind,wK,ih]
theorem FU {n B S i:Nat} {a:List Rat} (ha:a.length=n*n) (sa:Sm B a) (hi:i<n) (k:Nat) (l:List Nat) (hk:k<n) {D:Rat} (hD:fs D≤S):fs (if k∈l then 0 else sg (turns l k)*el a n i k*D)≤B+S:=by
 split
 ·rw[mU]
  have:=Yz D
  omega
 ·have h1:=mb sa ha hi hk
  have h3:=lK (el a n i k) D
  rw[Rat.mul_assoc,acz];omega
theorem mi {n B:Nat} {a:List Rat} (ha:a.length=n*n) (sa:Sm B a):∀(m i:Nat) (l:List Nat),i+m=n→fs (cL n (el a n) m i l)≤pS n B m
 |0,_,_,_=>Nat.le_of_eq Ao
 |m+1,i,l,h=>by
  rw[cL,pS]
  exact Ee (B:=B+pS n B m) n fun k hk=>FU ha sa aa k l hk (mi ha sa m (i+1) (l++[k]) aa)
abbrev im (l:List Nat):List Int:=l.map fun u:Nat=>(u:Int)
theorem KC {l:List Nat} {u:Nat} (hu:u<l.length):(im l).getD u 0=(l.getD u 0:Nat):=by
 simp[List.getD_eq_getElem?_getD,hu]
theorem Hn (l:List Nat):(im l).length=l.length:=List.length_map _
theorem KD {l:List Nat} {u k:Nat} (hu:u<l.length):k∈l.take (u+1)↔k∈l.take u∨l.getD u 0=k:=by
 have e:l.getD u 0=l[u]:=by rw[List.getD_eq_getElem?_getD,List.getElem?_eq_getElem hu];rfl
 rw[e,List.take_add_one,List.getElem?_eq_getElem hu,List.mem_append,Option.toList_some,List.mem_singleton,eq_comm (a:=k)]
theorem Ev {l:List Nat} {u:Nat} (k:Nat) (hu:u<l.length):turns (l.take (u+1)) k=turns (l.take u) k+if k<l.getD u 0 then 1 else 0:=by
 rw[List.take_add_one,List.getD_eq_getElem?_getD,List.getElem?_eq_getElem hu]
 exact eF _ _ _
theorem CF (l:List Nat) (k:Nat):turns l k≤l.length:=List.countP_le_length
theorem FV {n B:Nat} {a:List Rat} (ha:a.length=n*n) (sa:Sm B a) (hn:n≤5) (hB:B≤2000):∀(m i:Nat) (l:List Nat),i+m=n→l.length≤i→(∀u,u<l.length→l.getD u 0<n)→
  ab Tryz.prog 228 [cT 1 nB (aP n n a),iv i,cF .i64 (im l)] [] (fF (cL n (el a n) m i l)) [] []
 |0,i,l,h,hl,hv=>by
  obtain rfl:i=n:=aa
  have k1:=Es 1 aF aF
  have t1:((i:Int)==((aP i i a).length:Int))=true:=by rw[di];exact beq_self_eq_true _
  rw[show cL i (el a i) 0 i l=((1:Int):Rat)from rfl]
  refine gX [] Tryz.func228 ?_
  intro w0 ρ0 hE
  conv=>whnf
  (repeat(first|(refine aS (by assumption) ?_;conv=>whnf)|(refine aE t1 ?_;conv=>whnf)|(refine ak cO ?_;conv=>whnf)));exact Q5
 |m+1,i,l,h,hl,hv=>by
  have lr:=di n n a
  have t1:((i:Int)==((aP n n a).length:Int))=false:=by rw[lr];exact beq_eq_false_iff_ne.2 aa
  have k1:=Es 0 aF aF
  have qe:i<n:=aa
  have hg:=gJ (c:=n) (a:=a) qe
  have Bl:=Hn l
  have hST:=Eu (n:=n) (B:=B) (m:=m+1) hn hB aa
  have hSM:=Eu (n:=n) (B:=B) (m:=m) hn hB aa
  generalize hG:(fun k=>if k∈l then 0 else sg (turns l k)*el a n i k*cL n (el a n) m (i+1) (l++[k]))=G
  have hfG:∀k,k≤n→fs (aH k G)≤2+k*(B+pS n B m):=fun k hk=>Ee k fun q hq=>by
   rw[←hG]
   exact FU ha sa qe q l aa (mi ha sa m (i+1) (l++[q]) aa)
  have hGs:cL n (el a n) (m+1) i l=aH n G:=by rw[←hG];rfl
  rw[hGs]
  refine gX [100017,100018] Tryz.func228 ?_
  intro w0 ρ0 hE
  conv=>whnf
  (repeat((first|refine aS (by assumption) ?_|refine aM t1 ?_|refine ak cO ?_|rw[t1]);conv=>whnf))
  refine ai hE (fun k=>k) [0,1,2,6,7,8] [6,7] (fun M fr hp=>∃k:Nat,M=n - k∧k≤n∧
   fr=[(0,cT 1 nB (aP n n a)),(1,iv i),(2,cF .i64 (im l)),(6,.ptr 6 0 0 0),(7,.ptr 7 0 0 0),(8,iv (k:Nat))]∧
   hp=[(6,yW),(7,FR (aH k G))]) n ?_ ?_ ?_
  ·kernel_rfl
  ·exact⟨0,rfl,Nat.zero_le _,rfl,rfl⟩
  clear k1
  rintro M _ _ ⟨k,rfl,hk,rfl,rfl⟩
  conv=>whnf
  by_cases aA:k<n
  ·have t2:=dX (show k<(aP n n a).length by omega)
   have t9:=bA (i:=k) aa
   (repeat(first|(refine aE t2 ?_;conv=>whnf)|(refine ak cO ?_;conv=>whnf)|(rw[t2];conv=>whnf)))
   refine ai hE (fun k=>k) [0,1,2,6,7,8,9,10,11] [6,7] (fun M fr hp=>∃(u:Nat) (al:Bool),M=l.length - u∧u≤l.length∧al= !decide (k∈l.take u)∧
    fr=[(0,cT 1 nB (aP n n a)),(1,iv i),(2,cF .i64 (im l)),(6,.ptr 6 0 0 0),(7,.ptr 7 0 0 0),(8,iv (k:Nat)),(9,iv (turns (l.take u) k:Nat)),(10,.val (.bool al)),(11,iv (u:Nat))]∧
    hp=[(6,yW),(7,FR (aH k G))]) l.length ?_ ?_ ?_
   ·kernel_rfl
   ·exact⟨0,true,rfl,Nat.zero_le _,by simp,rfl,rfl⟩
   rintro M _ _ ⟨u,al,rfl,hu,H8,rfl,rfl⟩
   conv=>whnf
   by_cases QJ:u<l.length
   ·have t3:=dX (show u<(im l).length by omega)
    have t4:=bA (i:=u) aa
    have g1:=KC QJ
    have htl:=CF (l.take u) k
    have GA:(l.take u).length≤u:=by rw[List.length_take];omega
    have t5:=bA (i:=turns (l.take u) k) aa
    have hmt:=KD (k:=k) QJ
    have htt:=Ev k QJ
    have hx:u<(im l).length:=aa
    generalize l.getD u 0=y at*
    have e1:((y:Int) != (k:Int))= !decide (y=k):=by
     by_cases h:y=k
     ·rw[h,decide_eq_true rfl];exact bne_self_eq_false _
     ·rw[decide_eq_false h];exact bne_iff_ne.2 aa
    have KF:(al&& !decide (y=k))= !decide (k∈l.take (u+1)):=by
     rw[H8,decide_eq_decide.2 hmt,Bool.decide_or]
     cases decide (k∈l.take u)<;>cases decide (y=k)<;>rfl
    rw[←e1]at KF
    by_cases Pz:k<y
    ·have t6:decide ((y:Int)>(k:Int))=true:=decide_eq_true aa
     rw[if_pos Pz]at htt
     rw[htt.symm]at t5
     cases al
     ·(repeat((first|refine af rfl rfl ?_|refine ak jo ?_|refine aE t3 ?_|refine aE t6 ?_|refine ak cO ?_|refine ak Q6 ?_|refine ak nA ?_|rw[t3]|rw[g1]|rw[t6]|rw[t5]|rw[t4]);conv=>whnf))
      exact⟨l.length - (u+1),fun k=>k,[0,1,2,6,7,8,9,10,11],[6,7],aa,aB,u+1,false,rfl,QJ,KF,rfl,rfl⟩
     ·(repeat((first|refine ag rfl rfl ?_|refine ak jJ ?_|refine aE t3 ?_|refine aE t6 ?_|refine ak cO ?_|refine ak Q6 ?_|refine ak nA ?_|rw[t3]|rw[g1]|rw[t6]|rw[t5]|rw[t4]);conv=>whnf))
      exact⟨l.length - (u+1),fun k=>k,[0,1,2,6,7,8,9,10,11],[6,7],aa,aB,u+1,_,rfl,QJ,KF,rfl,rfl⟩
    ·have t6:decide ((y:Int)>(k:Int))=false:=decide_eq_false aa
     rw[if_neg Pz,Nat.add_zero]at htt
     cases al
     ·(repeat((first|refine af rfl rfl ?_|refine ak jo ?_|refine aE t3 ?_|refine aM t6 ?_|refine ak cO ?_|refine ak Q6 ?_|refine ak nA ?_|rw[t3]|rw[g1]|rw[t6]|rw[t4]);conv=>whnf))
      exact⟨l.length - (u+1),fun k=>k,[0,1,2,6,7,8,9,10,11],[6,7],aa,aB,u+1,false,rfl,QJ,KF,by rw[htt];rfl,rfl⟩
     ·(repeat((first|refine ag rfl rfl ?_|refine ak jJ ?_|refine aE t3 ?_|refine aM t6 ?_|refine ak cO ?_|refine ak Q6 ?_|refine ak nA ?_|rw[t3]|rw[g1]|rw[t6]|rw[t4]);conv=>whnf))
      exact⟨l.length - (u+1),fun k=>k,[0,1,2,6,7,8,9,10,11],[6,7],aa,aB,u+1,_,rfl,QJ,KF,by rw[htt];rfl,rfl⟩
   ·have t3:=ez (show ¬u<(im l).length by omega)
    rw[List.take_of_length_le aa]at*
    by_cases hm:k∈l
    ·rw[decide_eq_true hm]at H8
     subst H8
     (repeat((first|refine ag rfl rfl ?_|refine af rfl rfl ?_|refine ak jJ ?_|refine aM t3 ?_|refine ak cO ?_|rw[t3]|rw[t9]);conv=>whnf))
     refine⟨n - (k+1),fun k=>k,[0,1,2,6,7,8],[6,7],aa,aB,k+1,rfl,aA,rfl, ?_⟩
     rw[aH,←hG]
     show _=[(6,yW),(7,FR (aH k _+if k∈l then 0 else sg (turns l k)*el a n i k*_))]
     rw[if_pos hm,Rat.add_zero]
     rfl
    ·rw[decide_eq_false hm]at H8
     subst H8
     have hx:i<(aP n n a).length:=aa
     have hy:k<((aP n n a).getD i []).length:=by rw[hg,cE qe ha];exact aA
     have ee:((aP n n a).getD i []).getD k 0=el a n i k:=by rw[hg];exact eK aA
     have fe:fs (el a n i k)≤B:=mb sa ha qe aA
     rw[←ee]at fe
     have ks:=Og (((aP n n a).getD i []).getD k 0) (by have:=Ku (q:=((aP n n a).getD i []).getD k 0) (Nat.le_refl _);omega)
     by_cases hz:((aP n n a).getD i []).getD k 0=0
     ·have t7:((((aP n n a).getD i []).getD k 0).num.sign==0)=true:=by rw[hz];rfl
      (repeat((first|refine ag rfl rfl ?_|refine aS (by assumption) ?_|refine ak jo ?_|refine aM t3 ?_|refine aE t7 ?_|refine ak cO ?_|refine ak Ai ?_|refine ak Q6 ?_|refine ak Ia ?_|rw[t3]|rw[t7]|rw[t9]);conv=>whnf))
      refine⟨n - (k+1),fun k=>k,[0,1,2,6,7,8],[6,7],aa,aB,k+1,rfl,aA,rfl, ?_⟩
      rw[aH,←hG]
      show _=[(6,yW),(7,FR (aH k _+if k∈l then 0 else sg (turns l k)*el a n i k*_))]
      rw[if_neg hm,←ee,hz,Rat.mul_zero,Rat.zero_mul,Rat.add_zero]
      rfl
     ·have t7:((((aP n n a).getD i []).getD k 0).num.sign==0)=false:=beq_eq_false_iff_ne.2 fun e=>hz (Rat.num_eq_zero.1 (Int.sign_eq_zero_iff_zero.1 e))
      have hIH:=FV ha sa hn hB m (i+1) (l++[k]) aa (by rw[List.length_append,List.length_singleton];omega) (fun u hu=>by
       rw[List.length_append,List.length_singleton]at hu
       by_cases g:u<l.length
       ·rw[List.getD_eq_getElem?_getD,List.getElem?_append_left g,←List.getD_eq_getElem?_getD];exact hv u g
       ·obtain rfl:u=l.length:=aa
        simp[List.getD_eq_getElem?_getD];exact aA)
      have GM:=mi ha sa m (i+1) (l++[k]) aa
      have hGk:G k=sg (turns l k)*(((aP n n a).getD i []).getD k 0*cL n (el a n) m (i+1) (l++[k])):=by
       rw[←hG,ee]
       show(if k∈l then 0 else sg (turns l k)*el a n i k*cL n (el a n) m (i+1) (l++[k]))=_
       rw[if_neg hm,Rat.mul_assoc]
      generalize cL n (el a n) m (i+1) (l++[k])=D at*
      have fm:=lK (((aP n n a).getD i []).getD k 0) D
      have km:=YZ (((aP n n a).getD i []).getD k 0) D aa
      have w1:=bA (i:=i) aa
      have Dm:im (l++[k])=im l++[(k:Int)]:=by simp
      have lq:(im l).length=l.length:=Bl
      (repeat((first|refine ag rfl rfl ?_|refine aS (by assumption) ?_|refine ak jo ?_|refine aM t3 ?_|refine aM t7 ?_|refine ak cO ?_|refine ak Ai ?_|refine ak Q6 ?_|refine ak Ia ?_|rw[t3]|rw[t7]);conv=>whnf))
      refine bR (t:=12) (k:=2001) (s:=1) (blk:=dH []) rfl rfl rfl ?_
      refine dC hE ?_
      conv=>whnf
      (repeat(first|(refine ay Q3 ?_;conv=>whnf)|(refine⟨.aN 64 1 0 (0+(im l).length),[(2001,dH [])],[(64,dH (im l))],[(2001,⟨3,true,.dead⟩)],iK rfl rfl rfl (aj rfl) (aj rfl) (mh (im l)) (aL.get (t:=33) rfl) rfl (aL.get (t:=33) rfl) rfl (aL.get (t:=3) rfl) (List.mem_cons_self ..) rfl rfl (by simp[eR]) (by simp) (by simp[eR]) (by simp[pj];exact List.take_of_length_le (by simp)) (by show(0+_)*M6.bytes≤_;simp only[Je];omega) aa,dv rfl,cV rfl,dp (List.mem_cons_self ..) rfl rfl rfl, ?_⟩;conv=>whnf)|(rw[Nat.zero_add];conv=>whnf)))
      refine oh (xs:=im (l++[k])) 12 67 (fun _ h=>h) rfl (show some (⟨3,true,.ints .i64 (List.take (im l).length (im l)++List.take 1 (List.drop 0 [(k:Int)]))⟩:aC)=some ⟨3,true,.ints .i64 (im (l++[k]))⟩ by rw[Dm,List.take_of_length_le (Nat.le_refl _)];rfl) (by rw[Dm,List.length_append,List.length_singleton]) ?_
      refine dC hE ?_
      conv=>whnf
      have htl:=CF l k
      have e3:((turns l k:Nat):Int).tmod 2=((turns l k:Nat):Int) % 2:=Int.tmod_eq_emod_of_nonneg (Int.natCast_nonneg _)
      have kV:=hfG k hk
      have hkB:k*(B+pS n B m)≤n*(B+pS n B m):=Nat.mul_le_mul_right _ hk
      have hpS:pS n B (m+1)=2+n*(B+pS n B m):=rfl
      have acB:aH (k+1) G=aH k G+G k:=rfl
      by_cases hodd:turns l k % 2=1
      ·have t8:(((turns l k:Nat):Int).tmod 2==1)=true:=by rw[e3];exact beq_iff_eq.2 aa
       have Y6:sg (turns l k)= -1:=by rw[←kF,jK,if_pos hodd];rfl
       have kn:=Kv (((aP n n a).getD i []).getD k 0*D) (by have:=Ku (q:=((aP n n a).getD i []).getD k 0*D) (Nat.le_refl _);omega)
       have ka:=Kw (aH k G) (-(((aP n n a).getD i []).getD k 0*D)) (by rw[wK];omega)
       rw[Y6,show -1*(((aP n n a).getD i []).getD k 0*D)= -(((aP n n a).getD i []).getD k 0*D) by grind]at hGk
       rw[show aH k G+ -(((aP n n a).getD i []).getD k 0*D)=aH (k+1) G from by rw[acB,hGk]]at ka
       clear kV hkB hpS hSM hST
       (repeat((first|refine aw aB ?_|refine bN Q3 ?_|refine aS (by assumption) ?_|refine aE t8 ?_|refine ak Ai ?_|refine ak Q6 ?_|refine ak Ia ?_|rw[w1]|rw[t8]|rw[t9]);conv=>whnf))
       exact⟨n - (k+1),fun k=>k,[0,1,2,6,7,8],[6,7],aa,aB,k+1,rfl,aA,rfl,rfl⟩
      ·have t8:(((turns l k:Nat):Int).tmod 2==1)=false:=by rw[e3];exact beq_eq_false_iff_ne.2 aa
       have Y6:sg (turns l k)=1:=by rw[←kF,jK,if_neg hodd];rfl
       have ka:=Kw (aH k G) (((aP n n a).getD i []).getD k 0*D) aa
       rw[Y6,show 1*(((aP n n a).getD i []).getD k 0*D)=((aP n n a).getD i []).getD k 0*D by grind]at hGk
       rw[show aH k G+((aP n n a).getD i []).getD k 0*D=aH (k+1) G from by rw[acB,hGk]]at ka
       clear kV hkB hpS hSM hST
       (repeat((first|refine aw aB ?_|refine bN Q3 ?_|refine aS (by assumption) ?_|refine aM t8 ?_|refine ak Ai ?_|refine ak Q6 ?_|refine ak Ia ?_|rw[w1]|rw[t8]|rw[t9]);conv=>whnf))
       exact⟨n - (k+1),fun k=>k,[0,1,2,6,7,8],[6,7],aa,aB,k+1,rfl,aA,rfl,rfl⟩
  ·have t2:=ez (show ¬k<(aP n n a).length by omega)
   obtain rfl:k=n:=aa
   (repeat(first|(refine aM t2 ?_;conv=>whnf)|(refine ak cO ?_;conv=>whnf)))
   exact Q5
theorem acC {n B:Nat} {a:List Rat} (ha:a.length=n*n) (sa:Sm B a) (hn:n≤5) (hB:B≤2000):ab Tryz.prog 119 [cT 1 nB (aP n n a)] [] (fF (bH n (el a n))) [] []:=by
 have k1:=(FV ha sa hn hB n 0 [] (Nat.zero_add n) (Nat.le_refl _) (fun u hu=>by simp at hu)).wk (args:=[cT 1 nB (aP n n a),iv 0,.val (.slice none 0 0)]) Q28
 rw[oL]at k1
 refine bP [] Tryz.func119 ?_
 intro W0 w0 ρ0 hE
 conv=>whnf
 (repeat(first|(refine aS (by assumption) ?_;conv=>whnf)));exact Q5
end Go.Proofs.YtfpagioknjjacaaGreatDoor
