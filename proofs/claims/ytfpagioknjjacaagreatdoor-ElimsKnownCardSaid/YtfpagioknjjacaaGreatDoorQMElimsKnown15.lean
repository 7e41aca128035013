/- The texts Os. -/
import Derived.Test.YtfpagioknjjacaaGreatDoorQMElimsKnown6
import Derived.Test.YtfpagioknjjacaaGreatDoorQMElimsKnown14
namespace Go.Proofs.YtfpagioknjjacaaGreatDoor
open Go.Sx
set_option linter.unusedSimpArgs false
set_option linter.unusedVariables false
set_option maxRecDepth 100000
set_option maxHeartbeats 40000000
def pS (n B:Nat):Nat→Nat
 |0=>2
 |m+1=>2+n*(B+pS n B m)
theorem G2 {n B:Nat} (hn:n≤5) (hB:B≤2000):∀m,pS n B m≤pS 5 2000 m
 |0=>Nat.le_refl _
 |m+1=>Nat.add_le_add_left (Nat.mul_le_mul hn (Nat.add_le_add hB (G2 hn hB m))) 2
theorem LS {n B m:Nat} (hn:n≤5) (hB:B≤2000) (hm:m≤5):pS n B m≤7817812:=by
 refine Nat.le_trans (G2 hn hB m) ?_
 obtain rfl|rfl|rfl|rfl|rfl|rfl:m=0∨m=1∨m=2∨m=3∨m=4∨m=5:=aa
 all_goals decide
theorem acv (t:Nat) (x:Rat):fs (sg t*x)=fs x:=by
 induction t with
 |zero=>rw[sg];congr 1;grind
 |succ t ih=>rw[sg,show -sg t*x= -(sg t*x) by grind,qF,ih]
theorem G3 {n B S i:Nat} {a:List Rat} (ha:a.length=n*n) (sa:Sm B a) (hi:i<n) (k:Nat) (l:List Nat) (hk:k<n) {D:Rat} (hD:fs D≤S):fs (if k∈l then 0 else sg (turns l k)*el a n i k*D)≤B+S:=by
 split
 ·rw[fO]
  have:=Yv D
  omega
 ·have h1:=eS sa ha hi hk
  have h3:=eE (el a n i k) D
  rw[Rat.mul_assoc,acv];omega
theorem yq {n B:Nat} {a:List Rat} (ha:a.length=n*n) (sa:Sm B a):∀(m i:Nat) (l:List Nat),i+m=n→fs (cN n (el a n) m i l)≤pS n B m
 |0,_,_,_=>Nat.le_of_eq uy
 |m+1,i,l,h=>by
  rw[cN,pS]
  exact Bq (B:=B+pS n B m) n fun k hk=>G3 ha sa aa k l hk (yq ha sa m (i+1) (l++[k]) aa)
abbrev iI (l:List Nat):List Int:=l.map fun u:Nat=>(u:Int)
theorem LU {l:List Nat} {u:Nat} (hu:u<l.length):(iI l).getD u 0=(l.getD u 0:Nat):=by
 simp[List.getD_eq_getElem?_getD,hu]
theorem H8 (l:List Nat):(iI l).length=l.length:=List.length_map _
theorem LW {l:List Nat} {u k:Nat} (hu:u<l.length):k∈l.take (u+1)↔k∈l.take u∨l.getD u 0=k:=by
 have e:l.getD u 0=l[u]:=by rw[List.getD_eq_getElem?_getD,List.getElem?_eq_getElem hu];rfl
 rw[e,List.take_add_one,List.getElem?_eq_getElem hu,List.mem_append,Option.toList_some,List.mem_singleton,eq_comm (a:=k)]
theorem FA {l:List Nat} {u:Nat} (k:Nat) (hu:u<l.length):turns (l.take (u+1)) k=turns (l.take u) k+if k<l.getD u 0 then 1 else 0:=by
 rw[List.take_add_one,List.getD_eq_getElem?_getD,List.getElem?_eq_getElem hu]
 exact eH _ _ _
theorem DM (l:List Nat) (k:Nat):turns l k≤l.length:=List.countP_le_length
theorem G4 {n B:Nat} {a:List Rat} (ha:a.length=n*n) (sa:Sm B a) (hn:n≤5) (hB:B≤2000):∀(m i:Nat) (l:List Nat),i+m=n→l.length≤i→(∀u,u<l.length→l.getD u 0<n)→
  ab Tryz.prog 228 [bF 1 xX (aT n n a),iv i,cO .i64 (iI l)] [] (fF (cN n (el a n) m i l)) [] []
 |0,i,l,h,hl,hv=>by
  obtain rfl:i=n:=aa
  have k1:=BF 1 aI aI
  have t1:((i:Int)==((aT i i a).length:Int))=true:=by rw[et];exact beq_self_eq_true _
  rw[show cN i (el a i) 0 i l=((1:Int):Rat)from rfl]
  refine fZ [] Tryz.func228 ?_
  intro w0 ρ0 hE
  conv=>whnf
  (repeat(first|(refine aS (by assumption) ?_;conv=>whnf)|(refine ao t1 ?_;conv=>whnf)|(refine ah Q8 ?_;conv=>whnf)));exact Q4
 |m+1,i,l,h,hl,hv=>by
  have lr:=et n n a
  have t1:((i:Int)==((aT n n a).length:Int))=false:=by rw[lr];exact beq_eq_false_iff_ne.2 aa
  have k1:=BF 0 aI aI
  have yM:i<n:=aa
  have hg:=iR (c:=n) (a:=a) yM
  have Cc:=H8 l
  have hST:=LS (n:=n) (B:=B) (m:=m+1) hn hB aa
  have hSM:=LS (n:=n) (B:=B) (m:=m) hn hB aa
  generalize hG:(fun k=>if k∈l then 0 else sg (turns l k)*el a n i k*cN n (el a n) m (i+1) (l++[k]))=G
  have hfG:∀k,k≤n→fs (aD k G)≤2+k*(B+pS n B m):=fun k hk=>Bq k fun q hq=>by
   rw[←hG]
   exact G3 ha sa yM q l aa (yq ha sa m (i+1) (l++[q]) aa)
  have hGs:cN n (el a n) (m+1) i l=aD n G:=by rw[←hG];rfl
  rw[hGs]
  refine fZ [100017,100018] Tryz.func228 ?_
  intro w0 ρ0 hE
  conv=>whnf
  (repeat((first|refine aS (by assumption) ?_|refine ay t1 ?_|refine ah Q8 ?_|rw[t1]);conv=>whnf))
  refine aj hE (fun k=>k) [0,1,2,6,7,8] [6,7] (fun M fr hp=>∃k:Nat,M=n - k∧k≤n∧
   fr=[(0,bF 1 xX (aT n n a)),(1,iv i),(2,cO .i64 (iI l)),(6,.ptr 6 0 0 0),(7,.ptr 7 0 0 0),(8,iv (k:Nat))]∧
   hp=[(6,GJ),(7,GK (aD k G))]) n ?_ ?_ ?_
  ·kernel_rfl
  ·exact⟨0,rfl,Nat.zero_le _,rfl,rfl⟩
  clear k1
  rintro M _ _ ⟨k,rfl,hk,rfl,rfl⟩
  conv=>whnf
  by_cases aE:k<n
  ·have t2:=dx (show k<(aT n n a).length by omega)
   have t9:=br (i:=k) aa
   (repeat(first|(refine ao t2 ?_;conv=>whnf)|(refine ah Q8 ?_;conv=>whnf)|(rw[t2];conv=>whnf)))
   refine aj hE (fun k=>k) [0,1,2,6,7,8,9,10,11] [6,7] (fun M fr hp=>∃(u:Nat) (al:Bool),M=l.length - u∧u≤l.length∧al= !decide (k∈l.take u)∧
    fr=[(0,bF 1 xX (aT n n a)),(1,iv i),(2,cO .i64 (iI l)),(6,.ptr 6 0 0 0),(7,.ptr 7 0 0 0),(8,iv (k:Nat)),(9,iv (turns (l.take u) k:Nat)),(10,.val (.bool al)),(11,iv (u:Nat))]∧
    hp=[(6,GJ),(7,GK (aD k G))]) l.length ?_ ?_ ?_
   ·kernel_rfl
   ·exact⟨0,true,rfl,Nat.zero_le _,by simp,rfl,rfl⟩
   rintro M _ _ ⟨u,al,rfl,hu,gx,rfl,rfl⟩
   conv=>whnf
   by_cases qm:u<l.length
   ·have t3:=dx (show u<(iI l).length by omega)
    have t4:=br (i:=u) aa
    have g1:=LU qm
    have htl:=DM (l.take u) k
    have CD:(l.take u).length≤u:=by rw[List.length_take];omega
    have t5:=br (i:=turns (l.take u) k) aa
    have DN:=LW (k:=k) qm
    have htt:=FA k qm
    have hx:u<(iI l).length:=aa
    generalize l.getD u 0=y at*
    have e1:((y:Int) != (k:Int))= !decide (y=k):=by
     by_cases h:y=k
     ·rw[h,decide_eq_true rfl];exact bne_self_eq_false _
     ·rw[decide_eq_false h];exact bne_iff_ne.2 aa
    have LX:(al&& !decide (y=k))= !decide (k∈l.take (u+1)):=by
     rw[gx,decide_eq_decide.2 DN,Bool.decide_or]
     cases decide (k∈l.take u)<;>cases decide (y=k)<;>rfl
    rw[←e1]at LX
    by_cases Px:k<y
    ·have t6:decide ((y:Int)>(k:Int))=true:=decide_eq_true aa
     rw[if_pos Px]at htt
     rw[htt.symm]at t5
     cases al
     ·(repeat((first|refine ae rfl rfl ?_|refine ah dP ?_|refine ao t3 ?_|refine ao t6 ?_|refine ah Q8 ?_|refine ah Q5 ?_|refine ah jw ?_|rw[t3]|rw[g1]|rw[t6]|rw[t5]|rw[t4]);conv=>whnf))
      exact⟨l.length - (u+1),fun k=>k,[0,1,2,6,7,8,9,10,11],[6,7],aa,av,u+1,false,rfl,qm,LX,rfl,rfl⟩
     ·(repeat((first|refine ag rfl rfl ?_|refine ah dO ?_|refine ao t3 ?_|refine ao t6 ?_|refine ah Q8 ?_|refine ah Q5 ?_|refine ah jw ?_|rw[t3]|rw[g1]|rw[t6]|rw[t5]|rw[t4]);conv=>whnf))
      exact⟨l.length - (u+1),fun k=>k,[0,1,2,6,7,8,9,10,11],[6,7],aa,av,u+1,_,rfl,qm,LX,rfl,rfl⟩
    ·have t6:decide ((y:Int)>(k:Int))=false:=decide_eq_false aa
     rw[if_neg Px,Nat.add_zero]at htt
     cases al
     ·(repeat((first|refine ae rfl rfl ?_|refine ah dP ?_|refine ao t3 ?_|refine ay t6 ?_|refine ah Q8 ?_|refine ah Q5 ?_|refine ah jw ?_|rw[t3]|rw[g1]|rw[t6]|rw[t4]);conv=>whnf))
      exact⟨l.length - (u+1),fun k=>k,[0,1,2,6,7,8,9,10,11],[6,7],aa,av,u+1,false,rfl,qm,LX,by rw[htt];rfl,rfl⟩
     ·(repeat((first|refine ag rfl rfl ?_|refine ah dO ?_|refine ao t3 ?_|refine ay t6 ?_|refine ah Q8 ?_|refine ah Q5 ?_|refine ah jw ?_|rw[t3]|rw[g1]|rw[t6]|rw[t4]);conv=>whnf))
      exact⟨l.length - (u+1),fun k=>k,[0,1,2,6,7,8,9,10,11],[6,7],aa,av,u+1,_,rfl,qm,LX,by rw[htt];rfl,rfl⟩
   ·have t3:=dA (show ¬u<(iI l).length by omega)
    rw[List.take_of_length_le aa]at*
    by_cases hm:k∈l
    ·rw[decide_eq_true hm]at gx
     subst gx
     (repeat((first|refine ag rfl rfl ?_|refine ae rfl rfl ?_|refine ah dO ?_|refine ay t3 ?_|refine ah Q8 ?_|rw[t3]|rw[t9]);conv=>whnf))
     refine⟨n - (k+1),fun k=>k,[0,1,2,6,7,8],[6,7],aa,av,k+1,rfl,aE,rfl, ?_⟩
     rw[aD,←hG]
     show _=[(6,GJ),(7,GK (aD k _+if k∈l then 0 else sg (turns l k)*el a n i k*_))]
     rw[if_pos hm,Rat.add_zero]
     rfl
    ·rw[decide_eq_false hm]at gx
     subst gx
     have hx:i<(aT n n a).length:=aa
     have hy:k<((aT n n a).getD i []).length:=by rw[hg,c8 yM ha];exact aE
     have ee:((aT n n a).getD i []).getD k 0=el a n i k:=by rw[hg];exact iw aE
     have fe:fs (el a n i k)≤B:=eS sa ha yM aE
     rw[←ee]at fe
     have ks:=BG (((aT n n a).getD i []).getD k 0) (by have:=Dp (q:=((aT n n a).getD i []).getD k 0) (Nat.le_refl _);omega)
     by_cases hz:((aT n n a).getD i []).getD k 0=0
     ·have t7:((((aT n n a).getD i []).getD k 0).num.sign==0)=true:=by rw[hz];rfl
      (repeat((first|refine ag rfl rfl ?_|refine aS (by assumption) ?_|refine ah dP ?_|refine ay t3 ?_|refine ao t7 ?_|refine ah Q8 ?_|refine ah og ?_|refine ah Q5 ?_|refine ah mP ?_|rw[t3]|rw[t7]|rw[t9]);conv=>whnf))
      refine⟨n - (k+1),fun k=>k,[0,1,2,6,7,8],[6,7],aa,av,k+1,rfl,aE,rfl, ?_⟩
      rw[aD,←hG]
      show _=[(6,GJ),(7,GK (aD k _+if k∈l then 0 else sg (turns l k)*el a n i k*_))]
      rw[if_neg hm,←ee,hz,Rat.mul_zero,Rat.zero_mul,Rat.add_zero]
      rfl
     ·have t7:((((aT n n a).getD i []).getD k 0).num.sign==0)=false:=beq_eq_false_iff_ne.2 fun e=>hz (Rat.num_eq_zero.1 (Int.sign_eq_zero_iff_zero.1 e))
      have hIH:=G4 ha sa hn hB m (i+1) (l++[k]) aa (by rw[List.length_append,List.length_singleton];omega) (fun u hu=>by
       rw[List.length_append,List.length_singleton]at hu
       by_cases g:u<l.length
       ·rw[List.getD_eq_getElem?_getD,List.getElem?_append_left g,←List.getD_eq_getElem?_getD];exact hv u g
       ·obtain rfl:u=l.length:=aa
        simp[List.getD_eq_getElem?_getD];exact aE)
      have Jw:=yq ha sa m (i+1) (l++[k]) aa
      have hGk:G k=sg (turns l k)*(((aT n n a).getD i []).getD k 0*cN n (el a n) m (i+1) (l++[k])):=by
       rw[←hG,ee]
       show(if k∈l then 0 else sg (turns l k)*el a n i k*cN n (el a n) m (i+1) (l++[k]))=_
       rw[if_neg hm,Rat.mul_assoc]
      generalize cN n (el a n) m (i+1) (l++[k])=D at*
      have fm:=eE (((aT n n a).getD i []).getD k 0) D
      have km:=BH (((aT n n a).getD i []).getD k 0) D aa
      have w1:=br (i:=i) aa
      have D9:iI (l++[k])=iI l++[(k:Int)]:=by simp
      have lq:(iI l).length=l.length:=Cc
      (repeat((first|refine ag rfl rfl ?_|refine aS (by assumption) ?_|refine ah dP ?_|refine ay t3 ?_|refine ay t7 ?_|refine ah Q8 ?_|refine ah og ?_|refine ah Q5 ?_|refine ah mP ?_|rw[t3]|rw[t7]);conv=>whnf))
      refine ct (t:=12) (k:=2001) (s:=1) (blk:=fH []) rfl rfl rfl ?_
      refine bA hE ?_
      conv=>whnf
      (repeat(first|(refine aC Q3 ?_;conv=>whnf)|(refine⟨.aO 64 1 0 (0+(iI l).length),[(2001,fH [])],[(64,fH (iI l))],[(2001,⟨3,true,.dead⟩)],nP rfl rfl rfl (ak rfl) (ak rfl) (uF (iI l)) (aJ.get (t:=33) rfl) rfl (aJ.get (t:=33) rfl) rfl (aJ.get (t:=3) rfl) (List.mem_cons_self ..) rfl rfl (by simp[en]) (by simp) (by simp[en]) (by simp[oC];exact List.take_of_length_le (by simp)) (by show(0+_)*Sd.bytes≤_;simp only[Se];omega) aa,dh rfl,c5 rfl,dd (List.mem_cons_self ..) rfl rfl rfl, ?_⟩;conv=>whnf)|(rw[Nat.zero_add];conv=>whnf)))
      refine gT (xs:=iI (l++[k])) 12 67 (fun _ h=>h) rfl (show some (⟨3,true,.ints .i64 (List.take (iI l).length (iI l)++List.take 1 (List.drop 0 [(k:Int)]))⟩:aF)=some ⟨3,true,.ints .i64 (iI (l++[k]))⟩ by rw[D9,List.take_of_length_le (Nat.le_refl _)];rfl) (by rw[D9,List.length_append,List.length_singleton]) ?_
      refine bA hE ?_
      conv=>whnf
      have htl:=DM l k
      have e3:((turns l k:Nat):Int).tmod 2=((turns l k:Nat):Int) % 2:=Int.tmod_eq_emod_of_nonneg (Int.natCast_nonneg _)
      have lI:=hfG k hk
      have hkB:k*(B+pS n B m)≤n*(B+pS n B m):=Nat.mul_le_mul_right _ hk
      have hpS:pS n B (m+1)=2+n*(B+pS n B m):=rfl
      have acx:aD (k+1) G=aD k G+G k:=rfl
      by_cases hodd:turns l k % 2=1
      ·have t8:(((turns l k:Nat):Int).tmod 2==1)=true:=by rw[e3];exact beq_iff_eq.2 aa
       have hsg:sg (turns l k)= -1:=by rw[←sF,wg,if_pos hodd];rfl
       have kn:=KY (((aT n n a).getD i []).getD k 0*D) (by have:=Dp (q:=((aT n n a).getD i []).getD k 0*D) (Nat.le_refl _);omega)
       have ka:=Ff (aD k G) (-(((aT n n a).getD i []).getD k 0*D)) (by rw[qF];omega)
       rw[hsg,show -1*(((aT n n a).getD i []).getD k 0*D)= -(((aT n n a).getD i []).getD k 0*D) by grind]at hGk
       rw[show aD k G+ -(((aT n n a).getD i []).getD k 0*D)=aD (k+1) G from by rw[acx,hGk]]at ka
       clear lI hkB hpS hSM hST
       (repeat((first|refine aq av ?_|refine bX Q3 ?_|refine aS (by assumption) ?_|refine ao t8 ?_|refine ah og ?_|refine ah Q5 ?_|refine ah mP ?_|rw[w1]|rw[t8]|rw[t9]);conv=>whnf))
       exact⟨n - (k+1),fun k=>k,[0,1,2,6,7,8],[6,7],aa,av,k+1,rfl,aE,rfl,rfl⟩
      ·have t8:(((turns l k:Nat):Int).tmod 2==1)=false:=by rw[e3];exact beq_eq_false_iff_ne.2 aa
       have hsg:sg (turns l k)=1:=by rw[←sF,wg,if_neg hodd];rfl
       have ka:=Ff (aD k G) (((aT n n a).getD i []).getD k 0*D) aa
       rw[hsg,show 1*(((aT n n a).getD i []).getD k 0*D)=((aT n n a).getD i []).getD k 0*D by grind]at hGk
       rw[show aD k G+((aT n n a).getD i []).getD k 0*D=aD (k+1) G from by rw[acx,hGk]]at ka
       clear lI hkB hpS hSM hST
       (repeat((first|refine aq av ?_|refine bX Q3 ?_|refine aS (by assumption) ?_|refine ay t8 ?_|refine ah og ?_|refine ah Q5 ?_|refine ah mP ?_|rw[w1]|rw[t8]|rw[t9]);conv=>whnf))
       exact⟨n - (k+1),fun k=>k,[0,1,2,6,7,8],[6,7],aa,av,k+1,rfl,aE,rfl,rfl⟩
  ·have t2:=dA (show ¬k<(aT n n a).length by omega)
   obtain rfl:k=n:=aa
   (repeat(first|(refine ay t2 ?_;conv=>whnf)|(refine ah Q8 ?_;conv=>whnf)))
   exact Q4
theorem acy {n B:Nat} {a:List Rat} (ha:a.length=n*n) (sa:Sm B a) (hn:n≤5) (hB:B≤2000):ab Tryz.prog 119 [bF 1 xX (aT n n a)] [] (fF (bL n (el a n))) [] []:=by
 have k1:=(G4 ha sa hn hB n 0 [] (Nat.zero_add n) (Nat.le_refl _) (fun u hu=>by simp at hu)).wk (args:=[bF 1 xX (aT n n a),iv 0,.val (.slice none 0 0)]) Q29
 rw[HY]at k1
 refine bT [] Tryz.func119 ?_
 intro W0 w0 ρ0 hE
 conv=>whnf
 (repeat(first|(refine aS (by assumption) ?_;conv=>whnf)));exact Q4
end Go.Proofs.YtfpagioknjjacaaGreatDoor
