/- The texts Os. -/
import Derived.Test.YtfpagioknjjacaaGreatDoorQMModesCount6
import Derived.Test.YtfpagioknjjacaaGreatDoorQMModesCount9
import Derived.Test.YtfpagioknjjacaaGreatDoorQMModesCount7
namespace Go.Proofs.YtfpagioknjjacaaGreatDoor
open Go.Sx
set_option linter.unusedSimpArgs false
set_option linter.unusedVariables false
set_option maxRecDepth 100000
set_option maxHeartbeats 40000000
def pS (n B:Nat):Nat→Nat
 |0=>2
 |m+1=>2+n*(B+pS n B m)
theorem IB {n B:Nat} (hn:n≤5) (hB:B≤2000):∀m,pS n B m≤pS 5 2000 m
 |0=>Nat.le_refl _
 |m+1=>Nat.add_le_add_left (Nat.mul_le_mul hn (Nat.add_le_add hB (IB hn hB m))) 2
theorem NU {n B m:Nat} (hn:n≤5) (hB:B≤2000) (hm:m≤5):pS n B m≤7817812:=by
 refine Nat.le_trans (IB hn hB m) ?_
 obtain rfl|rfl|rfl|rfl|rfl|rfl:m=0∨m=1∨m=2∨m=3∨m=4∨m=5:=aa
 all_goals decide
theorem afU (t:Nat) (x:Rat):fs (sg t*x)=fs x:=by
 induction t with
 |zero=>rw[sg];congr 1;grind
 |succ t ih=>rw[sg,show -sg t*x= -(sg t*x) by grind,oX,ih]
theorem IC {n B S i:Nat} {a:List Rat} (ha:a.length=n*n) (sa:Sm B a) (hi:i<n) (k:Nat) (l:List Nat) (hk:k<n) {D:Rat} (hD:fs D≤S):fs (if k∈l then 0 else sg (turns l k)*el a n i k*D)≤B+S:=by
 split
 ·rw[eh]
  have:=LZ D
  omega
 ·have h1:=jE sa ha hi hk
  have h3:=cT (el a n i k) D
  rw[Rat.mul_assoc,afU];omega
theorem sY {n B:Nat} {a:List Rat} (ha:a.length=n*n) (sa:Sm B a):∀(m i:Nat) (l:List Nat),i+m=n→fs (cA n (el a n) m i l)≤pS n B m
 |0,_,_,_=>Nat.le_of_eq mf
 |m+1,i,l,h=>by
  rw[cA,pS]
  exact uw (B:=B+pS n B m) n fun k hk=>IC ha sa aa k l hk (sY ha sa m (i+1) (l++[k]) aa)
abbrev im (l:List Nat):List Int:=l.map fun u:Nat=>(u:Int)
theorem NV {l:List Nat} {u:Nat} (hu:u<l.length):(im l).getD u 0=(l.getD u 0:Nat):=by
 simp[List.getD_eq_getElem?_getD,hu]
theorem JU (l:List Nat):(im l).length=l.length:=List.length_map _
theorem NW {l:List Nat} {u k:Nat} (hu:u<l.length):k∈l.take (u+1)↔k∈l.take u∨l.getD u 0=k:=by
 have e:l.getD u 0=l[u]:=by rw[List.getD_eq_getElem?_getD,List.getElem?_eq_getElem hu];rfl
 rw[e,List.take_add_one,List.getElem?_eq_getElem hu,List.mem_append,Option.toList_some,List.mem_singleton,eq_comm (a:=k)]
theorem G0 {l:List Nat} {u:Nat} (k:Nat) (hu:u<l.length):turns (l.take (u+1)) k=turns (l.take u) k+if k<l.getD u 0 then 1 else 0:=by
 rw[List.take_add_one,List.getD_eq_getElem?_getD,List.getElem?_eq_getElem hu]
 exact ek _ _ _
theorem E1 (l:List Nat) (k:Nat):turns l k≤l.length:=List.countP_le_length
theorem ID {n B:Nat} {a:List Rat} (ha:a.length=n*n) (sa:Sm B a) (hn:n≤5) (hB:B≤2000):∀(m i:Nat) (l:List Nat),i+m=n→l.length≤i→(∀u,u<l.length→l.getD u 0<n)→
  af Tryz.prog 228 [bX 1 lG (bs n n a),iv i,mc .i64 (im l)] [] (fF (cA n (el a n) m i l)) [] []
 |0,i,l,h,hl,hv=>by
  obtain rfl:i=n:=aa
  have k1:=nW 1 aH aH
  have t1:((i:Int)==((bs i i a).length:Int))=true:=by rw[iQ];exact beq_self_eq_true _
  rw[show cA i (el a i) 0 i l=((1:Int):Rat)from rfl]
  refine qU [] Tryz.func228 ?_
  intro w0 ρ0 hE
  conv=>whnf
  (repeat(first|(refine a8 (by assumption) ?_;conv=>whnf)|(refine aN t1 ?_;conv=>whnf)|(refine aC Q7 ?_;conv=>whnf)));exact Q4
 |m+1,i,l,h,hl,hv=>by
  have lr:=iQ n n a
  have t1:((i:Int)==((bs n n a).length:Int))=false:=by rw[lr];exact beq_eq_false_iff_ne.2 aa
  have k1:=nW 0 aH aH
  have oJ:i<n:=aa
  have hg:=mU (c:=n) (a:=a) oJ
  have CZ:=JU l
  have hST:=NU (n:=n) (B:=B) (m:=m+1) hn hB aa
  have hSM:=NU (n:=n) (B:=B) (m:=m) hn hB aa
  generalize hG:(fun k=>if k∈l then 0 else sg (turns l k)*el a n i k*cA n (el a n) m (i+1) (l++[k]))=G
  have hfG:∀k,k≤n→fs (ao k G)≤2+k*(B+pS n B m):=fun k hk=>uw k fun q hq=>by
   rw[←hG]
   exact IC ha sa oJ q l aa (sY ha sa m (i+1) (l++[q]) aa)
  have hGs:cA n (el a n) (m+1) i l=ao n G:=by rw[←hG];rfl
  rw[hGs]
  refine qU [100017,100018] Tryz.func228 ?_
  intro w0 ρ0 hE
  conv=>whnf
  (repeat((first|refine a8 (by assumption) ?_|refine aW t1 ?_|refine aC Q7 ?_|rw[t1]);conv=>whnf))
  refine az hE (fun k=>k) [0,1,2,6,7,8] [6,7] (fun M fr hp=>∃k:Nat,M=n - k∧k≤n∧
   fr=[(0,bX 1 lG (bs n n a)),(1,iv i),(2,mc .i64 (im l)),(6,.ptr 6 0 0 0),(7,.ptr 7 0 0 0),(8,iv (k:Nat))]∧
   hp=[(6,EN),(7,Iq (ao k G))]) n ?_ ?_ ?_
  ·kernel_rfl
  ·exact⟨0,rfl,Nat.zero_le _,rfl,rfl⟩
  clear k1
  rintro M _ _ ⟨k,rfl,hk,rfl,rfl⟩
  conv=>whnf
  by_cases aI:k<n
  ·have t2:=jD (show k<(bs n n a).length by omega)
   have t9:=cp (i:=k) aa
   (repeat(first|(refine aN t2 ?_;conv=>whnf)|(refine aC Q7 ?_;conv=>whnf)|(rw[t2];conv=>whnf)))
   refine az hE (fun k=>k) [0,1,2,6,7,8,9,10,11] [6,7] (fun M fr hp=>∃(u:Nat) (al:Bool),M=l.length - u∧u≤l.length∧al= !decide (k∈l.take u)∧
    fr=[(0,bX 1 lG (bs n n a)),(1,iv i),(2,mc .i64 (im l)),(6,.ptr 6 0 0 0),(7,.ptr 7 0 0 0),(8,iv (k:Nat)),(9,iv (turns (l.take u) k:Nat)),(10,.val (.bool al)),(11,iv (u:Nat))]∧
    hp=[(6,EN),(7,Iq (ao k G))]) l.length ?_ ?_ ?_
   ·kernel_rfl
   ·exact⟨0,true,rfl,Nat.zero_le _,by simp,rfl,rfl⟩
   rintro M _ _ ⟨u,al,rfl,hu,Kg,rfl,rfl⟩
   conv=>whnf
   by_cases UE:u<l.length
   ·have t3:=jD (show u<(im l).length by omega)
    have t4:=cp (i:=u) aa
    have g1:=NV UE
    have htl:=E1 (l.take u) k
    have I4:(l.take u).length≤u:=by rw[List.length_take];omega
    have t5:=cp (i:=turns (l.take u) k) aa
    have hmt:=NW (k:=k) UE
    have QJ:=G0 k UE
    have hx:u<(im l).length:=aa
    generalize l.getD u 0=y at*
    have e1:((y:Int) != (k:Int))= !decide (y=k):=by
     by_cases h:y=k
     ·rw[h,decide_eq_true rfl];exact bne_self_eq_false _
     ·rw[decide_eq_false h];exact bne_iff_ne.2 aa
    have NX:(al&& !decide (y=k))= !decide (k∈l.take (u+1)):=by
     rw[Kg,decide_eq_decide.2 hmt,Bool.decide_or]
     cases decide (k∈l.take u)<;>cases decide (y=k)<;>rfl
    rw[←e1]at NX
    by_cases Sw:k<y
    ·have t6:decide ((y:Int)>(k:Int))=true:=decide_eq_true aa
     rw[if_pos Sw]at QJ
     rw[QJ.symm]at t5
     cases al
     ·(repeat((first|refine ag rfl rfl ?_|refine aC ik ?_|refine aN t3 ?_|refine aN t6 ?_|refine aC Q7 ?_|refine aC Q6 ?_|refine aC FA ?_|rw[t3]|rw[g1]|rw[t6]|rw[t5]|rw[t4]);conv=>whnf))
      exact⟨l.length - (u+1),fun k=>k,[0,1,2,6,7,8,9,10,11],[6,7],aa,aF,u+1,false,rfl,UE,NX,rfl,rfl⟩
     ·(repeat((first|refine ah rfl rfl ?_|refine aC iT ?_|refine aN t3 ?_|refine aN t6 ?_|refine aC Q7 ?_|refine aC Q6 ?_|refine aC FA ?_|rw[t3]|rw[g1]|rw[t6]|rw[t5]|rw[t4]);conv=>whnf))
      exact⟨l.length - (u+1),fun k=>k,[0,1,2,6,7,8,9,10,11],[6,7],aa,aF,u+1,_,rfl,UE,NX,rfl,rfl⟩
    ·have t6:decide ((y:Int)>(k:Int))=false:=decide_eq_false aa
     rw[if_neg Sw,Nat.add_zero]at QJ
     cases al
     ·(repeat((first|refine ag rfl rfl ?_|refine aC ik ?_|refine aN t3 ?_|refine aW t6 ?_|refine aC Q7 ?_|refine aC Q6 ?_|refine aC FA ?_|rw[t3]|rw[g1]|rw[t6]|rw[t4]);conv=>whnf))
      exact⟨l.length - (u+1),fun k=>k,[0,1,2,6,7,8,9,10,11],[6,7],aa,aF,u+1,false,rfl,UE,NX,by rw[QJ];rfl,rfl⟩
     ·(repeat((first|refine ah rfl rfl ?_|refine aC iT ?_|refine aN t3 ?_|refine aW t6 ?_|refine aC Q7 ?_|refine aC Q6 ?_|refine aC FA ?_|rw[t3]|rw[g1]|rw[t6]|rw[t4]);conv=>whnf))
      exact⟨l.length - (u+1),fun k=>k,[0,1,2,6,7,8,9,10,11],[6,7],aa,aF,u+1,_,rfl,UE,NX,by rw[QJ];rfl,rfl⟩
   ·have t3:=jP (show ¬u<(im l).length by omega)
    rw[List.take_of_length_le aa]at*
    by_cases hm:k∈l
    ·rw[decide_eq_true hm]at Kg
     subst Kg
     (repeat((first|refine ah rfl rfl ?_|refine ag rfl rfl ?_|refine aC iT ?_|refine aW t3 ?_|refine aC Q7 ?_|rw[t3]|rw[t9]);conv=>whnf))
     refine⟨n - (k+1),fun k=>k,[0,1,2,6,7,8],[6,7],aa,aF,k+1,rfl,aI,rfl, ?_⟩
     rw[ao,←hG]
     show _=[(6,EN),(7,Iq (ao k _+if k∈l then 0 else sg (turns l k)*el a n i k*_))]
     rw[if_pos hm,Rat.add_zero]
     rfl
    ·rw[decide_eq_false hm]at Kg
     subst Kg
     have hx:i<(bs n n a).length:=aa
     have hy:k<((bs n n a).getD i []).length:=by rw[hg,fg oJ ha];exact aI
     have ee:((bs n n a).getD i []).getD k 0=el a n i k:=by rw[hg];exact jx aI
     have fe:fs (el a n i k)≤B:=jE sa ha oJ aI
     rw[←ee]at fe
     have ks:=wD (((bs n n a).getD i []).getD k 0) (by have:=EJ (q:=((bs n n a).getD i []).getD k 0) (Nat.le_refl _);omega)
     by_cases hz:((bs n n a).getD i []).getD k 0=0
     ·have t7:((((bs n n a).getD i []).getD k 0).num.sign==0)=true:=by rw[hz];rfl
      (repeat((first|refine ah rfl rfl ?_|refine a8 (by assumption) ?_|refine aC ik ?_|refine aW t3 ?_|refine aN t7 ?_|refine aC Q7 ?_|refine aC An ?_|refine aC Q6 ?_|refine aC Kk ?_|rw[t3]|rw[t7]|rw[t9]);conv=>whnf))
      refine⟨n - (k+1),fun k=>k,[0,1,2,6,7,8],[6,7],aa,aF,k+1,rfl,aI,rfl, ?_⟩
      rw[ao,←hG]
      show _=[(6,EN),(7,Iq (ao k _+if k∈l then 0 else sg (turns l k)*el a n i k*_))]
      rw[if_neg hm,←ee,hz,Rat.mul_zero,Rat.zero_mul,Rat.add_zero]
      rfl
     ·have t7:((((bs n n a).getD i []).getD k 0).num.sign==0)=false:=beq_eq_false_iff_ne.2 fun e=>hz (Rat.num_eq_zero.1 (Int.sign_eq_zero_iff_zero.1 e))
      have hIH:=ID ha sa hn hB m (i+1) (l++[k]) aa (by rw[List.length_append,List.length_singleton];omega) (fun u hu=>by
       rw[List.length_append,List.length_singleton]at hu
       by_cases g:u<l.length
       ·rw[List.getD_eq_getElem?_getD,List.getElem?_append_left g,←List.getD_eq_getElem?_getD];exact hv u g
       ·obtain rfl:u=l.length:=aa
        simp[List.getD_eq_getElem?_getD];exact aI)
      have hfs:=sY ha sa m (i+1) (l++[k]) aa
      have hGk:G k=sg (turns l k)*(((bs n n a).getD i []).getD k 0*cA n (el a n) m (i+1) (l++[k])):=by
       rw[←hG,ee]
       show(if k∈l then 0 else sg (turns l k)*el a n i k*cA n (el a n) m (i+1) (l++[k]))=_
       rw[if_neg hm,Rat.mul_assoc]
      generalize cA n (el a n) m (i+1) (l++[k])=D at*
      have fm:=cT (((bs n n a).getD i []).getD k 0) D
      have km:=Nv (((bs n n a).getD i []).getD k 0) D aa
      have w1:=cp (i:=i) aa
      have zr:im (l++[k])=im l++[(k:Int)]:=by simp
      have lq:(im l).length=l.length:=CZ
      (repeat((first|refine ah rfl rfl ?_|refine a8 (by assumption) ?_|refine aC ik ?_|refine aW t3 ?_|refine aW t7 ?_|refine aC Q7 ?_|refine aC An ?_|refine aC Q6 ?_|refine aC Kk ?_|rw[t3]|rw[t7]);conv=>whnf))
      refine dU (t:=12) (k:=2001) (s:=1) (blk:=NT []) rfl rfl rfl ?_
      refine kG hE ?_
      conv=>whnf
      (repeat(first|(refine av Q3 ?_;conv=>whnf)|(refine⟨.aK 64 1 0 (0+(im l).length),[(2001,NT [])],[(64,NT (im l))],[(2001,⟨3,true,.dead⟩)],nU rfl rfl rfl (ak rfl) (ak rfl) (uI (im l)) (aM.get (t:=33) rfl) rfl (aM.get (t:=33) rfl) rfl (aM.get (t:=3) rfl) (List.mem_cons_self ..) rfl rfl (by simp[fi]) (by simp) (by simp[fi]) (by simp[q9];exact List.take_of_length_le (by simp)) (by show(0+_)*V6.bytes≤_;simp only[V7];omega) aa,dD rfl,dx rfl,dQ (List.mem_cons_self ..) rfl rfl rfl, ?_⟩;conv=>whnf)|(rw[Nat.zero_add];conv=>whnf)))
      refine E0 (xs:=im (l++[k])) 12 67 (fun _ h=>h) rfl (show some (⟨3,true,.ints .i64 (List.take (im l).length (im l)++List.take 1 (List.drop 0 [(k:Int)]))⟩:aA)=some ⟨3,true,.ints .i64 (im (l++[k]))⟩ by rw[zr,List.take_of_length_le (Nat.le_refl _)];rfl) (by rw[zr,List.length_append,List.length_singleton]) ?_
      refine kG hE ?_
      conv=>whnf
      have htl:=E1 l k
      have e3:((turns l k:Nat):Int).tmod 2=((turns l k:Nat):Int) % 2:=Int.tmod_eq_emod_of_nonneg (Int.natCast_nonneg _)
      have lD:=hfG k hk
      have hkB:k*(B+pS n B m)≤n*(B+pS n B m):=Nat.mul_le_mul_right _ hk
      have pU:pS n B (m+1)=2+n*(B+pS n B m):=rfl
      have afV:ao (k+1) G=ao k G+G k:=rfl
      by_cases hodd:turns l k % 2=1
      ·have t8:(((turns l k:Nat):Int).tmod 2==1)=true:=by rw[e3];exact beq_iff_eq.2 aa
       have hsg:sg (turns l k)= -1:=by rw[←si,wo,if_pos hodd];rfl
       have kn:=abP (((bs n n a).getD i []).getD k 0*D) (by have:=EJ (q:=((bs n n a).getD i []).getD k 0*D) (Nat.le_refl _);omega)
       have ka:=Nu (ao k G) (-(((bs n n a).getD i []).getD k 0*D)) (by rw[oX];omega)
       rw[hsg,show -1*(((bs n n a).getD i []).getD k 0*D)= -(((bs n n a).getD i []).getD k 0*D) by grind]at hGk
       rw[show ao k G+ -(((bs n n a).getD i []).getD k 0*D)=ao (k+1) G from by rw[afV,hGk]]at ka
       clear lD hkB pU hSM hST
       (repeat((first|refine aB aF ?_|refine dR Q3 ?_|refine a8 (by assumption) ?_|refine aN t8 ?_|refine aC An ?_|refine aC Q6 ?_|refine aC Kk ?_|rw[w1]|rw[t8]|rw[t9]);conv=>whnf))
       exact⟨n - (k+1),fun k=>k,[0,1,2,6,7,8],[6,7],aa,aF,k+1,rfl,aI,rfl,rfl⟩
      ·have t8:(((turns l k:Nat):Int).tmod 2==1)=false:=by rw[e3];exact beq_eq_false_iff_ne.2 aa
       have hsg:sg (turns l k)=1:=by rw[←si,wo,if_neg hodd];rfl
       have ka:=Nu (ao k G) (((bs n n a).getD i []).getD k 0*D) aa
       rw[hsg,show 1*(((bs n n a).getD i []).getD k 0*D)=((bs n n a).getD i []).getD k 0*D by grind]at hGk
       rw[show ao k G+((bs n n a).getD i []).getD k 0*D=ao (k+1) G from by rw[afV,hGk]]at ka
       clear lD hkB pU hSM hST
       (repeat((first|refine aB aF ?_|refine dR Q3 ?_|refine a8 (by assumption) ?_|refine aW t8 ?_|refine aC An ?_|refine aC Q6 ?_|refine aC Kk ?_|rw[w1]|rw[t8]|rw[t9]);conv=>whnf))
       exact⟨n - (k+1),fun k=>k,[0,1,2,6,7,8],[6,7],aa,aF,k+1,rfl,aI,rfl,rfl⟩
  ·have t2:=jP (show ¬k<(bs n n a).length by omega)
   obtain rfl:k=n:=aa
   (repeat(first|(refine aW t2 ?_;conv=>whnf)|(refine aC Q7 ?_;conv=>whnf)))
   exact Q4
theorem afW {n B:Nat} {a:List Rat} (ha:a.length=n*n) (sa:Sm B a) (hn:n≤5) (hB:B≤2000):af Tryz.prog 119 [bX 1 lG (bs n n a)] [] (fF (bD n (el a n))) [] []:=by
 have k1:=(ID ha sa hn hB n 0 [] (Nat.zero_add n) (Nat.le_refl _) (fun u hu=>by simp at hu)).wk (args:=[bX 1 lG (bs n n a),iv 0,.val (.slice none 0 0)]) (by repeat(first|exact Ry.nil|refine Ry.cons ?_ ?_|exact Wk.nil|exact Wk.refl|refine Wk.agg ?_))
 rw[AF]at k1
 refine cj [] Tryz.func119 ?_
 intro W0 w0 ρ0 hE
 conv=>whnf
 (repeat(first|(refine a8 (by assumption) ?_;conv=>whnf)));exact Q4
end Go.Proofs.YtfpagioknjjacaaGreatDoor
