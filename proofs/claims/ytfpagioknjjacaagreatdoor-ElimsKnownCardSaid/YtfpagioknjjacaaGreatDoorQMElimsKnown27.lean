/- The texts Bk. -/
import Derived.Test.YtfpagioknjjacaaGreatDoorQMElimsKnown23
import Derived.Test.YtfpagioknjjacaaGreatDoorQMElimsKnown20
import Derived.Test.YtfpagioknjjacaaGreatDoorQMElimsKnown16
namespace Go.Proofs.YtfpagioknjjacaaGreatDoor
open Go.Sx
set_option linter.unusedSimpArgs false
set_option linter.unusedVariables false
set_option maxRecDepth 100000
set_option maxHeartbeats 40000000
theorem Ip {r c:Nat} {w:Mx} {sp:List Nat} (h:RE r c w sp) (hr:r≤12) (hc:c≤12):ab Tryz.prog 120 [mA r c (mk r c w),cO .i64 (sp.map cY)] [] (.val (.bool true)) [] []:=by
 have hlp:(sp.map cY).length=sp.length:=List.length_map _
 have ZI:=fun j (hj:j<sp.length)=>uT (sp:=sp) hj
 have hX:∀i k,i<r→k<c→(mk r c w).getD (i*c+k) 0=w i k:=fun i k hi hk=>ec hi hk
 have hXl:(mk r c w).length=r*c:=dJ ..
 have Jd:r*c≤12*12:=Nat.mul_le_mul hr hc
 have hle:=h.len
 have ag8:=h.le
 have w0:IntKind.i64.wrap ((r:Int)*(c:Int))=((r*c:Nat):Int):=(kK (i:=r) (k:=0) (c:=c) aa aa aa).1
 generalize mk r c w=M at*
 generalize sp.map cY=P at*
 have t0:decide ((P.length:Int)>(r:Int))=false:=decide_eq_false aa
 have t1:((M.length:Int) != ((r*c:Nat):Int))=false:=by rw[hXl];exact bne_self_eq_false _
 have ki:ab Tryz.prog 18 [iv 1] [] (.frac 1) [] []:=dI 1 aI aI
 refine bT [2,100010,100015] Tryz.func120 ?_
 intro W0 w0' ρ0 hE
 conv=>whnf
 (repeat((first|refine ag rfl rfl ?_|refine ah dP ?_|refine ay t1 ?_|refine ah Q8 ?_|refine ah Q5 ?_|refine ah Q7 ?_|rw[t0]|rw[t1]|rw[w0]);conv=>whnf))
 refine aj hE (fun k=>k) [1,2,5] [] (fun m fr hp=>∃i:Nat,m=r - i∧i≤r∧fr=[(1,cO .i64 P),(2,bE (mC r c M)),(5,iv i)]∧hp=[]) r ?_ ?_ ?_
 ·kernel_rfl
 ·exact⟨0,rfl,Nat.zero_le _,rfl,rfl⟩
 rintro m _ _ ⟨i,rfl,hi,rfl,rfl⟩
 conv=>whnf
 by_cases aE:i<r
 ·have t2:=dx aE
  have t3:=br (i:=i) aa
  (repeat((first|refine ao t2 ?_|refine ah Q5 ?_|refine ah Q7 ?_|rw[t2]);conv=>whnf))
  refine aj hE (fun k=>k) [1,2,5,6] [] (fun m fr hp=>∃k:Nat,m=c - k∧k≤c∧fr=[(1,cO .i64 P),(2,bE (mC r c M)),(5,iv i),(6,iv k)]∧hp=[]) c ?_ ?_ ?_
  ·kernel_rfl
  ·exact⟨0,rfl,Nat.zero_le _,rfl,rfl⟩
  rintro m _ _ ⟨k,rfl,hk,rfl,rfl⟩
  conv=>whnf
  by_cases hkc:k<c
  ·have t4:=dx hkc
   have t5:=br (i:=k) aa
   obtain⟨w1,w2⟩:=kK (i:=i) (k:=k) (c:=c) aa aa aa
   have hix:=gF aE hkc
   have b1:i*c+k<M.length:=aa
   have hx:=hX i k aE hkc
   have Ee:=ZI
   have Ef:∀p,p<sp.length→sp.getD p 0=k→p≠i→M.getD (i*c+k) 0=0:=fun p hp e bW=>by
    have:=h.unit p hp i aE
    rw[e,if_neg (Ne.symm bW)]at this
    rw[hx,this]
   by_cases hip:i<sp.length
   ·have t6:decide ((i:Int)≥(P.length:Int))=false:=decide_eq_false aa
    have t7:=dx (show i<P.length by omega)
    have g1:=ZI i hip
    have hiP:i<P.length:=aa
    rcases Nat.lt_trichotomy k (sp.getD i 0)with g|g|g
    ·have hx0:M.getD (i*c+k) 0=0:=by rw[hx];exact h.left i hip k g
     obtain⟨y,hy⟩:∃y,sp.getD i 0=y:=⟨_,rfl⟩
     rw[hy]at g1 g
     have t8:=dx g
     have t9:((k:Int)==(y:Int))=false:=beq_eq_false_iff_ne.2 aa
     clear hX hx
     (repeat((first|refine ao t4 ?_|refine ah Q5 ?_|refine ah IG ?_|refine ah Q7 ?_|rw[t4]|rw[w1]|rw[w2]|rw[Int.toNat_natCast]);conv=>whnf))
     refine cB (fr1:= ?frh1) (hp1:= ?hph1) (fun K hK=>bA hE ?rah1) ?rbh1
     case rah1=>
      conv=>whnf
      (repeat((first|refine ag rfl rfl ?_|refine aq av ?_|refine ah dO ?_|refine ah dP ?_|refine ay t6 ?_|refine ao t7 ?_|refine ao t8 ?_|refine ay t9 ?_|refine ah Q8 ?_|refine ah Q5 ?_|refine ah jw ?_|refine⟨_,cn aJ cy rfl (ak rfl) (ak rfl) rfl rfl rfl rfl (kX (hx0)) cf, ?_⟩|rw[t6]|rw[t7]|rw[g1]|rw[t8]|rw[t9]);conv=>whnf))
      exact hK
     conv=>whnf
     (repeat(first|(refine ae rfl rfl ?_;conv=>whnf)))
     refine aj hE (fun k=>k) [1,2,5,6,7,8] [7] (fun m fr hp=>∃p:Nat,m=sp.length - p∧p≤sp.length∧fr=[(1,cO .i64 P),(2,bE (mC r c M)),(5,iv i),(6,iv k),(7,.ptr 7 0 0 0),(8,iv p)]∧hp=[(7,⟨52,true,.one [.frac (M.getD (i*c+k) 0)]⟩)]) sp.length ?_ ?_ ?_
     ·kernel_rfl
     ·exact⟨0,rfl,Nat.zero_le _,rfl,rfl⟩
     rintro m _ _ ⟨p,rfl,hp,rfl,rfl⟩
     conv=>whnf
     by_cases iF:p<sp.length
     ·have s1:=dx (show p<P.length by omega)
      have s2:=br (i:=p) aa
      have s3:P.getD p 0=((sp.getD p 0:Nat):Int):=Ee p iF
      have b2:p<P.length:=aa
      by_cases e:sp.getD p 0=k
      ·have s4:((k:Int)==(k:Int))=true:=beq_self_eq_true _
       rw[e]at s3
       by_cases f:p=i
       ·have s5:((p:Int) != (i:Int))=false:=by rw[f];exact bne_self_eq_false _
        clear Ee Ef
        (repeat(first|(refine ao s1 ?_;conv=>whnf)|(refine ah Q8 ?_;conv=>whnf)|(rw[s1];conv=>whnf)))
        refine cB (fr1:= ?frah1) (hp1:= ?hpah1) (fun K hK=>bA hE ?raah1) ?rbah1
        case raah1=>
         conv=>whnf
         (repeat((first|refine ag rfl rfl ?_|refine ah dO ?_|refine ah dP ?_|rw[beq_self_eq_true]|refine ay s5 ?_|refine ah Q5 ?_|refine ah jw ?_|rw[s3]|rw[s5]);conv=>whnf))
         exact hK
        conv=>whnf
        (repeat(first|(refine ae rfl rfl ?_;conv=>whnf)|(rw[s2];conv=>whnf)))
        exact⟨sp.length - (p+1),fun k=>k,[1,2,5,6,7,8],[7],aa,av,p+1,rfl,iF,rfl,rfl⟩
       ·have s5:((p:Int) != (i:Int))=true:=bne_iff_ne.2 aa
        have hz:=Ef p iF e f
        clear Ee Ef
        (repeat(first|(refine ao s1 ?_;conv=>whnf)|(refine ah Q8 ?_;conv=>whnf)|(rw[s1];conv=>whnf)))
        refine cB (fr1:= ?frbh1) (hp1:= ?hpbh1) (fun K hK=>bA hE ?rabh1) ?rbbh1
        case rabh1=>
         conv=>whnf
         (repeat((first|refine ag rfl rfl ?_|refine ah dO ?_|rw[beq_self_eq_true]|refine ao s5 ?_|refine ah Q5 ?_|refine ah jw ?_|refine⟨_,cn aJ cy rfl (ak rfl) (ak rfl) rfl rfl rfl rfl (kX (hz)) cf, ?_⟩|rw[s3]|rw[s5]);conv=>whnf))
         exact hK
        conv=>whnf
        (repeat(first|(refine ae rfl rfl ?_;conv=>whnf)|(rw[s2];conv=>whnf)))
        exact⟨sp.length - (p+1),fun k=>k,[1,2,5,6,7,8],[7],aa,av,p+1,rfl,iF,rfl,rfl⟩
      ·clear Ee Ef
       generalize sp.getD p 0=z at*
       have s4:((z:Int)==(k:Int))=false:=beq_eq_false_iff_ne.2 aa
       (repeat(first|(refine ao s1 ?_;conv=>whnf)|(refine ah Q8 ?_;conv=>whnf)|(rw[s1];conv=>whnf)))
       refine cB (fr1:= ?frch1) (hp1:= ?hpch1) (fun K hK=>bA hE ?rach1) ?rbch1
       case rach1=>
        conv=>whnf
        (repeat((first|refine ae rfl rfl ?_|refine ah dP ?_|refine ay s4 ?_|refine ah Q5 ?_|refine ah jw ?_|rw[s3]|rw[s4]);conv=>whnf))
        exact hK
       conv=>whnf
       (repeat(first|(refine ae rfl rfl ?_;conv=>whnf)|(rw[s2];conv=>whnf)))
       exact⟨sp.length - (p+1),fun k=>k,[1,2,5,6,7,8],[7],aa,av,p+1,rfl,iF,rfl,rfl⟩
     ·have s1:=dA (show ¬p<P.length by omega)
      (repeat((first|refine ay s1 ?_|refine ah Q8 ?_|rw[s1]|rw[t5]);conv=>whnf))
      exact⟨c - (k+1),fun k=>k,[1,2,5,6],[],aa,av,k+1,rfl,hkc,rfl,rfl⟩
    ·have RZ:M.getD (i*c+k) 0=1:=by rw[hx,g,h.unit i hip i aE,if_pos rfl]
     obtain⟨y,hy⟩:∃y,sp.getD i 0=y:=⟨_,rfl⟩
     rw[hy]at g1 g
     have t8:=dA (show ¬k<y by omega)
     have t9:((k:Int)==(y:Int))=true:=by rw[g];exact beq_self_eq_true _
     clear hX hx
     (repeat((first|refine ao t4 ?_|refine ah Q5 ?_|refine ah IG ?_|refine ah Q7 ?_|rw[t4]|rw[w1]|rw[w2]|rw[Int.toNat_natCast]);conv=>whnf))
     refine cB (fr1:= ?frh2) (hp1:= ?hph2) (fun K hK=>bA hE ?rah2) ?rbh2
     case rah2=>
      conv=>whnf
      (repeat((first|refine ag rfl rfl ?_|refine aq av ?_|refine aS (by assumption) ?_|refine ah dO ?_|refine ah dP ?_|refine ay t6 ?_|refine ao t7 ?_|refine ay t8 ?_|refine ao t9 ?_|refine ah Q8 ?_|refine ah Q5 ?_|refine ah jw ?_|refine⟨_,cn aJ cy rfl (ak rfl) (ak rfl) rfl rfl rfl rfl (kX (RZ)) cf, ?_⟩|rw[t6]|rw[t7]|rw[g1]|rw[t8]|rw[t9]);conv=>whnf))
      exact hK
     conv=>whnf
     (repeat(first|(refine ae rfl rfl ?_;conv=>whnf)))
     refine aj hE (fun k=>k) [1,2,5,6,7,8] [7] (fun m fr hp=>∃p:Nat,m=sp.length - p∧p≤sp.length∧fr=[(1,cO .i64 P),(2,bE (mC r c M)),(5,iv i),(6,iv k),(7,.ptr 7 0 0 0),(8,iv p)]∧hp=[(7,⟨52,true,.one [.frac (M.getD (i*c+k) 0)]⟩)]) sp.length ?_ ?_ ?_
     ·kernel_rfl
     ·exact⟨0,rfl,Nat.zero_le _,rfl,rfl⟩
     rintro m _ _ ⟨p,rfl,hp,rfl,rfl⟩
     conv=>whnf
     by_cases iF:p<sp.length
     ·have s1:=dx (show p<P.length by omega)
      have s2:=br (i:=p) aa
      have s3:P.getD p 0=((sp.getD p 0:Nat):Int):=Ee p iF
      have b2:p<P.length:=aa
      by_cases e:sp.getD p 0=k
      ·have s4:((k:Int)==(k:Int))=true:=beq_self_eq_true _
       rw[e]at s3
       by_cases f:p=i
       ·have s5:((p:Int) != (i:Int))=false:=by rw[f];exact bne_self_eq_false _
        clear Ee Ef
        (repeat(first|(refine ao s1 ?_;conv=>whnf)|(refine ah Q8 ?_;conv=>whnf)|(rw[s1];conv=>whnf)))
        refine cB (fr1:= ?frah2) (hp1:= ?hpah2) (fun K hK=>bA hE ?raah2) ?rbah2
        case raah2=>
         conv=>whnf
         (repeat((first|refine ag rfl rfl ?_|refine ah dO ?_|refine ah dP ?_|rw[beq_self_eq_true]|refine ay s5 ?_|refine ah Q5 ?_|refine ah jw ?_|rw[s3]|rw[s5]);conv=>whnf))
         exact hK
        conv=>whnf
        (repeat(first|(refine ae rfl rfl ?_;conv=>whnf)|(rw[s2];conv=>whnf)))
        exact⟨sp.length - (p+1),fun k=>k,[1,2,5,6,7,8],[7],aa,av,p+1,rfl,iF,rfl,rfl⟩
       ·have s5:((p:Int) != (i:Int))=true:=bne_iff_ne.2 aa
        have hz:=Ef p iF e f
        clear Ee Ef
        (repeat(first|(refine ao s1 ?_;conv=>whnf)|(refine ah Q8 ?_;conv=>whnf)|(rw[s1];conv=>whnf)))
        refine cB (fr1:= ?frbh2) (hp1:= ?hpbh2) (fun K hK=>bA hE ?rabh2) ?rbbh2
        case rabh2=>
         conv=>whnf
         (repeat((first|refine ag rfl rfl ?_|refine ah dO ?_|rw[beq_self_eq_true]|refine ao s5 ?_|refine ah Q5 ?_|refine ah jw ?_|refine⟨_,cn aJ cy rfl (ak rfl) (ak rfl) rfl rfl rfl rfl (kX (hz)) cf, ?_⟩|rw[s3]|rw[s5]);conv=>whnf))
         exact hK
        conv=>whnf
        (repeat(first|(refine ae rfl rfl ?_;conv=>whnf)|(rw[s2];conv=>whnf)))
        exact⟨sp.length - (p+1),fun k=>k,[1,2,5,6,7,8],[7],aa,av,p+1,rfl,iF,rfl,rfl⟩
      ·clear Ee Ef
       generalize sp.getD p 0=z at*
       have s4:((z:Int)==(k:Int))=false:=beq_eq_false_iff_ne.2 aa
       (repeat(first|(refine ao s1 ?_;conv=>whnf)|(refine ah Q8 ?_;conv=>whnf)|(rw[s1];conv=>whnf)))
       refine cB (fr1:= ?frch2) (hp1:= ?hpch2) (fun K hK=>bA hE ?rach2) ?rbch2
       case rach2=>
        conv=>whnf
        (repeat((first|refine ae rfl rfl ?_|refine ah dP ?_|refine ay s4 ?_|refine ah Q5 ?_|refine ah jw ?_|rw[s3]|rw[s4]);conv=>whnf))
        exact hK
       conv=>whnf
       (repeat(first|(refine ae rfl rfl ?_;conv=>whnf)|(rw[s2];conv=>whnf)))
       exact⟨sp.length - (p+1),fun k=>k,[1,2,5,6,7,8],[7],aa,av,p+1,rfl,iF,rfl,rfl⟩
     ·have s1:=dA (show ¬p<P.length by omega)
      (repeat((first|refine ay s1 ?_|refine ah Q8 ?_|rw[s1]|rw[t5]);conv=>whnf))
      exact⟨c - (k+1),fun k=>k,[1,2,5,6],[],aa,av,k+1,rfl,hkc,rfl,rfl⟩
    ·obtain⟨y,hy⟩:∃y,sp.getD i 0=y:=⟨_,rfl⟩
     rw[hy]at g1 g
     have t8:=dA (show ¬k<y by omega)
     have t9:((k:Int)==(y:Int))=false:=beq_eq_false_iff_ne.2 aa
     clear hX hx
     (repeat((first|refine ao t4 ?_|refine ah Q5 ?_|refine ah IG ?_|refine ah Q7 ?_|rw[t4]|rw[w1]|rw[w2]|rw[Int.toNat_natCast]);conv=>whnf))
     refine cB (fr1:= ?frh3) (hp1:= ?hph3) (fun K hK=>bA hE ?rah3) ?rbh3
     case rah3=>
      conv=>whnf
      (repeat((first|refine ag rfl rfl ?_|refine aq av ?_|refine ah dO ?_|refine ah dP ?_|refine ay t6 ?_|refine ao t7 ?_|refine ay t8 ?_|refine ay t9 ?_|refine ah Q8 ?_|refine ah Q5 ?_|refine ah jw ?_|rw[t6]|rw[t7]|rw[g1]|rw[t8]|rw[t9]);conv=>whnf))
      exact hK
     conv=>whnf
     (repeat(first|(refine ae rfl rfl ?_;conv=>whnf)))
     refine aj hE (fun k=>k) [1,2,5,6,7,8] [7] (fun m fr hp=>∃p:Nat,m=sp.length - p∧p≤sp.length∧fr=[(1,cO .i64 P),(2,bE (mC r c M)),(5,iv i),(6,iv k),(7,.ptr 7 0 0 0),(8,iv p)]∧hp=[(7,⟨52,true,.one [.frac (M.getD (i*c+k) 0)]⟩)]) sp.length ?_ ?_ ?_
     ·kernel_rfl
     ·exact⟨0,rfl,Nat.zero_le _,rfl,rfl⟩
     rintro m _ _ ⟨p,rfl,hp,rfl,rfl⟩
     conv=>whnf
     by_cases iF:p<sp.length
     ·have s1:=dx (show p<P.length by omega)
      have s2:=br (i:=p) aa
      have s3:P.getD p 0=((sp.getD p 0:Nat):Int):=Ee p iF
      have b2:p<P.length:=aa
      by_cases e:sp.getD p 0=k
      ·have s4:((k:Int)==(k:Int))=true:=beq_self_eq_true _
       rw[e]at s3
       by_cases f:p=i
       ·have s5:((p:Int) != (i:Int))=false:=by rw[f];exact bne_self_eq_false _
        clear Ee Ef
        (repeat(first|(refine ao s1 ?_;conv=>whnf)|(refine ah Q8 ?_;conv=>whnf)|(rw[s1];conv=>whnf)))
        refine cB (fr1:= ?frah3) (hp1:= ?hpah3) (fun K hK=>bA hE ?raah3) ?rbah3
        case raah3=>
         conv=>whnf
         (repeat((first|refine ag rfl rfl ?_|refine ah dO ?_|refine ah dP ?_|rw[beq_self_eq_true]|refine ay s5 ?_|refine ah Q5 ?_|refine ah jw ?_|rw[s3]|rw[s5]);conv=>whnf))
         exact hK
        conv=>whnf
        (repeat(first|(refine ae rfl rfl ?_;conv=>whnf)|(rw[s2];conv=>whnf)))
        exact⟨sp.length - (p+1),fun k=>k,[1,2,5,6,7,8],[7],aa,av,p+1,rfl,iF,rfl,rfl⟩
       ·have s5:((p:Int) != (i:Int))=true:=bne_iff_ne.2 aa
        have hz:=Ef p iF e f
        clear Ee Ef
        (repeat(first|(refine ao s1 ?_;conv=>whnf)|(refine ah Q8 ?_;conv=>whnf)|(rw[s1];conv=>whnf)))
        refine cB (fr1:= ?frbh3) (hp1:= ?hpbh3) (fun K hK=>bA hE ?rabh3) ?rbbh3
        case rabh3=>
         conv=>whnf
         (repeat((first|refine ag rfl rfl ?_|refine ah dO ?_|rw[beq_self_eq_true]|refine ao s5 ?_|refine ah Q5 ?_|refine ah jw ?_|refine⟨_,cn aJ cy rfl (ak rfl) (ak rfl) rfl rfl rfl rfl (kX (hz)) cf, ?_⟩|rw[s3]|rw[s5]);conv=>whnf))
         exact hK
        conv=>whnf
        (repeat(first|(refine ae rfl rfl ?_;conv=>whnf)|(rw[s2];conv=>whnf)))
        exact⟨sp.length - (p+1),fun k=>k,[1,2,5,6,7,8],[7],aa,av,p+1,rfl,iF,rfl,rfl⟩
      ·clear Ee Ef
       generalize sp.getD p 0=z at*
       have s4:((z:Int)==(k:Int))=false:=beq_eq_false_iff_ne.2 aa
       (repeat(first|(refine ao s1 ?_;conv=>whnf)|(refine ah Q8 ?_;conv=>whnf)|(rw[s1];conv=>whnf)))
       refine cB (fr1:= ?frch3) (hp1:= ?hpch3) (fun K hK=>bA hE ?rach3) ?rbch3
       case rach3=>
        conv=>whnf
        (repeat((first|refine ae rfl rfl ?_|refine ah dP ?_|refine ay s4 ?_|refine ah Q5 ?_|refine ah jw ?_|rw[s3]|rw[s4]);conv=>whnf))
        exact hK
       conv=>whnf
       (repeat(first|(refine ae rfl rfl ?_;conv=>whnf)|(rw[s2];conv=>whnf)))
       exact⟨sp.length - (p+1),fun k=>k,[1,2,5,6,7,8],[7],aa,av,p+1,rfl,iF,rfl,rfl⟩
     ·have s1:=dA (show ¬p<P.length by omega)
      (repeat((first|refine ay s1 ?_|refine ah Q8 ?_|rw[s1]|rw[t5]);conv=>whnf))
      exact⟨c - (k+1),fun k=>k,[1,2,5,6],[],aa,av,k+1,rfl,hkc,rfl,rfl⟩
   ·have t6:decide ((i:Int)≥(P.length:Int))=true:=decide_eq_true aa
    have t7:=dA (show ¬i<P.length by omega)
    have hx0:M.getD (i*c+k) 0=0:=by rw[hx];exact h.low i aa aE k hkc
    clear hX hx
    (repeat((first|refine ao t4 ?_|refine ah Q5 ?_|refine ah IG ?_|refine ah Q7 ?_|rw[t4]|rw[w1]|rw[w2]|rw[Int.toNat_natCast]);conv=>whnf))
    refine cB (fr1:= ?frh4) (hp1:= ?hph4) (fun K hK=>bA hE ?rah4) ?rbh4
    case rah4=>
     conv=>whnf
     (repeat((first|refine ag rfl rfl ?_|refine aq av ?_|refine ah dO ?_|refine ah dP ?_|refine ao t6 ?_|refine ay t7 ?_|refine ah Q8 ?_|refine⟨_,cn aJ cy rfl (ak rfl) (ak rfl) rfl rfl rfl rfl (kX (hx0)) cf, ?_⟩|rw[t6]|rw[t7]);conv=>whnf))
     exact hK
    conv=>whnf
    (repeat(first|(refine ae rfl rfl ?_;conv=>whnf)))
    refine aj hE (fun k=>k) [1,2,5,6,7,8] [7] (fun m fr hp=>∃p:Nat,m=sp.length - p∧p≤sp.length∧fr=[(1,cO .i64 P),(2,bE (mC r c M)),(5,iv i),(6,iv k),(7,.ptr 7 0 0 0),(8,iv p)]∧hp=[(7,⟨52,true,.one [.frac (M.getD (i*c+k) 0)]⟩)]) sp.length ?_ ?_ ?_
    ·kernel_rfl
    ·exact⟨0,rfl,Nat.zero_le _,rfl,rfl⟩
    rintro m _ _ ⟨p,rfl,hp,rfl,rfl⟩
    conv=>whnf
    by_cases iF:p<sp.length
    ·have s1:=dx (show p<P.length by omega)
     have s2:=br (i:=p) aa
     have s3:P.getD p 0=((sp.getD p 0:Nat):Int):=Ee p iF
     have b2:p<P.length:=aa
     by_cases e:sp.getD p 0=k
     ·have s4:((k:Int)==(k:Int))=true:=beq_self_eq_true _
      rw[e]at s3
      by_cases f:p=i
      ·have s5:((p:Int) != (i:Int))=false:=by rw[f];exact bne_self_eq_false _
       clear Ee Ef
       (repeat(first|(refine ao s1 ?_;conv=>whnf)|(refine ah Q8 ?_;conv=>whnf)|(rw[s1];conv=>whnf)))
       refine cB (fr1:= ?frah4) (hp1:= ?hpah4) (fun K hK=>bA hE ?raah4) ?rbah4
       case raah4=>
        conv=>whnf
        (repeat((first|refine ag rfl rfl ?_|refine ah dO ?_|refine ah dP ?_|rw[beq_self_eq_true]|refine ay s5 ?_|refine ah Q5 ?_|refine ah jw ?_|rw[s3]|rw[s5]);conv=>whnf))
        exact hK
       conv=>whnf
       (repeat(first|(refine ae rfl rfl ?_;conv=>whnf)|(rw[s2];conv=>whnf)))
       exact⟨sp.length - (p+1),fun k=>k,[1,2,5,6,7,8],[7],aa,av,p+1,rfl,iF,rfl,rfl⟩
      ·have s5:((p:Int) != (i:Int))=true:=bne_iff_ne.2 aa
       have hz:=Ef p iF e f
       clear Ee Ef
       (repeat(first|(refine ao s1 ?_;conv=>whnf)|(refine ah Q8 ?_;conv=>whnf)|(rw[s1];conv=>whnf)))
       refine cB (fr1:= ?frbh4) (hp1:= ?hpbh4) (fun K hK=>bA hE ?rabh4) ?rbbh4
       case rabh4=>
        conv=>whnf
        (repeat((first|refine ag rfl rfl ?_|refine ah dO ?_|rw[beq_self_eq_true]|refine ao s5 ?_|refine ah Q5 ?_|refine ah jw ?_|refine⟨_,cn aJ cy rfl (ak rfl) (ak rfl) rfl rfl rfl rfl (kX (hz)) cf, ?_⟩|rw[s3]|rw[s5]);conv=>whnf))
        exact hK
       conv=>whnf
       (repeat(first|(refine ae rfl rfl ?_;conv=>whnf)|(rw[s2];conv=>whnf)))
       exact⟨sp.length - (p+1),fun k=>k,[1,2,5,6,7,8],[7],aa,av,p+1,rfl,iF,rfl,rfl⟩
     ·clear Ee Ef
      generalize sp.getD p 0=z at*
      have s4:((z:Int)==(k:Int))=false:=beq_eq_false_iff_ne.2 aa
      (repeat(first|(refine ao s1 ?_;conv=>whnf)|(refine ah Q8 ?_;conv=>whnf)|(rw[s1];conv=>whnf)))
      refine cB (fr1:= ?frch4) (hp1:= ?hpch4) (fun K hK=>bA hE ?rach4) ?rbch4
      case rach4=>
       conv=>whnf
       (repeat((first|refine ae rfl rfl ?_|refine ah dP ?_|refine ay s4 ?_|refine ah Q5 ?_|refine ah jw ?_|rw[s3]|rw[s4]);conv=>whnf))
       exact hK
      conv=>whnf
      (repeat(first|(refine ae rfl rfl ?_;conv=>whnf)|(rw[s2];conv=>whnf)))
      exact⟨sp.length - (p+1),fun k=>k,[1,2,5,6,7,8],[7],aa,av,p+1,rfl,iF,rfl,rfl⟩
    ·have s1:=dA (show ¬p<P.length by omega)
     (repeat((first|refine ay s1 ?_|refine ah Q8 ?_|rw[s1]|rw[t5]);conv=>whnf))
     exact⟨c - (k+1),fun k=>k,[1,2,5,6],[],aa,av,k+1,rfl,hkc,rfl,rfl⟩
  ·have t4:=dA hkc
   (repeat((first|refine ay t4 ?_|refine ah Q5 ?_|refine ah Q7 ?_|rw[t4]|rw[t3]);conv=>whnf))
   exact⟨r - (i+1),fun k=>k,[1,2,5],[],aa,av,i+1,rfl,aE,rfl,rfl⟩
 ·have t2:=dA aE
  clear hX hXl
  (repeat((first|refine ay t2 ?_|refine ah Q5 ?_|refine ah Q7 ?_|rw[t2]);conv=>whnf))
  refine aj hE (fun k=>k) [1,2,9] [] (fun m fr hp=>∃p:Nat,m=sp.length - p∧p≤sp.length∧fr=[(1,cO .i64 P),(2,bE (mC r c M)),(9,iv p)]∧hp=[]) sp.length ?_ ?_ ?_
  ·kernel_rfl
  ·exact⟨0,rfl,Nat.zero_le _,rfl,rfl⟩
  rintro m _ _ ⟨p,rfl,hp,rfl,rfl⟩
  conv=>whnf
  by_cases iF:p<sp.length
  ·have t3:=dx (show p<P.length by omega)
   have t4:=br (i:=p) aa
   have g1:=ZI p iF
   have g2:=h.lt p iF
   have b1:p<P.length:=aa
   rcases Nat.eq_zero_or_pos p with g|g
   ·have t5:decide ((p:Int)>0)=false:=decide_eq_false aa
    clear ZI
    generalize sp.getD p 0=y at*
    have t6:decide ((y:Int)<0)=false:=decide_eq_false aa
    have t7:decide ((y:Int)≥(c:Int))=false:=decide_eq_false aa
    (repeat((first|refine ag rfl rfl ?_|refine ae rfl rfl ?_|refine aq av ?_|refine ah dP ?_|refine ao t3 ?_|refine ay t5 ?_|refine ah Q8 ?_|refine ah Q5 ?_|refine ah jw ?_|refine ah Q7 ?_|rw[t3]|rw[g1]|rw[t6]|rw[t7]|rw[t5]|rw[t4]);conv=>whnf))
    exact⟨sp.length - (p+1),fun k=>k,[1,2,9],[],aa,av,p+1,rfl,iF,rfl,rfl⟩
   ·have t5:decide ((p:Int)>0)=true:=decide_eq_true aa
    have g3:=ZI (p - 1) aa
    have g4:=h.inc (p - 1) p aa iF
    have t8:IntKind.i64.wrap ((p:Int) - 1)=((p - 1:Nat):Int):=by rw[wrap_i64 aa aa];omega
    have b2:p - 1<P.length:=aa
    clear ZI
    generalize sp.getD p 0=y at*
    generalize sp.getD (p - 1) 0=z at*
    have t6:decide ((y:Int)<0)=false:=decide_eq_false aa
    have t7:decide ((y:Int)≥(c:Int))=false:=decide_eq_false aa
    have t9:decide ((y:Int)≤(z:Int))=false:=decide_eq_false aa
    (repeat((first|refine ag rfl rfl ?_|refine aq av ?_|refine ah dO ?_|refine ah dP ?_|refine ao t3 ?_|refine ao t5 ?_|refine ay t9 ?_|refine ah Q8 ?_|refine ah Q5 ?_|refine ah jw ?_|refine ah Q32 ?_|refine ah Q7 ?_|rw[t3]|rw[g1]|rw[g3]|rw[t6]|rw[t7]|rw[t5]|rw[t8]|rw[t9]|rw[t4]|rw[Int.toNat_natCast]);conv=>whnf))
    exact⟨sp.length - (p+1),fun k=>k,[1,2,9],[],aa,av,p+1,rfl,iF,rfl,rfl⟩
  ·have t3:=dA (show ¬p<P.length by omega)
   (repeat(first|(refine ay t3 ?_;conv=>whnf)|(refine ah Q8 ?_;conv=>whnf)));exact Q4
end Go.Proofs.YtfpagioknjjacaaGreatDoor
