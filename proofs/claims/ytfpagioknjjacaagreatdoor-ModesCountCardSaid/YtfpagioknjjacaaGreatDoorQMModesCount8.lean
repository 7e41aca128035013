/- The texts Xs. -/
import Derived.Test.YtfpagioknjjacaaGreatDoorQMModesCount7
namespace Go.Sx
set_option linter.unusedSimpArgs false
set_option linter.unusedVariables false
theorem ER {α:Type} {E:Env} (t k:Nat) {c:Code} {K:bK} {fr:List (Nat×SV)} {hp:List (Nat×aA)} {ty:TypeId} {w n:Nat} {f:α→SV} {l:List α} (hW:∀b,¬E.W0 b) (hf:∀x,bA (f x)=true) (ht:lk fr t=some (.aK k w 0 n)) (hk:find hp k=some ⟨ty,true,.seq w (l.map f)⟩)
  (hn:n≤l.length) (hs:dG E c K ((t,bX w f (l.take n))::fr) (eD hp k ⟨ty,true,.dead⟩)):dG E c K fr hp:=by
 refine kN t k (xs:=l.map f) hW ht hk rfl rfl (bT hf l) (by simp;omega) ?_
 have e:fM (l.map f) 0 (0+n)=(l.take n).map f:=by rw[fM,List.drop_zero,Nat.zero_add,Nat.sub_zero,List.map_take]
 rw[e]
 exact hs
end Go.Sx
namespace Go.Proofs.YtfpagioknjjacaaGreatDoor
open Go.Sx
set_option linter.unusedSimpArgs false
set_option linter.unusedVariables false
set_option maxRecDepth 100000
set_option maxHeartbeats 40000000
theorem GU {p:List Rat} {c:Rat} {S A:Nat} (hp:Sm S p) (hc:fs c≤A) (hA:2≤A):∀k,k≤p.length→Sm (NC (S+2*A+2) k) (lp p c k)
 |0,_=>fun j _=>by rw[lp,iO,eh];exact Nat.le_refl _
 |k+1,h=>fun j hj=>by
  have ih:=GS (GU hp hc hA k aa) hc (show fs (1:Rat)≤A by rw[mf];exact hA)
  have hl:(GI (lp p c k) c 1).length=p.length+1:=by rw[iY,l8]
  rw[l8]at hj
  rw[lp,eu,NC]
  split
  ·rw[pQ,if_pos aa]
   have g1:=ih 0 aa
   have g2:=hp (p.length - 1 - k) aa
   have g3:=iH ((GI (lp p c k) c 1).getD 0 0) (p.getD (p.length - 1 - k) 0)
   omega
  ·rw[pQ,if_pos hj]
   have g1:=ih j aa
   omega
theorem JQ (l:List Rat):∀(ρ:bI) z,au (cE ρ.aT ρ.b7) (l.map fF) z→(∀x∈l.map fF,x.width=3)→Go.Sx.Rows ρ 3 (.seq 3 (l.map fF)) z:=fun _ _ h k=>⟨rfl,h,k⟩
theorem ES {p:List Rat} {c:Rat} {n S A:Nat} (hn:p.length=n+1) (hl:n≤8) (hp:Sm S p) (hc:fs c≤A) (hA:2≤A) (h:NC (S+2*A+2) (n+1)≤1700000000):af Tryz.prog 151 [lG p,fF c] [] (lG (lp p c (n+1))) [] []:=by
 have t0:IntKind.i64.wrap ((p.length:Int) - 1)=(n:Int):=by rw[wrap_i64 aa aa];omega
 have lS:=l8 p c
 have sS:=GU hp hc hA
 have k1:af Tryz.prog 145 [.val (.int .i64 1)] [] (fF 1) [] []:=nW 1 aH aH
 refine qU [3,100006] Tryz.func151 ?_
 intro w0 ρ0 hE
 conv=>whnf
 (repeat((first|refine av Q3 ?_|refine aC Q7 ?_|rw[t0]|rw[Int.toNat_natCast]);conv=>whnf))
 refine qO 10 ((List.replicate p.length (0:Rat)).map fF) rfl (CI _) (fun x hx=>by rw[List.map_replicate]at hx;rw[(List.mem_replicate.1 hx).2];rfl) (fun h=>by rw[hn]at h;cases h) ?_
 refine cn hE (dc [(10,2001)]) [0,3,5,6] [10] (fun m fr hp=>∃(k:Nat) (L:List Rat),m=n+1 - k∧k≤n+1∧n+1≤L.length∧L.take (n+1)=lp p c k∧fr=[(0,lG p),(3,cx [zZ c.num,nN (c.den - 1)]),(5,.aK 2001 3 0 p.length),(6,.val (.int .i64 ((n:Int) - k)))]∧
  hp=[(2001,fS L)]) (n+1) ?_ ?_ ?_
 ·kernel_rfl
 ·refine⟨0,List.replicate p.length 0,rfl,Nat.zero_le _,by simp;omega, ?_,by rw[show(n:Int) - ((0:Nat):Int)=(n:Int) by omega];rfl,rfl⟩
  rw[lp,List.take_of_length_le (by simp;omega)]
 rintro m _ _ ⟨k,L,rfl,hk,hL1,hL2,rfl,rfl⟩
 refine ER 5 2001 (fun _ h=>h) (fun _=>rfl) rfl rfl aa ?_
 rw[hn,hL2]
 by_cases aI:k<n+1
 ·obtain⟨i,hi⟩:∃i:Nat,i=n - k:=⟨_,rfl⟩
  have ei:(n:Int) - (k:Int)=(i:Int):=aa
  rw[ei]
  have t1:decide ((i:Int)≥0)=true:=decide_eq_true aa
  have e1:IntKind.i64.wrap ((i:Int) - 1)=(n:Int) - ((k+1:Nat):Int):=by rw[wrap_i64 aa aa];omega
  have hm:=EP (S+2*A+2) (show k+1≤n+1 by omega)
  have hmk:NC (S+2*A+2) (k+1)=2*NC (S+2*A+2) k+(S+2*A+2):=rfl
  have k2:=A3 (a:=c) (b:=1) (by rw[lS];omega) (sS k aa) hc (show fs (1:Rat)≤A by rw[mf];exact hA) aa
  have sT:=GS (sS k aa) hc (show fs (1:Rat)≤A by rw[mf];exact hA)
  have lT:(GI (lp p c k) c 1).length=n+2:=by rw[iY,l8];omega
  have lU:lp p c (k+1)=((GI (lp p c k) c 1).take p.length).set 0 (((GI (lp p c k) c 1).take p.length).getD 0 0+p.getD (p.length - 1 - k) 0):=rfl
  rw[pQ,if_pos aa,show p.length - 1 - k=i by omega]at lU
  generalize GI (lp p c k) c 1=T at*
  have g1:=sT 0 aa
  have g2:=hp i aa
  have k3:=pT (T.getD 0 0) (p.getD i 0) aa
  have e2:(T.map fF).getD ((0:Int).toNat+(0:Int).toNat) .any=fF (T.getD 0 0):=Rp (l:=T) (i:=0) aa
  have lTm:(T.map fF).length=n+2:=by rw[List.length_map];exact lT
  have hip:i<p.length:=aa
  clear sS sT lS g1 g2 hm hmk
  refine dG.of hE ?_
  conv=>whnf
  (repeat(first|(refine ah rfl rfl ?_;conv=>whnf)|(rw[t1];conv=>whnf)))
  refine dU (t:=7) (k:=2002) (s:=3) (blk:=fS []) rfl rfl rfl ?_
  refine kG hE ?_
  conv=>whnf
  (repeat(first|(refine aB aF ?_;conv=>whnf)|(refine bg Q3 ?_;conv=>whnf)|(refine av Q3 ?_;conv=>whnf)|(refine a8 (by assumption) ?_;conv=>whnf)|(refine aC Q7 ?_;conv=>whnf)|(refine aC An ?_;conv=>whnf)|(refine aC Q6 ?_;conv=>whnf)|(refine⟨.aK 23 3 0 (0+T.length),[(2002,fS [])],[(23,fS T)],[(2002,⟨81,true,.dead⟩)],nU rfl rfl rfl (ak rfl) (ak rfl) (JQ T) (aM.get (t:=74) rfl) rfl (aM.get (t:=74) rfl) rfl (aM.get (t:=81) rfl) (List.mem_cons_self ..) rfl rfl (by simp[fi]) (by simp) (by simp[fi]) (by simp[q9];exact List.take_of_length_le (by simp)) (by show(0+_)*Lw.bytes≤_;simp only[aeB];omega) aa,dD rfl,dx rfl,dQ (List.mem_cons_self ..) rfl rfl rfl, ?_⟩;conv=>whnf)|(refine sU rfl (ak rfl) (ak rfl) rfl (dJ rfl) (congrArg (fun c=>some (some _,[c])) e2) aa rfl (Nat.le_refl _) rfl rfl ?_;conv=>whnf)|(rw[e1];conv=>whnf)|(rw[e2];conv=>whnf)|(rw[Nat.zero_add];conv=>whnf)))
  refine⟨n+1 - (k+1),dc [(23,2001)],[0,3,5,6],[23],aa,aF,k+1,T.set 0 (T.getD 0 0+p.getD i 0),rfl,aI,by rw[List.length_set];omega, ?_, ?_, ?_⟩
  ·rw[lU,hn,List.take_set]
  ·rw[show((p.length:Int) - 0).toNat=n+1 by omega];rfl
  ·rw[fS,List.map_set];rfl
 ·obtain rfl:k=n+1:=aa
  have t1:decide ((n:Int) - ((n+1:Nat):Int)≥0)=false:=decide_eq_false aa
  refine dG.of hE ?_
  conv=>whnf
  (repeat(first|(refine ag rfl rfl ?_;conv=>whnf)|(rw[t1];conv=>whnf)));exact Q4
theorem ND (p:List Rat) (odd:Bool) (i:Nat) {S:Int} (hS:(if odd=true∧i % 2=1 then -(p.getD i 0).num.sign else(p.getD i 0).num.sign)=S):qi p odd (i+1)=((if ((S != 0)&&(((qi p odd i).2 != 0)&&(S != (qi p odd i).2)))=true then(qi p odd i).1+1 else(qi p odd i).1),(if (S != 0)=true then S else(qi p odd i).2)):=by
 rw[qi]
 simp only[hS,Bool.and_eq_true,bne_iff_ne]
theorem NF (p:List Rat) (odd:Bool):∀i,(qi p odd i).1≤i
 |0=>Nat.le_refl _
 |i+1=>by
  have:=NF p odd i
  have h2:∀(c:Prop) [Decidable c],(if c then(qi p odd i).1+1 else(qi p odd i).1)≤i+1:=fun c _=>by split<;>omega
  rw[qi]
  exact h2 _
theorem Rq (q:Rat): -1≤q.num.sign∧q.num.sign≤1:=by
 rcases Int.lt_trichotomy q.num 0 with h|h|h
 ·rw[Int.sign_eq_neg_one_of_neg h];decide
 ·rw[h];decide
 ·rw[Int.sign_eq_one_of_pos h];decide
theorem vu {p:List Rat} (odd:Bool) (hl:p.length≤100) (hp:∀i,i<p.length→fs (p.getD i 0)≤1000000000000):af Tryz.prog 153 [lG p,.val (.bool odd)] [] (.val (.int .i64 ((qi p odd p.length).1:Nat))) [] []:=by
 refine cj [] Tryz.func153 ?_
 intro W0 w0 ρ0 hE
 conv=>whnf
 skip
 refine az hE (fun k=>k) [0,1,5,6,7] [] (fun m fr hp=>∃i:Nat,m=p.length - i∧i≤p.length∧fr=[(0,lG p),(1,.val (.bool odd)),(5,.val (.int .i64 ((qi p odd i).1:Nat))),(6,.val (.int .i64 (qi p odd i).2)),(7,.val (.int .i64 (i:Nat)))]∧hp=[]) p.length ?_ ?_ ?_
 ·kernel_rfl
 ·exact⟨0,rfl,Nat.zero_le _,rfl,rfl⟩
 rintro m _ _ ⟨i,rfl,hi,rfl,rfl⟩
 by_cases aI:i<p.length
 ·have t1:=jD aI
  have t2:=cp (i:=i) aa
  have hN:=NF p odd i
  have k1:=wD (p.getD i 0) (by have:=(EJ (hp i aI)).1;omega)
  have hs:=Rq (p.getD i 0)
  have GV:=fun S hS=>ND p odd i (S:=S) hS
  obtain⟨⟨N,Z⟩,hNZ⟩:∃s,qi p odd i=s:=⟨_,rfl⟩
  rw[hNZ]at GV hN ⊢
  have t3:=cp (i:=N) (by have:N≤i:=hN;omega)
  generalize hq:(p.getD i 0).num.sign=s0 at*
  have w1:((i:Int).tmod 2==1)=decide (i % 2=1):=by
   rw[Int.tmod_eq_emod_of_nonneg aa]
   by_cases g:i % 2=1
   ·rw[decide_eq_true g];exact beq_iff_eq.2 aa
   ·rw[decide_eq_false g];exact beq_eq_false_iff_ne.2 aa
  have w2:IntKind.i64.wrap (0 - s0)= -s0:=by rw[wrap_i64 aa aa];omega
  clear hp
  cases odd with
  |false=>
   have hS:s0=s0:=rfl
   have lU:=GV s0 (if_neg fun g=>by cases g.1)
   clear GV
   generalize s0=S at*
   dsimp only at lU
   obtain⟨b2,h2⟩:∃b,(S != 0)=b:=⟨_,rfl⟩
   obtain⟨b3,h3⟩:∃b,(Z != 0)=b:=⟨_,rfl⟩
   obtain⟨b4,h4⟩:∃b,(S != Z)=b:=⟨_,rfl⟩
   rw[h2,h3,h4]at lU
   clear hS
   cases b2<;>cases b3<;>cases b4
   all_goals
    conv=>whnf
    (repeat((first|refine ah rfl rfl ?_|refine ag rfl rfl ?_|refine a8 (by assumption) ?_|refine aC iT ?_|refine aC ik ?_|refine aC Q7 ?_|refine aC An ?_|refine aC Q6 ?_|rw[t1]|rw[h2]|rw[h3]|rw[h4]|rw[t3]|rw[t2]);conv=>whnf))
    refine⟨p.length - (i+1),fun k=>k,[0,1,5,6,7],[],aa,aF,i+1,rfl,aI, ?_,rfl⟩
    rw[lU]
    rfl
  |true=>
   by_cases g:i % 2=1
   ·have hS:s0=s0:=rfl
    have lU:=GV (-s0) (if_pos ⟨rfl,g⟩)
    rw[decide_eq_true g]at w1
    clear GV
    generalize -s0=S at*
    dsimp only at lU
    obtain⟨b2,h2⟩:∃b,(S != 0)=b:=⟨_,rfl⟩
    obtain⟨b3,h3⟩:∃b,(Z != 0)=b:=⟨_,rfl⟩
    obtain⟨b4,h4⟩:∃b,(S != Z)=b:=⟨_,rfl⟩
    rw[h2,h3,h4]at lU
    clear hS
    cases b2<;>cases b3<;>cases b4
    all_goals
     conv=>whnf
     (repeat((first|refine ah rfl rfl ?_|refine ag rfl rfl ?_|refine dR Q3 ?_|refine a8 (by assumption) ?_|refine aC iT ?_|refine aC ik ?_|refine aC Q7 ?_|refine aC An ?_|refine aC Q6 ?_|rw[t1]|rw[w1]|rw[w2]|rw[h2]|rw[h3]|rw[h4]|rw[t3]|rw[t2]);conv=>whnf))
     refine⟨p.length - (i+1),fun k=>k,[0,1,5,6,7],[],aa,aF,i+1,rfl,aI, ?_,rfl⟩
     rw[lU]
     rfl
   ·have hS:s0=s0:=rfl
    have lU:=GV s0 (if_neg fun x=>g x.2)
    rw[decide_eq_false g]at w1
    clear GV
    generalize s0=S at*
    dsimp only at lU
    obtain⟨b2,h2⟩:∃b,(S != 0)=b:=⟨_,rfl⟩
    obtain⟨b3,h3⟩:∃b,(Z != 0)=b:=⟨_,rfl⟩
    obtain⟨b4,h4⟩:∃b,(S != Z)=b:=⟨_,rfl⟩
    rw[h2,h3,h4]at lU
    clear hS
    cases b2<;>cases b3<;>cases b4
    all_goals
     conv=>whnf
     (repeat((first|refine ah rfl rfl ?_|refine ag rfl rfl ?_|refine dR Q3 ?_|refine a8 (by assumption) ?_|refine aC iT ?_|refine aC ik ?_|refine aC Q7 ?_|refine aC An ?_|refine aC Q6 ?_|rw[t1]|rw[w1]|rw[h2]|rw[h3]|rw[h4]|rw[t3]|rw[t2]);conv=>whnf))
     refine⟨p.length - (i+1),fun k=>k,[0,1,5,6,7],[],aa,aF,i+1,rfl,aI, ?_,rfl⟩
     rw[lU]
     rfl
 ·have t1:=jP aI
  obtain rfl:i=p.length:=aa
  conv=>whnf
  (repeat(first|(refine ag rfl rfl ?_;conv=>whnf)|(refine aC Q7 ?_;conv=>whnf)|(rw[t1];conv=>whnf)));exact Q4
end Go.Proofs.YtfpagioknjjacaaGreatDoor
