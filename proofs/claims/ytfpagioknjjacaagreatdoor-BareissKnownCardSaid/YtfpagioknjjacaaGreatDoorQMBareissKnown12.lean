/- The texts Ow. -/
import Derived.Test.YtfpagioknjjacaaGreatDoorQMBareissKnown10
import Derived.Test.YtfpagioknjjacaaGreatDoorQMBareissKnown11
namespace Go.Proofs.YtfpagioknjjacaaGreatDoor
open Go.Sx
set_option linter.unusedSimpArgs false
set_option linter.unusedVariables false
set_option maxRecDepth 100000
set_option maxHeartbeats 40000000
theorem c5 (l:List Int):(aG l).length=l.length:=by simp[aG]
theorem sE {l:List Int} {i:Nat} (h:i<l.length):(aG l).getD i 0=((l.getD i 0:Int):Rat):=dV h
theorem c7 {l:List Int} {B:Nat} (h:Zm B l):Sm (B+1) (aG l):=by
 intro p hp
 rw[c5]at hp
 rw[sE hp];have:=oi (l.getD p 0);have:=h p hp;omega
theorem oW {r c:Nat} (f:Mz):aG (eP r c f)=mk r c (ra f):=by simp[aG,eP,mk,ra]
theorem dJ {l:List Int} {r c i k:Nat} (hl:l.length=r*c) (hi:i<r) (hk:k<c):el (aG l) c i k=((bl l c i k:Int):Rat):=sE (by rw[hl];exact dN hi hk)
theorem Lg {r c B:Nat} {a:List Int} (ha:gu r c a) (za:Zm B a) (hB:B≤999999):ab Tryz.prog 161 [wA r c a,iv 0,cT 1 nB (aP r c (aG a)),iv c] [] (.val (.bool true)) [] []:=by
 have hm:jq r c (aG a):=⟨ha.r,ha.c,by rw[c5,ha.n]⟩
 have sm:=c7 za
 have vO:r*c≤2048*2048:=Nat.mul_le_mul ha.r ha.c
 have hn:=ha.n
 have k1:=sn r c a aa (fun i hi=>Nat.le_trans (za i hi) aa) (w8 hm sm aa)
 have k2:=Kz hm sm aa
 have la:=di r c (aG a)
 have t1:IntKind.i64.wrap ((r:Int)*(c:Int))=((r*c:Nat):Int):=by rw[←Int.natCast_mul,wrap_i64 aa aa]
 have e1:((a.length:Int)==((r*c:Nat):Int))=true:=by rw[ha.n];exact beq_self_eq_true _
 refine bP [4] Tryz.func161 ?_
 intro W0 w0 ρ0 hE
 conv=>whnf
 (repeat((first|refine ag rfl rfl ?_|refine aS (by assumption) ?_|refine ak jJ ?_|rw[beq_self_eq_true]|refine aE e1 ?_|refine ak cO ?_|refine ak Q6 ?_|refine ak Q9 ?_|rw[la]|rw[t1]|rw[e1]);conv=>whnf));exact Q5
theorem OM (q:Rat) (h:fs q≤100000000):ab Tryz.prog 37 [.frac q,fF q] [] (.val (.bool true)) [] []:=by
 have k1:=FC q aa
 have k2:=FQ q h
 generalize tQ q=s at*
 have t1:(s.toList==s.toList)=true:=beq_self_eq_true _
 refine bP [2,3] Tryz.func37 ?_
 intro W0 w0 ρ0 hE
 conv=>whnf
 (repeat((first|refine aw aB ?_|refine aS (by assumption) ?_|rw[beq_self_eq_true]|refine ak Q6 ?_);conv=>whnf))
 exact aq.refl _
theorem nk (n:Int) (h:zs n≤536870912):ab Tryz.prog 165 [.int n] [] (.frac n) [] []:=by
 have k1:=nY 1 aF
 have k2:=FW er n 1 Nn (by rw[DH];decide) aF
 rw[Rat.mkRat_one]at k2
 refine bP [] Tryz.func165 ?_
 intro W0 w0 ρ0 hE
 conv=>whnf
 (repeat(first|(refine aw aB ?_;conv=>whnf)|(refine aS (by assumption) ?_;conv=>whnf)));exact Q5
theorem CP (z:Int):zs z≤fs (z:Rat):=by
 have:=dq (z:Rat)
 rw[Rat.num_intCast]at this
 unfold zs fs;omega
theorem acL {n B m:Nat} (hn:n≤5) (hB:B≤70) (hm:m≤5):pS n B m≤300000:=by
 have h:∀m,pS n B m≤pS 5 70 m:=by
  intro m
  induction m with
  |zero=>exact Nat.le_refl _
  |succ m ih=>exact Nat.add_le_add_left (Nat.mul_le_mul hn (Nat.add_le_add hB ih)) 2
 refine Nat.le_trans (h m) ?_
 obtain rfl|rfl|rfl|rfl|rfl|rfl:m=0∨m=1∨m=2∨m=3∨m=4∨m=5:=aa
 all_goals decide
theorem iQ {n B:Nat} {A:Mz} (hn:n≤5) (hB:B≤69) (h:∀i k,i<n→k<n→zs (A i k)≤B):zs (bo n A)≤300000:=by
 refine Nat.le_trans (CP _) ?_
 rw[bT]
 have:=mi (n:=n) (B:=B+1) (a:=mk n n (ra A)) (dx ..) (wL fun i k hi hk=>by have:=oi (A i k);have:=h i k hi hk;show fs ((A i k:Int):Rat)≤_;omega) n 0 [] (Nat.zero_add _)
 rw[oL,aO (B:=ra A) fun i k hi hk=>fy hi hk]at this
 exact Nat.le_trans this (acL hn aa hn)
theorem ON {n B:Nat} {A:Mz} (hn:n≤5) (hB:B≤69) (h:∀i k,i<n→k<n→zs (A i k)≤B) {i k:Nat} (hi:i<n) (hk:k<n):zs (po n A i k)≤300000:=by
 have h1:=iQ (n:=n - 1) (B:=B) (A:=fun a b=>A (sk k a) (sk i b)) aa hB fun a b ha hb=>h _ _ (by have:=kp (k:=k) ha;omega) (by have:=kp (k:=i) hb;omega)
 unfold po
 rw[jK]
 split
 ·rw[Int.neg_one_mul,Ew];exact h1
 ·rw[Int.one_mul];exact h1
theorem Lh {r c s:Nat} {X:List Int} (hl:X.length=r*c) (Ze:s≤r) (x8:s≤c):mk (r - s) (c - s) (bm s (el (aG X) c))=aG (stM r c s X):=by
 rw[stM,oW]
 refine mk_congr fun i k hi hk=> ?_
 show _=((jL s (bl X c) i k:Int):Rat)
 rw[mc]
 refine aO fun a b ha hb=>dJ hl ?_ ?_
 ·unfold ff;split<;>omega
 ·unfold ff;split<;>omega
theorem Zf {n:Nat} {X:List Int} (hl:X.length=n*n):mk n n (dU n (el (aG X) n))=aG (eP n n (po n (bl X n))):=by
 rw[oW]
 refine mk_congr fun i k hi hk=> ?_
 show _=((po n (bl X n) i k:Int):Rat)
 rw[yX,dU,dU]
 congr 1
 refine aO fun a b ha hb=>dJ hl ?_ ?_
 ·have:=kp (k:=k) ha;omega
 ·have:=kp (k:=i) hb;omega
theorem Zg {n:Nat} {X:List Int} (hl:X.length=n*n):(bH n fun i k=>el (aG X) n ((dW n).getD i 0).toNat ((dW n).getD k 0).toNat)=((bo n (bl X n):Int):Rat):=by
 rw[bT]
 refine aO fun i k hi hk=> ?_
 rw[ib hi,ib hk]
 exact dJ hl hi hk
end Go.Proofs.YtfpagioknjjacaaGreatDoor
