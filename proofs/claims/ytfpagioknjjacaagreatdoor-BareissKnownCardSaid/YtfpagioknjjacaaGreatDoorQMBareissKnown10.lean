/- The texts Oe, Og, Oj, Oi, Ok, Ol, Om, On, Oo, Ou, Ov. -/
import Derived.Test.YtfpagioknjjacaaGreatDoorQMBareissKnown8
import Derived.Test.YtfpagioknjjacaaGreatDoorQMBareissKnown9
import Derived.Test.YtfpagioknjjacaaGreatDoorQMBareissKnown5
import Derived.Test.YtfpagioknjjacaaGreatDoorQMBareissKnown7
namespace Go.Proofs.YtfpagioknjjacaaGreatDoor
open Go.Sx
set_option linter.unusedSimpArgs false
set_option linter.unusedVariables false
set_option maxRecDepth 100000
set_option maxHeartbeats 4000000
theorem Za (a:List Int) (c r:Nat):(∀i,i<r→bl a c i 0=0)∨∃i,i<r∧bl a c i 0≠0∧∀j,j<i→bl a c j 0=0:=by
 induction r with
 |zero=>exact .inl fun i hi=>aa
 |succ r ih=>
  rcases ih with h|⟨i,h1,h2⟩
  ·by_cases g:bl a c r 0=0
   ·refine .inl fun i hi=> ?_
    by_cases e:i=r
    ·rw[e,g]
    ·exact h i aa
   ·exact .inr ⟨r,aa,g,h⟩
  ·exact .inr ⟨i,aa,h2⟩
structure sj (n s B:Nat) (A0:Mz) (a:List Int) (b:Int) (w:Nat):Prop where
 le:s≤n
 ex:∃A:Mz,a=eP (n - s) (n - s) (jL s A)∧b=bo s A∧b≠0∧bo n A0=G8 w*bo n A
 z:Zm (B*4^s) a
 zb:zs b≤B*4^s
 w:w≤s
theorem sj.start {n B:Nat} {a:List Int} (ha:a.length=n*n) (hB:2≤B) (h:Zm B a):sj n 0 B (bl a n) a 1 0 where
 le:=Nat.zero_le _
 ex:=⟨bl a n,by rw[←CG ha,Nat.sub_zero];exact mj fun i k hi hk=>by rw[wV,cB hi hk],rfl,aF,by rw[G8,Int.one_mul]⟩
 z:=by rw[Nat.pow_zero,Nat.mul_one];exact h
 zb:=by rw[On];omega
 w:=Nat.le_refl _
theorem sj.fin {n B:Nat} {A0:Mz} {a:List Int} {b:Int} {w:Nat} (h:sj n n B A0 a b w):bo n A0=if w % 2=1 then -b else b:=by
 obtain⟨A,_,rfl,_,e⟩:=h.ex
 rw[e,jK]
 split<;>omega
theorem sj.none {n s B:Nat} {A0:Mz} {a:List Int} {b:Int} {w:Nat} (h:sj n s B A0 a b w) (hs:s<n) (h0:∀i,i<n - s→bl a (n - s) i 0=0):bo n A0=0:=by
 obtain⟨A,rfl,rfl,hb,e⟩:=h.ex
 rw[e,J1 hb hs fun i hi=>by have:=h0 i aa;rwa [cB aa aa]at this,Int.mul_zero]
theorem sj.aeQ {n s B:Nat} {A0:Mz} {a:List Int} {b:Int} {w j:Nat} (h:sj n s B A0 a b w) (hj:s+j<n):
  ∃w',w'=(if 0<j then w+1 else w)∧(∃A:Mz,eP (n - s) (n - s) (eY (bl a (n - s)) 0 j)=eP (n - s) (n - s) (jL s A)∧b=bo s A∧b≠0∧bo n A0=G8 w'*bo n A)∧Zm (B*4^s) (eP (n - s) (n - s) (eY (bl a (n - s)) 0 j)):=by
 obtain⟨A,ha,hb,hb0,e⟩:=h.ex
 have hl:a.length=(n - s)*(n - s):=by rw[ha,cZ]
 refine⟨_,rfl,⟨eY A s (s+j), ?_, ?_,hb0, ?_⟩, ?_⟩
 ·refine mj fun p q hp hq=> ?_
  rw[J2]
  have e2:∀p,p<n - s→bl a (n - s) p q=jL s A p q:=fun p hp=>by rw[ha,cB hp hq]
  unfold eY
  by_cases h1:p=0
  ·rw[if_pos h1,if_pos h1,e2 j aa]
  ·rw[if_neg h1,if_neg h1]
   by_cases h2:p=j
   ·rw[if_pos h2,if_pos h2,e2 0 aa]
   ·rw[if_neg h2,if_neg h2,e2 p hp]
 ·rw[wX,hb]
 ·by_cases g:0<j
  ·rw[if_pos g,G9 A aa hj aa,G8,e,Int.neg_mul_neg]
  ·rw[if_neg g,show s+j=s by omega,wW,e]
 ·refine kN fun p q hp hq=> ?_
  unfold eY
  split
  ·exact bX h.z hl aa hq
  ·split
   ·exact bX h.z hl aa hq
   ·exact bX h.z hl hp hq
theorem sj.next {n s B:Nat} {A0:Mz} {a:List Int} {b:Int} {w:Nat} (hs:s<n) (hw:w≤s+1) (hz:Zm (B*4^s) a) (hx:∃A:Mz,a=eP (n - s) (n - s) (jL s A)∧b=bo s A∧b≠0∧bo n A0=G8 w*bo n A) (h0:bl a (n - s) 0 0≠0):
  sj n (s+1) B A0 (nxt (n - (s+1)) (n - (s+1)) a b) (bl a (n - s) 0 0) w:=by
 obtain⟨A,ha,hb,hb0,e⟩:=hx
 have hl:a.length=(n - s)*(n - s):=by rw[ha,cZ]
 have hn:n - s=n - (s+1)+1:=aa
 have e2:∀p q,p<n - s→q<n - s→bl a (n - s) p q=jL s A p q:=fun p q hp hq=>by rw[ha,cB hp hq]
 have Hr:B*4^(s+1)=4*(B*4^s):=by rw[Nat.pow_succ];rw[←Nat.mul_assoc,Nat.mul_comm]
 refine⟨hs,⟨A, ?_, ?_,h0,e⟩, ?_, ?_,hw⟩
 ·refine mj fun i k hi hk=> ?_
  rw[Ox,←hn,e2 0 0 aa aa,e2 (i+1) (k+1) aa aa,e2 (i+1) 0 aa aa,e2 0 (k+1) aa aa,hb]
  exact FA (by rwa [hb]at hb0) i k
 ·rw[e2 0 0 aa aa,iI]
 ·rw[Hr]
  refine kN fun i k hi hk=>Nat.le_trans (KH _ _) ?_
  exact Ey hz (by rw[hl,hn]) hi hk
 ·rw[Hr]
  have:=bX hz hl (i:=0) (k:=0) aa aa;omega
set_option maxHeartbeats 40000000
abbrev zIB:aC:=⟨50,true,.one [.int 0]⟩
theorem CJ {n B:Nat} {a:List Int} (ha:gu n n a) (hB:2≤B) (za:Zm B a) (hn:n≤40) (hb:2*(B*4^n)≤1073741824):ab Tryz.prog 256 [wA n n a] [] (.int (bo n (bl a n))) [] []:=by
 have k0:=F2 n n a
 have ZO:=sj.start ha.n hB za
 generalize bl a n=A0 at*
 refine bP [1] Tryz.func256 ?_
 intro W0 w0 ρ0 hE
 conv=>whnf
 (repeat(first|(refine aS (by assumption) ?_;conv=>whnf)|(refine ak Q6 ?_;conv=>whnf)))
 refine ai hE (fun k=>k) [2,3] [2,3] (fun m fr hp=>∃(s:Nat) (a:List Int) (b:Int) (w:Nat),s+m=n∧sj n s B A0 a b w∧fr=[(2,.ptr 2 0 0 0),(3,.ptr 3 0 0 0)]∧
  hp=[(2,zIB),(3,bS m m a b w)]) n ?_ ?_ ?_
 ·kernel_rfl
 ·exact⟨0,a,1,0,Nat.zero_add n,ZO,rfl,rfl⟩
 clear ZO ha za k0
 rintro m _ _ ⟨s,a,b,w,hm,mD,rfl,rfl⟩
 conv=>whnf
 cases m with
 |zero=>
  have t1:decide (((0:Nat):Int)>0)=false:=aF
  obtain rfl:s=n:=hm
  have e:=mD.fin
  have hw:=mD.w
  have e3:((w:Nat):Int).tmod 2=(w:Int) % 2:=Int.tmod_eq_emod_of_nonneg (Int.natCast_nonneg _)
  by_cases hodd:w % 2=1
  ·rw[if_pos hodd]at e
   rw[e]
   have k1:=Fh b
   have t2:(((w:Nat):Int).tmod 2==1)=true:=by rw[e3];exact beq_iff_eq.2 aa
   (repeat((first|refine ag rfl rfl ?_|refine af rfl rfl ?_|refine bN Q3 ?_|refine aS (by assumption) ?_|rw[t1]|rw[t2]);conv=>whnf));exact Q5
  ·rw[if_neg hodd]at e
   rw[e]
   have t2:(((w:Nat):Int).tmod 2==1)=false:=by rw[e3];exact beq_eq_false_iff_ne.2 aa
   (repeat((first|refine af rfl rfl ?_|refine bN Q3 ?_|rw[t1]|rw[t2]);conv=>whnf));exact Q5
 |succ k=>
  have t1:decide (((k+1:Nat):Int)>0)=true:=decide_eq_true aa
  have PD:n - s=k+1:=aa
  have uE:gu (k+1) (k+1) a:=⟨aa,aa,by obtain⟨A,e,_⟩:=mD.ex;rw[e,cZ,PD]⟩
  rcases Za a (k+1) (k+1)with h0|⟨j,hj,hj0,ZG⟩
  ·have k1:=CI (b:=b) (s:=w) uE h0
   have e:=mD.none aa (by rw[PD];exact h0)
   rw[e]
   (repeat(first|(refine ag rfl rfl ?_;conv=>whnf)|(refine aS (by assumption) ?_;conv=>whnf)|(rw[t1];conv=>whnf)));exact Q5
  ·have Hr:B*4^s*4≤B*4^n:=by
    have:B*4^(s+1)≤B*4^n:=Nat.mul_le_mul_left B (Nat.pow_le_pow_right aF aa)
    rwa [Nat.pow_succ,←Nat.mul_assoc]at this
   have hzb:=mD.zb
   have hw:=mD.w
   have k1:=KU (b:=b) (s:=(w:Nat)) uE hj ZG hj0 aa
   obtain⟨w',ew,hx,hz⟩:=mD.aeQ (j:=j) aa
   rw[PD]at hx hz
   rw[show(if 0<j then((w:Nat):Int)+1 else(w:Nat))=((w':Nat):Int)from by rw[ew];split<;>simp]at k1
   have acE:gu (k+1) (k+1) (eP (k+1) (k+1) (eY (bl a (k+1)) 0 j)):=gu.mk' aa aa _
   have h00:bl (eP (k+1) (k+1) (eY (bl a (k+1)) 0 j)) (k+1) 0 0≠0:=by
    rw[cB aa aa];exact hj0
   have vx:w'≤s+1:=by rw[ew];split<;>omega
   generalize eP (k+1) (k+1) (eY (bl a (k+1)) 0 j)=a' at*
   have k2:=KQ (b:=b) (s:=(w':Nat)) acE hz aa
   have hnx:=sj.next (B:=B) (A0:=A0) (a:=a') (b:=b) (w:=w') (s:=s) (n:=n) aa vx hz (by rw[PD];exact hx) (by rw[PD];exact h00)
   rw[PD,show n - (s+1)=k by omega]at hnx
   clear mD hx hz uE acE Hr hzb
   (repeat((first|refine ag rfl rfl ?_|refine af rfl rfl ?_|refine aS (by assumption) ?_|rw[t1]|rw[Nat.zero_add]);conv=>whnf))
   exact⟨k,fun k=>k,[2,3],[2,3],aa,aB,s+1,_,_,w',aa,hnx,rfl,rfl⟩
theorem KV (F:Int→Int) (g:FuncId) (l:List Int) (hl:l.length<1099511627776) (hf:∀i,i<l.length→ab Tryz.prog g ([]++([iv (l.getD i 0)]++[])) [] (.int (F (l.getD i 0))) [] []):
  ab Tryz.prog 287 [cF .i64 l,.clo g [] []] [] (gO (l.map F)) [] []:=by
 have hz:(l.map F).length=l.length:=List.length_map _
 refine gX [] Tryz.func287 ?_
 intro w0 ρ0 hE
 conv=>whnf
 (repeat(first|(refine ay Q3 ?_;conv=>whnf)|(refine ak cO ?_;conv=>whnf)|(rw[Int.toNat_natCast];conv=>whnf)))
 refine ai hE (fun k=>k) [1,4,5,11,12,13] [10] (fun m fr hp=>∃i,m=l.length - i∧i≤l.length∧fr=[(1,.clo g [] []),(4,.val (.slice none 0 0)),(5,.aN 10 3 0 l.length),(11,cF .i64 l),(12,iv (l.length:Nat)),(13,iv (i:Nat))]∧
  hp=[(10,gB (l.map F) l.length i)]) l.length ?_ ?_ ?_
 ·kernel_rfl
 ·exact⟨0,rfl,Nat.zero_le _,rfl,by rw[gB,List.take_zero];rfl⟩
 rintro m _ _ ⟨i,rfl,hi,rfl,rfl⟩
 conv=>whnf
 have hlen:=ji hi hz
 by_cases aA:i<l.length
 ·have t1:=dX aA
  have t2:=bA (i:=i) aa
  have t3:=jk aA hz
  have k1:=hf i aA
  rw[←dV (f:=F) (d:=0) (e:=0) aA]at k1
  (repeat((first|refine aX Q3 ?_|refine ay Q3 ?_|refine aS (by assumption) ?_|refine aE t1 ?_|refine ak Q6 ?_|refine ak nA ?_|rw[t1]|rw[t3]|rw[t2]|rw[Int.toNat_natCast]|rw[Nat.zero_add]);conv=>whnf))
  refine⟨l.length - (i+1),fun k=>k,[1,4,5,11,12,13],[10],aa,aB,i+1,rfl,aA,rfl, ?_⟩
  rw[gB,←jh aA hz]
  rfl
 ·have t1:=ez aA
  have hI:i=l.length:=aa
  subst hI
  rw[jg hz]
  (repeat(first|(refine aM t1 ?_;conv=>whnf)));exact X7
theorem OC (F:Int→Int) (g:FuncId) (p:Pred) (l:List Int) (hl:l.length<1099511627776) (hf:∀i,i<l.length→ab Tryz.prog g ([]++([iv (l.getD i 0)]++[.atom p])) [] (.int (F (l.getD i 0))) [] []):
  ab Tryz.prog 273 [cF .i64 l,.clo g [] [.atom p]] [] (gO (l.map F)) [] []:=by
 have hz:(l.map F).length=l.length:=List.length_map _
 refine gX [] Tryz.func273 ?_
 intro w0 ρ0 hE
 conv=>whnf
 (repeat(first|(refine ay Q3 ?_;conv=>whnf)|(refine ak cO ?_;conv=>whnf)|(rw[Int.toNat_natCast];conv=>whnf)))
 refine ai hE (fun k=>k) [1,4,5,11,12,13] [10] (fun m fr hp=>∃i,m=l.length - i∧i≤l.length∧fr=[(1,.clo g [] [.atom p]),(4,.val (.slice none 0 0)),(5,.aN 10 3 0 l.length),(11,cF .i64 l),(12,iv (l.length:Nat)),(13,iv (i:Nat))]∧
  hp=[(10,gB (l.map F) l.length i)]) l.length ?_ ?_ ?_
 ·kernel_rfl
 ·exact⟨0,rfl,Nat.zero_le _,rfl,by rw[gB,List.take_zero];rfl⟩
 rintro m _ _ ⟨i,rfl,hi,rfl,rfl⟩
 conv=>whnf
 have hlen:=ji hi hz
 by_cases aA:i<l.length
 ·have t1:=dX aA
  have t2:=bA (i:=i) aa
  have t3:=jk aA hz
  have k1:=hf i aA
  rw[←dV (f:=F) (d:=0) (e:=0) aA]at k1
  (repeat((first|refine aX Q3 ?_|refine ay Q3 ?_|refine aS (by assumption) ?_|refine aE t1 ?_|refine ak Q6 ?_|refine ak nA ?_|rw[t1]|rw[t3]|rw[t2]|rw[Int.toNat_natCast]|rw[Nat.zero_add]);conv=>whnf))
  refine⟨l.length - (i+1),fun k=>k,[1,4,5,11,12,13],[10],aa,aB,i+1,rfl,aA,rfl, ?_⟩
  rw[gB,←jh aA hz]
  rfl
 ·have t1:=ez aA
  have hI:i=l.length:=aa
  subst hI
  rw[jg hz]
  (repeat(first|(refine aM t1 ?_;conv=>whnf)));exact X7
theorem OD (F:Int→Int) (g:FuncId) (p q:Pred) (l:List Int) (hl:l.length<1099511627776) (hf:∀i,i<l.length→ab Tryz.prog g ([]++([iv (l.getD i 0)]++[.atom p,.atom q])) [] (.int (F (l.getD i 0))) [] []):
  ab Tryz.prog 273 [cF .i64 l,.clo g [] [.atom p,.atom q]] [] (gO (l.map F)) [] []:=by
 have hz:(l.map F).length=l.length:=List.length_map _
 refine gX [] Tryz.func273 ?_
 intro w0 ρ0 hE
 conv=>whnf
 (repeat(first|(refine ay Q3 ?_;conv=>whnf)|(refine ak cO ?_;conv=>whnf)|(rw[Int.toNat_natCast];conv=>whnf)))
 refine ai hE (fun k=>k) [1,4,5,11,12,13] [10] (fun m fr hp=>∃i,m=l.length - i∧i≤l.length∧fr=[(1,.clo g [] [.atom p,.atom q]),(4,.val (.slice none 0 0)),(5,.aN 10 3 0 l.length),(11,cF .i64 l),(12,iv (l.length:Nat)),(13,iv (i:Nat))]∧
  hp=[(10,gB (l.map F) l.length i)]) l.length ?_ ?_ ?_
 ·kernel_rfl
 ·exact⟨0,rfl,Nat.zero_le _,rfl,by rw[gB,List.take_zero];rfl⟩
 rintro m _ _ ⟨i,rfl,hi,rfl,rfl⟩
 conv=>whnf
 have hlen:=ji hi hz
 by_cases aA:i<l.length
 ·have t1:=dX aA
  have t2:=bA (i:=i) aa
  have t3:=jk aA hz
  have k1:=hf i aA
  rw[←dV (f:=F) (d:=0) (e:=0) aA]at k1
  (repeat((first|refine aX Q3 ?_|refine ay Q3 ?_|refine aS (by assumption) ?_|refine aE t1 ?_|refine ak Q6 ?_|refine ak nA ?_|rw[t1]|rw[t3]|rw[t2]|rw[Int.toNat_natCast]|rw[Nat.zero_add]);conv=>whnf))
  refine⟨l.length - (i+1),fun k=>k,[1,4,5,11,12,13],[10],aa,aB,i+1,rfl,aA,rfl, ?_⟩
  rw[gB,←jh aA hz]
  rfl
 ·have t1:=ez aA
  have hI:i=l.length:=aa
  subst hI
  rw[jg hz]
  (repeat(first|(refine aM t1 ?_;conv=>whnf)));exact X7
theorem acF {r c:Nat} {l:List Int} (hr:r≤2048) (hc:c≤2048) (hl:l.length=r*c) (h:∀i,i<l.length→ -9223372036854775808≤l.getD i 0∧l.getD i 0<9223372036854775808):
  ab Tryz.prog 186 [iv r,iv c,cF .i64 l] [] (.ct [wA r c l,iv 0]) [] []:=by
 have hb:l.length<1099511627776:=by have:r*c≤2048*2048:=Nat.mul_le_mul hr hc;omega
 have k1:=KV (fun x=>x) 105 l hb (fun i hi=>l7 _ (h i hi).1 (h i hi).2)
 rw[List.map_id']at k1
 have k2:=iP r c l hb (fun i hi=>Nat.le_trans (KI (h i hi).1 (h i hi).2) aF)
 rw[dB hr hc hl]at k2
 refine bP [] Tryz.func186 ?_
 intro W0 w0 ρ0 hE
 conv=>whnf
 (repeat(first|(refine af rfl rfl ?_;conv=>whnf)|(refine aS (by assumption) ?_;conv=>whnf)));exact Q5
theorem sn (r c:Int) (l:List Int) (hl:l.length<1099511627776) (h:∀i,i<l.length→zs (l.getD i 0)≤536870912) {t:ByteArray} (ht:ab Tryz.prog 110 [mA r c (aG l)] [] (.val (.string t)) [] []):
  ab Tryz.prog 184 [wA r c l] [] (.val (.string t)) [] []:=by
 have k1:=KO r c l hl h
 refine bP [] Tryz.func184 ?_
 intro W0 w0 ρ0 hE
 conv=>whnf
 (repeat(first|(refine aS (by assumption) ?_;conv=>whnf)));exact Q5
def pZ (l:List Int):Int:=l.foldl (·*·) 1
theorem F4 {l:List Int} {i:Nat} (hi:i<l.length):pZ (l.take (i+1))=pZ (l.take i)*l.getD i 0:=by
 rw[pZ,List.take_add_one,List.getElem?_eq_getElem hi,List.foldl_append,List.getD_eq_getElem?_getD,List.getElem?_eq_getElem hi];rfl
theorem F5 {l:List Int} {B:Nat} (h:Zm B l):∀i,i≤l.length→zs (pZ (l.take i))≤2+i*B
 |0,_=>by rw[List.take_zero,pZ,List.foldl_nil,On];omega
 |i+1,hi=>by
  have h1:=F5 h i aa
  have h2:=h i aa
  have:=na (pZ (l.take i)) (l.getD i 0)
  rw[F4 aa,Nat.succ_mul];omega
theorem Hs {l:List Int} {B:Nat} (hz:Zm B l) (hl:l.length<1099511627776) (hb:2+(l.length+1)*B≤1073741824):ab Tryz.prog 281 [gO l] [] (.int (pZ l)) [] []:=by
 have k0:=l7 1 aF aF
 refine bP [] Tryz.func281 ?_
 intro W0 w0 ρ0 hE
 conv=>whnf
 (repeat(first|(refine aS (by assumption) ?_;conv=>whnf)|(refine ak cO ?_;conv=>whnf)))
 refine ai hE (fun k=>k) [2,3,7,8,9] [2,3] (fun m fr hp=>∃i,m=l.length - i∧i≤l.length∧fr=[(2,.ptr 2 0 0 0),(3,.ptr 3 0 0 0),(7,gO l),(8,iv (l.length:Nat)),(9,iv (i:Nat))]∧
  hp=[(2,zIB),(3,⟨50,true,.one [.int (pZ (l.take i))]⟩)]) l.length ?_ ?_ ?_
 ·kernel_rfl
 ·exact⟨0,rfl,Nat.zero_le _,rfl,rfl⟩
 clear k0
 rintro m _ _ ⟨i,rfl,hi,rfl,rfl⟩
 conv=>whnf
 by_cases aA:i<l.length
 ·have t1:=dX aA
  have t2:=bA (i:=i) aa
  have h1:=F5 hz i hi
  have h2:=hz i aA
  have h3:i*B≤l.length*B:=Nat.mul_le_mul_right B hi
  rw[Nat.succ_mul]at hb
  have k1:=nb (pZ (l.take i)) (l.getD i 0) aa
  (repeat((first|refine aS (by assumption) ?_|refine aE t1 ?_|refine ak Q6 ?_|refine ak nA ?_|rw[t1]|rw[t2]);conv=>whnf))
  exact⟨l.length - (i+1),fun k=>k,[2,3,7,8,9],[2,3],aa,aB,i+1,rfl,aA,rfl,by rw[F4 aA];rfl⟩
 ·have t1:=ez aA
  rw[List.take_of_length_le aa]
  (repeat(first|(refine aM t1 ?_;conv=>whnf)));exact Q5
def jl (a:List Int) (c i:Nat):Int:=oe c fun k=>((bl a c i k).natAbs:Int)
theorem nc {f:Nat→Int} {B:Nat}:∀n,(∀i,i<n→zs (f i)≤B)→zs (oe n f)≤1+n*B
 |0,_=>by rw[oe,AO];omega
 |n+1,h=>by
  have h1:=nc n (fun i hi=>h i aa)
  have h2:=h n aa
  have:=KG (oe n f) (f n)
  rw[oe,Nat.succ_mul];omega
theorem KW {r c B:Nat} {a:List Int} (ha:gu r c a) (za:Zm B a) (hb:1+(c+1)*B≤1073741824) {i:Nat} (hi:i<r):
  ab Tryz.prog 282 ([]++([iv (i:Nat)]++[bG (wC r c a)])) [] (.int (jl a c i)) [] []:=by
 have hc:=ha.c
 refine bP [] Tryz.func282 ?_
 intro W0 w0 ρ0 hE
 conv=>whnf
 (repeat(first|(refine ak Q6 ?_;conv=>whnf)|(refine ak Q9 ?_;conv=>whnf)))
 refine ai hE (fun k=>k) [0,1,3,6,7] [3] (fun m fr hp=>∃k:Nat,m=c - k∧k≤c∧fr=[(0,iv (i:Nat)),(1,bG (wC r c a)),(3,.ptr 3 0 0 0),(6,iv c),(7,iv (k:Nat))]∧
  hp=[(3,⟨50,true,.one [.int (oe k fun k=>((bl a c i k).natAbs:Int))]⟩)]) c ?_ ?_ ?_
 ·kernel_rfl
 ·exact⟨0,rfl,Nat.zero_le _,rfl,rfl⟩
 rintro m _ _ ⟨k,rfl,hk,rfl,rfl⟩
 conv=>whnf
 by_cases aA:k<c
 ·have t1:=dX aA
  have t2:=bA (i:=k) aa
  have k1:=xi ha hi aA
  have k2:=ug (bl a c i k)
  have k3:=eT false (bl a c i k).natAbs
  have h1:=nc (f:=fun k=>((bl a c i k).natAbs:Int)) (B:=B) k (fun j hj=>by rw[pV];exact bX za ha.n hi aa)
  have h2:=bX za ha.n hi aA
  have h3:k*B≤c*B:=Nat.mul_le_mul_right B hk
  rw[Nat.succ_mul]at hb
  rw[show signed false (bl a c i k).natAbs=((bl a c i k).natAbs:Int)from rfl]at k3
  have k4:=KJ (oe k fun k=>((bl a c i k).natAbs:Int)) ((bl a c i k).natAbs:Int) (by rw[pV];omega)
  (repeat((first|refine aw aB ?_|refine aS (by assumption) ?_|refine aE t1 ?_|refine ak Q6 ?_|rw[t1]|rw[t2]);conv=>whnf))
  exact⟨c - (k+1),fun k=>k,[0,1,3,6,7],[3],aa,aB,k+1,rfl,aA,rfl,rfl⟩
 ·have t1:=ez aA
  obtain rfl:k=c:=aa
  (repeat(first|(refine aM t1 ?_;conv=>whnf)));exact Q5
theorem ve {r c B:Nat} {a:List Int} (ha:gu r c a) (za:Zm B a) (hB:B≤536870912) (hb:2+(r+1)*(1+(c+1)*B)≤1073741824):
  ab Tryz.prog 180 [wA r c a] [] (.ct [.int (pZ ((dW r).map fun x=>jl a c x.toNat)),iv 0]) [] []:=by
 have hr:=ha.r
 have hc:=ha.c
 have hcb:1+(c+1)*B≤1073741824:=by
  have:1*(1+(c+1)*B)≤(r+1)*(1+(c+1)*B):=Nat.mul_le_mul_right _ aa
  omega
 have k0:=iP r c a (by have:=ha.n;have:r*c≤2048*2048:=Nat.mul_le_mul hr hc;omega) (fun i hi=>Nat.le_trans (za i hi) hB)
 rw[dB hr hc ha.n]at k0
 have k1:=(vd r [] hr (by simp)).wk (args:=[iv r,.val (.slice none 0 0)]) Q28
 rw[show rm r []=dW r from List.append_nil _]at k1
 have hu:∀i,i<(dW r).length→(dW r).getD i 0=i:=fun i hi=>by
  rw[bF]at hi
  have:=Ex (l:=[]) hi
  rwa [show rm r []=dW r from List.append_nil _]at this
 have k2:=OC (fun x=>jl a c x.toNat) 282 (eS (wC r c a)) (dW r) (by rw[bF];omega) (fun i hi=>by
  rw[hu i hi];rw[bF]at hi
  exact KW ha za hcb hi)
 have hzm:Zm (1+(c+1)*B) ((dW r).map fun x=>jl a c x.toNat):=by
  intro p hp
  rw[List.length_map]at hp
  rw[dV (d:=0) hp,hu p hp]
  rw[bF]at hp
  have:=nc (f:=fun k=>((bl a c p k).natAbs:Int)) (B:=B) c (fun j hj=>by rw[pV];exact bX za ha.n hp hj)
  exact Nat.le_trans this (Nat.add_le_add_left (Nat.mul_le_mul_right B (Nat.le_succ c)) 1)
 have k3:=Hs hzm (by rw[List.length_map,bF];omega) (by rw[List.length_map,bF];exact hb)
 refine bP [1] Tryz.func180 ?_
 intro W0 w0 ρ0 hE
 conv=>whnf
 (repeat((first|refine af rfl rfl ?_|refine aS (by assumption) ?_|rw[bne_self_eq_false]|refine ak Q6 ?_|refine ak Q9 ?_|refine ak uf ?_);conv=>whnf));exact Q5
theorem sr {s i x:Nat} (hx:x<s+1):((rm s [((s+i:Nat):Int)]).getD x 0).toNat=ff s i x:=by
 unfold ff
 by_cases h:x<s
 ·rw[Ex h,if_pos h];omega
 ·obtain rfl:x=s:=aa
  rw[CH,if_neg h];omega
theorem AQ {s i r:Nat} (hi:s+i<r):∀x,x<(rm s [((s+i:Nat):Int)]).length→0≤(rm s [((s+i:Nat):Int)]).getD x 0∧(rm s [((s+i:Nat):Int)]).getD x 0<r:=by
 intro x hx
 rw[oT]at hx
 by_cases h:x<s
 ·rw[Ex h];omega
 ·obtain rfl:x=s:=by simp at hx;omega
  rw[CH];omega
theorem QX {a:List Int} {r c B:Nat} (za:Zm B a) (ha:a.length=r*c) {m n:Nat} {f g:Nat→Nat} (hf:∀i,i<m→f i<r) (hg:∀i,i<n→g i<c):Zm B (eP m n fun i k=>bl a c (f i) (g k)):=
 kN fun i k hi hk=>bX za ha (hf i hi) (hg k hk)
theorem KX {r c s B:Nat} {a:List Int} (ha:gu r c a) (za:Zm B a) (hB:2≤B) (hs:s<40) (hb:2*(B*4^(s+1))≤1073741824) {i k:Nat} (hi:s+i<r) (hk:s+k<c):
  ab Tryz.prog 255 ([]++([iv (i:Nat),iv (k:Nat)]++[bG (wC r c a),bG [iv s]])) [] (.int (jL s (bl a c) i k)) [] []:=by
 have hr:=ha.r
 have hc:=ha.c
 have k1:=vd s [((s+i:Nat):Int)] aa (by simp)
 have k2:=vd s [((s+k:Nat):Int)] aa (by simp)
 have k3:=KP ha (AQ hi) (AQ hk) (by rw[oT];simp;omega) (by rw[oT];simp;omega)
 have e:∀x,(rm s [((s+x:Nat):Int)]).length=s+1:=fun x=>by rw[oT];rfl
 rw[e,e]at k3
 have k4:=CJ (n:=s+1) (B:=B) (a:=eP (s+1) (s+1) fun x y=>bl a c ((rm s [((s+i:Nat):Int)]).getD x 0).toNat ((rm s [((s+k:Nat):Int)]).getD y 0).toNat) (gu.mk' aa aa _) hB
  (QX za ha.n (fun x hx=>by rw[sr hx];unfold ff;split<;>omega) (fun x hx=>by rw[sr hx];unfold ff;split<;>omega)) aa hb
 have ed:bo (s+1) (bl (eP (s+1) (s+1) fun x y=>bl a c ((rm s [((s+i:Nat):Int)]).getD x 0).toNat ((rm s [((s+k:Nat):Int)]).getD y 0).toNat) (s+1))=jL s (bl a c) i k:=
  kG fun x y hx hy=>by rw[cB hx hy,sr hx,sr hy]
 rw[ed]at k4
 have w1:IntKind.i64.wrap ((s:Int)+(i:Int))=((s+i:Nat):Int):=by rw[wrap_i64 aa aa];omega
 have w2:IntKind.i64.wrap ((s:Int)+(k:Int))=((s+k:Nat):Int):=by rw[wrap_i64 aa aa];omega
 refine bP [12,18] Tryz.func255 ?_
 intro W0 w0 ρ0 hE
 conv=>whnf
 (repeat((first|refine aw aB ?_|refine aS (by assumption) ?_|refine ak Q6 ?_|rw[w1]|rw[w2]);conv=>whnf));exact Q5
abbrev stM (r c s:Nat) (a:List Int):List Int:=eP (r - s) (c - s) (jL s (bl a c))
theorem oU {r c s B:Nat} {a:List Int} (ha:gu r c a) (za:Zm B a) (hB:2≤B) (hs:s<40) (hb:2*(B*4^(s+1))≤1073741824) (hr':s≤r) (nx:s≤c):
  ab Tryz.prog 157 [wA r c a,iv s] [] (.ct [wA (r - s:Nat) (c - s:Nat) (stM r c s a),iv 0]) [] []:=by
 have hr:=ha.r
 have hc:=ha.c
 have hBb:B≤B*4^(s+1):=Nat.le_mul_of_pos_right B (Nat.pow_pos aF)
 have k0:=iP r c a (by have:=ha.n;have:r*c≤2048*2048:=Nat.mul_le_mul hr hc;omega) (fun i hi=>Nat.le_trans (za i hi) aa)
 rw[dB hr hc ha.n]at k0
 have k1:=F2 r c a
 have k5:=F0 (r:=r - s) (c:=c - s) aa aa (jL s (bl a c)) 255 (eS (wC r c a)) (eS [iv s]) (fun i k hi hk=>KX ha za hB hs hb aa aa)
 have k6:=Oq (r:=r - s) (c:=c - s) aa aa (jL s (bl a c)) 253 ((r - s:Nat):Int) ((c - s:Nat):Int) (stM r c s a) (fun i k hi hk=>by
   have:=xi (gu.mk' (r:=r - s) (c:=c - s) aa aa (jL s (bl a c))) hi hk
   rwa [cB hi hk]at this)
 have t1:decide ((s:Int)<0)=false:=decide_eq_false aa
 have t2:decide ((s:Int)>if (c:Int)<(r:Int)then(c:Int)else(r:Int))=false:=decide_eq_false (by split<;>omega)
 refine bP [2,3] Tryz.func157 ?_
 intro W0 w0 ρ0 hE
 conv=>whnf
 (repeat((first|refine ag rfl rfl ?_|refine af rfl rfl ?_|refine aS (by assumption) ?_|refine ak jo ?_|rw[bne_self_eq_false]|refine aM t2 ?_|refine ak Q6 ?_|refine ak Q9 ?_|rw[t1]|rw[t2]);conv=>whnf))
 refine ai hE (fun k=>k) [2,3,4,5,7,29,30] [4,7] (fun m fr hp=>∃(i R C:Nat),m=s - i∧i≤s∧i+R=r∧i+C=c∧(∀j,j≤i→bo j (bl a c)≠0)∧Zm (B*4^i) (eP R C (jL i (bl a c)))∧zs (bo i (bl a c))≤B*4^i∧
  fr=[(2,bG (wC r c a)),(3,bG [iv s]),(4,.ptr 4 0 0 0),(5,iv 0),(7,.ptr 7 0 0 0),(29,iv s),(30,iv (i:Nat))]∧
  hp=[(4,zW),(7,bS R C (eP R C (jL i (bl a c))) (bo i (bl a c)) 0)]) s ?_ ?_ ?_
 ·kernel_rfl
 ·have e:eP r c (jL 0 (bl a c))=a:=oS ha.n fun i k hi hk=>wV _ _ _
  refine⟨0,r,c,rfl,Nat.zero_le _,Nat.zero_add _,Nat.zero_add _,(fun j hj=>by rw[show j=0 by omega];exact(show(1:Int)≠0 by decide)), ?_, ?_,rfl, ?_⟩
  ·rw[e,Nat.pow_zero,Nat.mul_one];exact za
  ·rw[show bo 0 (bl a c)=1 from rfl,On];omega
  ·rw[e];rfl
 clear k1 k0
 rintro m _ _ ⟨i,R,C,rfl,hi,hR,hC,b6,hz,hzb,rfl,rfl⟩
 conv=>whnf
 by_cases aA:i<s
 ·have t3:=dX aA
  have t4:=bA (i:=i) aa
  obtain⟨R,rfl⟩:∃R',R=R'+1:=⟨R - 1,aa⟩
  obtain⟨C,rfl⟩:∃C',C=C'+1:=⟨C - 1,aa⟩
  have uE:gu (R+1) (C+1) (eP (R+1) (C+1) (jL i (bl a c))):=gu.mk' aa aa _
  have k1:=xi uE (i:=0) (k:=0) aa aa
  rw[cB aa aa,iI]at k1
  have k2:=jt (bo (i+1) (bl a c))
  by_cases h0:bo (i+1) (bl a c)=0
  ·rw[h0]at k1
   have k2:=jt 0
   have w1:IntKind.i64.wrap ((r:Int) - (s:Int))=((r - s:Nat):Int):=by rw[wrap_i64 aa aa];omega
   have w2:IntKind.i64.wrap ((c:Int) - (s:Int))=((c - s:Nat):Int):=by rw[wrap_i64 aa aa];omega
   (repeat((first|refine ag rfl rfl ?_|refine aS (by assumption) ?_|refine aE t3 ?_|refine ak Q6 ?_|refine ak Q9 ?_|refine ak uf ?_|rw[t3]|rw[w1]|rw[w2]);conv=>whnf));exact Q5
  ·have t5:((bo (i+1) (bl a c)).sign==0)=false:=beq_eq_false_iff_ne.2 fun e=>h0 (Int.sign_eq_zero_iff_zero.1 e)
   have Hr:B*4^i*4≤B*4^s:=by
    have:B*4^(i+1)≤B*4^s:=Nat.mul_le_mul_left B (Nat.pow_le_pow_right aF aa)
    rwa [Nat.pow_succ,←Nat.mul_assoc]at this
   have hp4:B*4^(s+1)=B*4^s*4:=by rw[Nat.pow_succ,Nat.mul_assoc]
   have hp5:B*4^(i+1)=B*4^i*4:=by rw[Nat.pow_succ,Nat.mul_assoc]
   have k3:=KQ (b:=bo i (bl a c)) (s:=0) uE hz aa
   have en:nxt R C (eP (R+1) (C+1) (jL i (bl a c))) (bo i (bl a c))=eP R C (jL (i+1) (bl a c)):=mj fun p q hp hq=>by
    rw[Ox,cB aa aa,cB aa aa,cB aa aa,cB aa aa]
    exact FA (b6 i (Nat.le_refl _)) p q
   have hz':Zm (B*4^(i+1)) (eP R C (jL (i+1) (bl a c))):=by
    rw[←en,hp5]
    exact kN fun p q hp hq=>Nat.le_trans (KH _ _) (by have:=Ey hz uE.n hp hq;omega)
   have aeT:zs (bo (i+1) (bl a c))≤B*4^(i+1):=by
    have:=bX hz uE.n (i:=0) (k:=0) aa aa
    rw[cB aa aa,iI]at this;omega
   rw[en,cB aa aa,iI]at k3
   have w3:IntKind.i64.wrap ((s:Int) - 1)=((s - 1:Nat):Int):=by rw[wrap_i64 aa aa];omega
   by_cases yV:i=s - 1
   ·have t6:((i:Int)==((s - 1:Nat):Int))=true:=by rw[yV];exact beq_self_eq_true _
    obtain rfl:R=r - s:=aa
    obtain rfl:C=c - s:=aa
    rw[show i+1=s by omega]at*
    (repeat((first|refine aS (by assumption) ?_|refine aE t3 ?_|refine aM t5 ?_|refine aE t6 ?_|refine ak Q6 ?_|refine ak uf ?_|rw[t3]|rw[t5]|rw[w3]);conv=>whnf));exact Q5
   ·have t6:((i:Int)==((s - 1:Nat):Int))=false:=beq_eq_false_iff_ne.2 aa
    (repeat((first|refine aS (by assumption) ?_|refine aE t3 ?_|refine aM t5 ?_|refine aM t6 ?_|refine ak Q6 ?_|rw[t3]|rw[t5]|rw[w3]|rw[t6]|rw[t4]|rw[Nat.zero_add]);conv=>whnf))
    exact⟨s - (i+1),fun k=>k,[2,3,4,5,7,29,30],[4,7],aa,aB,i+1,R,C,rfl,aA,aa,aa,(fun j hj=>by
     by_cases e:j=i+1
     ·rw[e];exact h0
     ·exact b6 j aa),hz',aeT,rfl,rfl⟩
 ·have t3:=ez aA
  obtain rfl:i=s:=aa
  obtain rfl:R=r - i:=aa
  obtain rfl:C=c - i:=aa
  (repeat(first|(refine aS (by assumption) ?_;conv=>whnf)|(refine aM t3 ?_;conv=>whnf)|(refine ak uf ?_;conv=>whnf)));exact Q5
end Go.Proofs.YtfpagioknjjacaaGreatDoor
namespace Go.Sx
set_option linter.unusedSimpArgs false
set_option linter.unusedVariables false
section
variable {P:Program} {o:Oper} {ft:List (Nat×SV)} {fk:List (Nat×aC)}
theorem Ht {t e:TypeId} {x:Operand} {xs':Array Operand} {ts:Array TypeId} {ti te:TI} {k i:Nat} {ty:TypeId} {kd:IntKind} {xs:List Int} (ho:o.op= .call ⟨.builtin .clear,xs',ts⟩) (hxs:xs'= #[x]) (jx:ts= #[t])
  (hx:bp ft x (.aN k 1 i 1)) (ht:aD P t ti) (hk:ti.kind= .aN e) (he:aD P e te) (hz:te.zero=[.val (.int kd 0)]) (hf:(k,⟨ty,true,.ints kd xs⟩)∈fk) (hi:i<xs.length):
  bV P o ft fk .any [] [(k,⟨ty,true,.ints kd (xs.set i 0)⟩)]:=
 dc fun ρ a w Bv=>by
  obtain⟨z,E7,iz⟩:=he.zeroValue
  have hz3:z.cells= #[.int kd 0]:=by
   apply Array.ext'
   rw[iz,hz];rfl
  have Iz:(Builtin.zeroCells #[Value.int kd 0] 1).toList=[.int kd 0]:=by simp[Builtin.zeroCells]
  have hu:=ht.kind;rw[hk]at hu
  rcases eV (hx ρ a Bv.dr)with⟨b,t',cap,h1,h2,h3,h4⟩|⟨h0,_⟩
  ·rcases Bv.mu k _ hf with g0|⟨b',n',vs,ex,g1,g2,g3,g4,g5⟩|⟨g1,_⟩
   ·cases g0
   ·rw[h1]at g1
    cases g1
    simp only[c9]at g3
    rw[Data.cy rfl]at g2
    have g2:w.heap[b]? =some (.cells (vs++ex).toArray ty (0,0)):=g2
    have hvl:vs.length=xs.length:=by rw[g3,List.length_map]
    have x8:=run_storeCells_at (P:=P) b i ty [.int kd 0] 0 (vs++ex).toArray w g2 (by simp;omega) (fun v hv=>by simp at hv;subst hv;rfl)
    have aeU:((vs++ex).toArray.toList.take (i+0)++[Value.int kd 0]++(vs++ex).toArray.toList.drop (i+0+[Value.int kd 0].length))=(xs.set i 0).map (.int kd)++ex:=by
     rw[g3,List.map_set,List.set_eq_take_append_cons_drop,if_pos (by rw[List.length_map];exact hi)]
     simp only[Nat.add_zero,List.length_singleton]
     rw[List.take_append_of_le_length (by rw[List.length_map];omega),List.drop_append_of_le_length (by rw[List.length_map];omega)]
     simp
    rw[aeU]at x8
    rw[Nat.mul_one]at h4
    refine⟨.tuple #[],w.setRow b ((xs.set i 0).map (Value.int kd)++ex).toArray,ρ, ?_, ?_⟩
    ·simp[execOp,ho,hxs,jx,resolve,invoke,builtin,Builtin.clear_,run_underlying hu,h4,E7,hz3,Iz,x8]
    ·refine⟨.refl ρ,trivial,fun _ _=>rfl,⟨rfl,rfl,rfl,by simp[World.setRow],fun i hi hn=> ?_⟩,fun j bj hj=> ?_,(fun j c c' h1 h2 h3 h4=> ?_),(fun _ _ _ h=>by cases h),(fun _ _ _ _ _ _ h=>by cases h),fun b o h=>.inl h⟩
     ·refine cU fun PA=>hn ⟨k,_,t',List.mem_cons_self .., ?_⟩
      rw[PA];exact h1
     ·rcases hj with hj|hj
      ·simp only[List.mem_singleton,Prod.mk.injEq]at hj
       obtain⟨rfl,rfl⟩:=hj
       refine .inr (.inl ⟨b,t',_,ex,h1,by rw[Data.cy rfl];exact de g2,rfl, ?_,g5⟩)
       rw[←g4];simp[hvl]
      ·cases hj
     ·simp only[List.mem_singleton,Prod.mk.injEq]at h1 h2
      obtain⟨_,rfl⟩:=h1
      obtain⟨_,rfl⟩:=h2
      rw[h3]at h4;cases h4
   ·rw[h1]at g1;cases g1
  ·omega
end
end Go.Sx
namespace Go.Proofs.YtfpagioknjjacaaGreatDoor
open Go.Sx
set_option linter.unusedSimpArgs false
set_option linter.unusedVariables false
set_option maxRecDepth 100000
set_option maxHeartbeats 40000000
theorem ib {n i:Nat} (hi:i<n):(dW n).getD i 0=i:=by simp[dW,List.getD_eq_getElem?_getD,hi]
def Bt (n j m:Nat):List Int:=(List.range n).map fun p:Nat=>if j≤p∧p<m then(p:Int)+1 else p
theorem lF (n j m:Nat):(Bt n j m).length=n:=by simp[Bt]
theorem xj {n j m p:Nat} (hp:p<n):(Bt n j m).getD p 0=if j≤p∧p<m then(p:Int)+1 else p:=by
 simp[Bt,List.getD_eq_getElem?_getD,hp]
theorem Hu (n j:Nat):Bt n j j=dW n:=by
 refine rl (lF ..) (bF _) fun p hp=> ?_
 rw[xj hp,ib hp,if_neg aa]
theorem OE {n j m:Nat} (hm:m<n) (hj:j≤m):(Bt n j m).set m ((m:Int)+1)=Bt n j (m+1):=by
 refine rl (by rw[List.length_set,lF]) (lF ..) fun p hp=> ?_
 rw[xj hp,List.getD_eq_getElem?_getD,List.getElem?_set]
 by_cases e:m=p
 ·subst e;rw[if_pos rfl,if_pos (by rw[lF];exact hm),if_pos aa];rfl
 ·rw[if_neg e,←List.getD_eq_getElem?_getD,xj hp]
  by_cases g:j≤p∧p<m
  ·rw[if_pos g,if_pos aa]
  ·rw[if_neg g,if_neg aa]
abbrev kO (n j:Nat):List Int:=(List.range (n - 1)).map fun p:Nat=>((sk j p:Nat):Int)
theorem fE (n j:Nat):(kO n j).length=n - 1:=by simp
theorem lG {n j p:Nat} (hp:p<n - 1):(kO n j).getD p 0=(sk j p:Nat):=by
 simp[kO,List.getD_eq_getElem?_getD,hp]
theorem OF (n j:Nat) (hj:j<n):((Bt n j (n - 1)).set (n - 1) 0).take (n - 1)=kO n j:=by
 refine rl (by rw[List.length_take,List.length_set,lF];omega) (fE ..) fun p hp=> ?_
 rw[lG hp,List.getD_eq_getElem?_getD,List.getElem?_take,if_pos hp,List.getElem?_set_ne aa,←List.getD_eq_getElem?_getD,xj aa]
 unfold sk
 by_cases g:p<j
 ·rw[if_neg aa,if_pos g]
 ·rw[if_pos aa,if_neg g];omega
theorem QY (x j:Nat) (h:x<100000) (h2:j<100000):ab Tryz.prog 264 ([]++([iv (x:Nat)]++[bG [iv j]])) [] (.val (.bool (decide (x=j)))) [] []:=by
 have e:((x:Int)==(j:Int))=decide (x=j):=by
  by_cases h:x=j
  ·rw[h,decide_eq_true rfl];exact beq_self_eq_true _
  ·rw[decide_eq_false h];exact beq_eq_false_iff_ne.2 aa
 rw[←e]
 refine bP [] Tryz.func264 ?_
 intro W0 w0 ρ0 hE
 conv=>whnf
 (repeat(first|(refine ak Q6 ?_;conv=>whnf)));exact Q5
theorem OG {n j:Nat} (hj:j<n) (hn:n≤2048) (K:Nat):ab Tryz.prog 303 [.aN K 1 0 n,.clo 264 [] [bG [iv j]]] [(K,dH (dW n))] (iv (j:Nat)) [] []:=by
 refine ab.px ?_
 refine fq (Z:=[]) aL bJ Tryz.func303 rfl aB (args:=[.aN 1001 1 0 n,.clo 264 [] [bG [iv j]]]) (fk:=[(1001,⟨3,false,.ints .i64 (dW n)⟩)]) (c:=iv (j:Nat)) (new:=[]) (upd:=[]) (cu.of rfl rfl rfl rfl rfl rfl rfl rfl rfl rfl rfl) rfl (fun _=>K) (bh.ro rfl) ?_
 intro W0 w0 ρ0 hE
 conv=>whnf
 skip
 refine ai hE (fun k=>k) [0,1,7,8] [1001] (fun m fr hp=>∃i:Nat,m=n - i∧i≤j∧fr=[(0,.aN 1001 1 0 n),(1,.clo 264 [] [bG [iv j]]),(7,iv n),(8,iv (i:Nat))]∧hp=[(1001,⟨3,false,.ints .i64 (dW n)⟩)]) n ?_ ?_ ?_
 ·kernel_rfl
 ·exact⟨0,rfl,Nat.zero_le _,rfl,rfl⟩
 rintro m _ _ ⟨i,rfl,hi,rfl,rfl⟩
 conv=>whnf
 have t1:=dX (show i<n by omega)
 have t2:=bA (i:=i) aa
 have g1:=ib (show i<n by omega)
 have lq:=bF n
 have k1:=QY i j aa aa
 by_cases e:i=j
 ·subst e
  rw[decide_eq_true rfl]at k1
  (repeat((first|refine ag rfl rfl ?_|refine aX Q3 ?_|refine ay Q3 ?_|refine aS (by assumption) ?_|refine aE t1 ?_|rw[t1]|rw[g1]|rw[Int.toNat_natCast]|rw[Nat.zero_add]);conv=>whnf))
  exact⟨aq.refl _,(fun _ _ h=>by cases h),(fun _ _ h=>by cases h)⟩
 ·rw[decide_eq_false e]at k1
  (repeat((first|refine af rfl rfl ?_|refine aX Q3 ?_|refine ay Q3 ?_|refine aS (by assumption) ?_|refine aE t1 ?_|rw[t1]|rw[g1]|rw[t2]|rw[Int.toNat_natCast]|rw[Nat.zero_add]);conv=>whnf))
  exact⟨n - (i+1),fun k=>k,[0,1,7,8],[1001],aa,aB,i+1,rfl,aa,rfl,rfl⟩
theorem KY {n j:Nat} (hj:j<n) (hn:n≤2048) (K:Nat):ab Tryz.prog 263 [.aN K 1 0 n,.clo 264 [] [bG [iv j]]] [(K,dH (dW n))] (.aN K 1 0 (n - 1)) [] [(K,dH ((Bt n j (n - 1)).set (n - 1) 0))]:=by
 refine fq (Z:=[]) aL bJ Tryz.func263 rfl aB (args:=[.aN 1001 1 0 n,.clo 264 [] [bG [iv j]]]) (fk:=[(1001,dH (dW n))]) (c:=.aN 1001 1 0 (n - 1)) (new:=[]) (upd:=[(1001,dH ((Bt n j (n - 1)).set (n - 1) 0))]) (cu.of rfl rfl rfl rfl rfl rfl rfl rfl rfl rfl rfl) rfl (fun _=>K) bh.upd ?_
 have k0:=OG hj hn 1001
 have t0:((j:Int)== -1)=false:=beq_eq_false_iff_ne.2 aa
 have t9:=bA (i:=j) aa
 intro W0 w0 ρ0 hE
 conv=>whnf
 (repeat(first|(refine af rfl rfl ?_;conv=>whnf)|(refine kU (by assumption) rfl ?_;conv=>whnf)|(rw[t0];conv=>whnf)))
 refine ai hE (fun k=>k) [0,1,5,6] [1001] (fun m fr hp=>∃i:Nat,m=n - (i+1)∧j≤i∧i<n∧fr=[(0,.aN 1001 1 0 n),(1,.clo 264 [] [bG [iv j]]),(5,iv (i:Nat)),(6,iv (i+1:Nat))]∧hp=[(1001,dH (Bt n j i))]) (n - (j+1)) ?_ ?_ ?_
 ·kernel_rfl
 ·exact⟨j,rfl,Nat.le_refl _,hj,by rw[←t9];rfl,by rw[Hu];rfl⟩
 clear k0
 rintro m _ _ ⟨i,rfl,hji,hi,rfl,rfl⟩
 conv=>whnf
 have lq:=lF n j i
 by_cases aA:i+1<n
 ·have t1:decide (((i+1:Nat):Int)<(n:Int))=true:=decide_eq_true aa
  have t2:=bA (i:=i) aa
  have t3:=bA (i:=i+1) aa
  have g1:(Bt n j i).getD (i+1) 0=((i+1:Nat):Int):=by rw[xj aA,if_neg aa]
  have k1:=QY (i+1) j aa aa
  rw[decide_eq_false aa]at k1
  (repeat((first|refine ag rfl rfl ?_|refine aX Q3 ?_|refine ay Q3 ?_|refine aS (by assumption) ?_|refine aE t1 ?_|rw[t1]|rw[g1]|rw[t2]|rw[t3]|rw[Int.toNat_natCast]|rw[Nat.zero_add]);conv=>whnf))
  refine⟨n - (i+1+1),fun k=>k,[0,1,5,6],[1001],aa,aB,i+1,rfl,aa,aA,rfl, ?_⟩
  rw[←OE hi hji]
  rfl
 ·have t1:decide (((i+1:Nat):Int)<(n:Int))=false:=decide_eq_false aa
  obtain rfl:i=n - 1:=aa
  have e1:((n:Int) - ((n - 1:Nat):Int)).toNat=1:=aa
  have e2:(((n - 1:Nat):Int)).toNat=n - 1:=aa
  have lq2:((Bt n j (n - 1)).set (n - 1) 0).length=n:=by rw[List.length_set,lF]
  (repeat((first|refine ay Q3 ?_|refine aM t1 ?_|refine⟨.any,[(1001,dH (Bt n j (n - 1)))],[],[(1001,dH ((Bt n j (n - 1)).set (n - 1) 0))],Ht rfl rfl rfl (aj rfl) (aL.get (t:=33) rfl) rfl (aL.get (t:=3) rfl) rfl (List.mem_cons_self ..) aa,dv rfl,ar,dp (List.mem_cons_self ..) rfl rfl rfl, ?_⟩|rw[t1]|rw[e1]|rw[e2]|rw[Nat.zero_add]);conv=>whnf))
  exact⟨by rw[show((n - 1:Nat):Int) - 0=((n - 1:Nat):Int)from Int.sub_zero _,e2];exact aq.refl _,(fun _ _ h=>by cases h),(fun k b h=>by simp only[List.mem_singleton,Prod.mk.injEq]at h;obtain⟨rfl,rfl⟩:=h;rfl)⟩
theorem QZ {r c:Nat} (a:List Int) {j:Nat} (hj:j<r) (hr:r≤2048):ab Tryz.prog 262 ([]++([iv (j:Nat)]++[bG (wC r c a)])) [] (cF .i64 (kO r j)) [] []:=by
 have k1:=(Ov r [] hr (by simp)).wk (args:=[iv r,.val (.slice none 0 0)]) Q28
 rw[show rm r []=dW r from List.append_nil _]at k1
 have k2:=KY hj hr 2001
 refine gX [2] Tryz.func262 ?_
 intro w0 ρ0 hE
 conv=>whnf
 (repeat((first|refine mK (by assumption) rfl ?_|refine I8 (by assumption) rfl rfl ?_|refine ak Q6 ?_|refine ak Q9 ?_|refine ak uf ?_);conv=>whnf))
 rw[←OF r j hj]
 refine ll.one rfl rfl ?_
 have:=cW.aN (k:=2001) (w:=1) (i:=0) (n:=r - 1) (ty:=3) (d:=.ints .i64 ((Bt r j (r - 1)).set (r - 1) 0)) (xs:=((Bt r j (r - 1)).set (r - 1) 0).map fun x=>.val (.int .i64 x)) (hp:=[(2001,dH ((Bt r j (r - 1)).set (r - 1) 0))]) rfl rfl rfl (bw (fun _=>rfl) _) (by simp[lF])
 rw[gv,List.drop_zero,Nat.zero_add,Nat.sub_zero,←List.map_take]at this
 exact this
def po (n:Nat) (A:Mz):Mz:=fun i k=>G8 (i+k)*bo (n - 1) fun a b=>A (sk k a) (sk i b)
theorem yX (n:Nat) (A:Mz) (i k:Nat):((po n A i k:Int):Rat)=dU n (ra A) i k:=by
 rw[po,dU,Rat.intCast_mul,kF,bT];rfl
theorem vf {n j:Nat}:∀x,x<(kO n j).length→0≤(kO n j).getD x 0∧(kO n j).getD x 0<n:=by
 intro x hx
 rw[fE]at hx
 rw[lG hx]
 have:=kp (k:=j) hx
 omega
theorem Zb {n B:Nat} {a:List Int} (ha:gu n n a) (za:Zm B a) (hB:2≤B) (hn:n≤40) (hb:2*(B*4^n)≤1073741824) {i k:Nat} (hi:i<n) (hk:k<n):
  ab Tryz.prog 261 ([]++([iv (i:Nat),iv (k:Nat)]++[bG (wC n n a)])) [] (.int (po n (bl a n) i k)) [] []:=by
 have k1:=QZ (c:=n) a hk aa
 have k2:=QZ (c:=n) a hi aa
 have k3:=KP ha (p:=kO n k) (q:=kO n i) vf vf (by rw[fE];omega) (by rw[fE];omega)
 rw[fE,fE]at k3
 have Hr:B*4^(n - 1)≤B*4^n:=Nat.mul_le_mul_left B (Nat.pow_le_pow_right aF aa)
 have k4:=CJ (n:=n - 1) (B:=B) (a:=eP (n - 1) (n - 1) fun x y=>bl a n ((kO n k).getD x 0).toNat ((kO n i).getD y 0).toNat) (gu.mk' aa aa _) hB
  (QX za ha.n (fun x hx=>by rw[lG hx];have:=kp (k:=k) hx;omega) (fun x hx=>by rw[lG hx];have:=kp (k:=i) hx;omega)) aa aa
 have ed:bo (n - 1) (bl (eP (n - 1) (n - 1) fun x y=>bl a n ((kO n k).getD x 0).toNat ((kO n i).getD y 0).toNat) (n - 1))=bo (n - 1) fun x y=>bl a n (sk k x) (sk i y):=
  kG fun x y hx hy=>by rw[cB hx hy,lG hx,lG hy];rfl
 rw[ed]at k4
 have w1:IntKind.i64.wrap ((i:Int)+(k:Int))=((i+k:Nat):Int):=by rw[wrap_i64 aa aa];omega
 have e3:((i+k:Nat):Int).tmod 2=((i+k:Nat):Int) % 2:=Int.tmod_eq_emod_of_nonneg (Int.natCast_nonneg _)
 rw[po,jK]
 generalize (bo (n - 1) fun x y=>bl a n (sk k x) (sk i y))=D at*
 by_cases hodd:(i+k) % 2=1
 ·have t2:(((i+k:Nat):Int).tmod 2==1)=true:=by rw[e3];exact beq_iff_eq.2 aa
  have k5:=Fh D
  rw[if_pos hodd,Int.neg_one_mul]
  refine bP [] Tryz.func261 ?_
  intro W0 w0 ρ0 hE
  conv=>whnf
  (repeat((first|refine aw aB ?_|refine bN Q3 ?_|refine aS (by assumption) ?_|refine aE t2 ?_|refine ak Q6 ?_|refine ak uf ?_|rw[w1]);conv=>whnf));exact Q5
 ·have t2:(((i+k:Nat):Int).tmod 2==1)=false:=by rw[e3];exact beq_eq_false_iff_ne.2 aa
  rw[if_neg hodd,Int.one_mul]
  refine bP [] Tryz.func261 ?_
  intro W0 w0 ρ0 hE
  conv=>whnf
  (repeat((first|refine aw aB ?_|refine bN Q3 ?_|refine aS (by assumption) ?_|refine aM t2 ?_|refine ak Q6 ?_|refine ak uf ?_|rw[w1]);conv=>whnf));exact Q5
theorem ng {n B:Nat} {a:List Int} (ha:gu n n a) (za:Zm B a) (hB:2≤B) (hB2:B≤536870912) (hn:n≤40) (hb:2*(B*4^n)≤1073741824):
  ab Tryz.prog 159 [wA n n a] [] (.ct [wA n n (eP n n (po n (bl a n))),iv 0]) [] []:=by
 have k0:=oj n n a (by have:=ha.n;have:n*n≤40*40:=Nat.mul_le_mul hn hn;omega) (fun i hi=>Nat.le_trans (za i hi) hB2)
 rw[dB ha.r ha.c ha.n,if_pos rfl,if_pos rfl]at k0
 have k1:=Ot (r:=n) (c:=n) aa aa (po n (bl a n)) 261 (eS (wC n n a)) (fun i k hi hk=>Zb ha za hB hn hb hi hk)
 refine bP [1] Tryz.func159 ?_
 intro W0 w0 ρ0 hE
 conv=>whnf
 (repeat((first|refine af rfl rfl ?_|refine aS (by assumption) ?_|rw[bne_self_eq_false]|refine ak Q6 ?_|refine ak Q9 ?_|refine ak uf ?_);conv=>whnf));exact Q5
def EB (all:Nat) (x:Rat):Nat:=all*(x.den/Nat.gcd all x.den)
def jN (l:List Rat):Nat:=l.foldl EB 1
theorem CK {l:List Rat} {i:Nat} (hi:i<l.length):jN (l.take (i+1))=EB (jN (l.take i)) (l.getD i 0):=by
 rw[jN,List.take_add_one,List.getElem?_eq_getElem hi,List.foldl_append,List.getD_eq_getElem?_getD,List.getElem?_eq_getElem hi];rfl
theorem OH {a:Nat} {x:Rat} (ha:0<a):0<EB a x:=by
 unfold EB
 exact Nat.mul_pos ha (Nat.div_pos (Nat.le_of_dvd x.den_pos (Nat.gcd_dvd_right _ _)) (Nat.gcd_pos_of_pos_left _ ha))
theorem AR:∀(l:List Rat) (a:Nat),0<a→0<l.foldl EB a
 |[],_,h=>h
 |x::l,a,h=>AR l _ (OH h)
theorem KZ (x:Rat):sz x.den+1≤fs x:=by have:=dE x;unfold fs;omega
theorem AS {l:List Rat} {B:Nat} (h:Sm B l):∀i,i≤l.length→sz (jN (l.take i))≤1+i*B
 |0,_=>by rw[List.take_zero,jN,List.foldl_nil,DH];omega
 |i+1,hi=>by
  have h1:=AS h i aa
  have h2:=h i aa
  have h3:=KZ (l.getD i 0)
  have h4:=fu (jN (l.take i)) ((l.getD i 0).den/Nat.gcd (jN (l.take i)) (l.getD i 0).den)
  have h5:=v8 (l.getD i 0).den (Nat.gcd (jN (l.take i)) (l.getD i 0).den)
  rw[CK aa,EB,Nat.succ_mul];omega
theorem EC {l:List Rat} {B:Nat} (hz:Sm B l) (hl:l.length<1099511627776) (hb:1+(l.length+1)*B≤1073741824):ab Tryz.prog 277 [cX l] [] (.nat (jN l)) [] []:=by
 have k0:=nY 1 aF
 refine bP [] Tryz.func277 ?_
 intro W0 w0 ρ0 hE
 conv=>whnf
 (repeat(first|(refine aS (by assumption) ?_;conv=>whnf)|(refine ak cO ?_;conv=>whnf)))
 refine ai hE (fun k=>k) [2,3,11,12,13] [2,3] (fun m fr hp=>∃i,m=l.length - i∧i≤l.length∧fr=[(2,.ptr 2 0 0 0),(3,.ptr 3 0 0 0),(11,cX l),(12,iv (l.length:Nat)),(13,iv (i:Nat))]∧
  hp=[(2,⟨46,true,.one [.nat 0]⟩),(3,⟨46,true,.one [.nat (jN (l.take i))]⟩)]) l.length ?_ ?_ ?_
 ·kernel_rfl
 ·exact⟨0,rfl,Nat.zero_le _,rfl,rfl⟩
 clear k0
 rintro m _ _ ⟨i,rfl,hi,rfl,rfl⟩
 conv=>whnf
 by_cases aA:i<l.length
 ·have t1:=dX aA
  have t2:=bA (i:=i) aa
  have h1:=AS hz i hi
  have h2:=hz i aA
  have h3:i*B≤l.length*B:=Nat.mul_le_mul_right B hi
  rw[Nat.succ_mul]at hb
  have h4:=KZ (l.getD i 0)
  have h0:0<jN (l.take i):=AR _ _ aF
  have hg:Nat.gcd (jN (l.take i)) (l.getD i 0).den≠0:=Nat.pos_iff_ne_zero.1 (Nat.gcd_pos_of_pos_left _ h0)
  have h5:=I2 (b:=(l.getD i 0).den) (Nat.pos_iff_ne_zero.1 h0)
  have h6:=v8 (l.getD i 0).den (Nat.gcd (jN (l.take i)) (l.getD i 0).den)
  have k1:=abS er (l.getD i 0) aa
  have k2:=er.gcd (jN (l.take i)) (l.getD i 0).den aa aa
  have k3:=er.div (l.getD i 0).den (Nat.gcd (jN (l.take i)) (l.getD i 0).den) aa aa hg
  have k4:=er.mul (jN (l.take i)) ((l.getD i 0).den/Nat.gcd (jN (l.take i)) (l.getD i 0).den) aa
  clear h1 h2 h3 h4 h5 h6
  (repeat((first|refine ag rfl rfl ?_|refine aw aB ?_|refine aS (by assumption) ?_|refine ak Ai ?_|refine ak Q6 ?_|rw[t1]|rw[t2]);conv=>whnf))
  exact⟨l.length - (i+1),fun k=>k,[2,3,11,12,13],[2,3],aa,aB,i+1,rfl,aA,rfl,by rw[CK aA];rfl⟩
 ·have t1:=ez aA
  rw[List.take_of_length_le aa]
  (repeat(first|(refine af rfl rfl ?_;conv=>whnf)|(rw[t1];conv=>whnf)));exact Q5
abbrev xG (r c:Nat) (a:List Rat):List Nat:=(List.range r).map fun i=>jN (cj a c i)
abbrev xk (r c:Nat) (a:List Rat):List Int:=eP r c fun i k=>(el a c i k*(jN (cj a c i):Rat)).num
theorem AT (r c:Nat) (a:List Rat):(xG r c a).length=r:=by simp
theorem nh {r c i:Nat} (a:List Rat) (hi:i<r):(xG r c a).getD i 0=jN (cj a c i):=by simp[List.getD_eq_getElem?_getD,hi]
abbrev Hv (l:List Nat):SV:=cT 2 .nat l
abbrev OI (l:List Nat) (n i:Nat):aC:=⟨46,true,.seq 2 ((l.map SV.nat).take i++List.replicate (n - i) (SV.nat 0))⟩
theorem oV {r c B:Nat} {a:List Rat} (ha:jq r c a) (sa:Sm B a) (hB:2≤B) (hb:4+(c+3)*B≤536870912):
  ab Tryz.prog 175 [mA r c a] [] (.ct [wA r c (xk r c a),Hv (xG r c a),iv 0]) [] []:=by
 have hr:=ha.r
 have hc:=ha.c
 have hn:=ha.n
 have vO:r*c≤2048*2048:=Nat.mul_le_mul hr hc
 have k0:=kI ha
 refine gX [1] Tryz.func175 ?_
 intro w0 ρ0 hE
 conv=>whnf
 (repeat((first|refine af rfl rfl ?_|refine aw aB ?_|refine ay Q3 ?_|refine aS (by assumption) ?_|rw[bne_self_eq_false]|refine ak cO ?_|refine ak Q6 ?_|refine ak Q9 ?_|rw[Int.toNat_natCast]);conv=>whnf))
 have lz:(xk r c a).length=a.length:=by rw[cZ,hn]
 have ly:=AT r c a
 have lz2:((xk r c a).map SV.int).length=a.length:=by rw[List.length_map,lz]
 have ZR:((xG r c a).map SV.nat).length=r:=by rw[List.length_map,ly]
 refine ai hE (fun k=>k) [1,2,3,4,6,7,31,32] [2,6,25,29] (fun m fr hp=>∃i:Nat,m=r - i∧i≤r∧fr=[(1,bG (mC r c a)),(2,.ptr 2 0 0 0),(3,.val (.slice none 0 0)),(4,iv 0),(6,.ptr 6 0 0 0),(7,.aN 29 2 0 r),(31,iv r),(32,iv (i:Nat))]∧
  hp=[(2,zW),(6,⟨207,true,.one [iv r,iv c,.aN 25 3 0 a.length]⟩),(25,gB (xk r c a) a.length (i*c)),(29,OI (xG r c a) r i)]) r ?_ ?_ ?_
 ·kernel_rfl
 ·exact⟨0,rfl,Nat.zero_le _,rfl,by rw[Nat.zero_mul,gB,OI,List.take_zero,List.take_zero];rfl⟩
 clear k0
 rintro m _ _ ⟨i,rfl,hi,rfl,rfl⟩
 conv=>whnf
 by_cases aA:i<r
 ·have t2:=dX aA
  have t3:=bA (i:=i) aa
  have yN:(i+1)*c≤r*c:=Nat.mul_le_mul_right c aA
  obtain⟨w1,w2,w3⟩:=yM (i:=i) (c:=c) aa hc
  have hle:i*c≤(i+1)*c:=Nat.mul_le_mul_right c aa
  have acG:=cE aA hn
  have acH:Sm B (cj a c i):=fun p hp=>by
   rw[acG]at hp
   rw[eK hp];exact mb sa hn aA hp
  have k1:=EC acH aa (by rw[acG];have:=Nat.mul_le_mul_right B (show c+1≤c+3 by omega);omega)
  have g1:(((xG r c a).map SV.nat).take i++List.replicate (r - i) (SV.nat 0)).getD i SV.any= .nat 0:=wo aA ZR
  have lny:=ek (d:=SV.nat 0) hi ZR
  have e1:(i+1)*c - i*c=c:=by rw[Nat.succ_mul];omega
  have e2:((xG r c a).map SV.nat).getD i (SV.nat 0)= .nat (jN (cj a c i)):=by rw[dV (d:=0) aa,nh a aA]
  have hsy:=jd (d:=SV.nat 0) (e:=SV.nat 0) aA ZR
  rw[e2]at hsy
  (repeat((first|refine ag rfl rfl ?_|refine aX Q3 ?_|refine ay Q3 ?_|refine aS (by assumption) ?_|refine ak cO ?_|refine ak Q6 ?_|refine ak Q9 ?_|refine ak Qx ?_|rw[t2]|rw[w1]|rw[w3]|rw[w2]|rw[e1]|rw[g1]|rw[hsy]|rw[Int.toNat_natCast]|rw[Nat.zero_add]);conv=>whnf))
  refine ai hE (fun k=>k) [1,2,3,4,6,7,8,9,31,32,52,53,54] [2,6,25,29] (fun m fr hp=>∃k:Nat,m=c - k∧k≤c∧fr=[(1,bG (mC r c a)),(2,.ptr 2 0 0 0),(3,.val (.slice none 0 0)),(4,iv 0),(6,.ptr 6 0 0 0),(7,.aN 29 2 0 r),(8,iv (i:Nat)),(9,cX (cj a c i)),(31,iv r),(32,iv (i:Nat)),(52,cX (cj a c i)),(53,iv ((cj a c i).length:Nat)),(54,iv (k:Nat))]∧
   hp=[(2,zW),(6,⟨207,true,.one [iv r,iv c,.aN 25 3 0 a.length]⟩),(25,gB (xk r c a) a.length (i*c+k)),(29,OI (xG r c a) r (i+1))]) c ?_ ?_ ?_
  ·kernel_rfl
  ·exact⟨0,rfl,Nat.zero_le _,rfl,rfl⟩
  clear k1
  rintro m _ _ ⟨k,rfl,hk,rfl,rfl⟩
  conv=>whnf
  by_cases hlk:k<c
  ·have t4:=dX (show k<(cj a c i).length by omega)
   have t5:=bA (i:=k) aa
   obtain⟨w4,w5⟩:=kJ (i:=i) (k:=k) (c:=c) aa hc aa
   rw[Nat.succ_mul]at yN
   have hx:i*c+k<a.length:=aa
   have hkr:k<(cj a c i).length:=aa
   have hlen:=ji (l:=xk r c a) (show i*c+k≤a.length by omega) lz
   have t6:=jk (l:=xk r c a) (show i*c+k<a.length by omega) lz
   have ahL:=ek (d:=SV.nat 0) (show i+1≤r by omega) ZR
   have g2:(((xG r c a).map SV.nat).take (i+1)++List.replicate (r - (i+1)) (SV.nat 0)).getD i SV.any= .nat (jN (cj a c i)):=by
    rw[List.getD_eq_getElem?_getD,List.getElem?_append_left (by rw[List.length_take,ZR];omega),List.getElem?_take,if_pos aa,←List.getD_eq_getElem?_getD,dV (d:=0) aa,nh a aA]
   have hgr:(cj a c i).getD k 0=el a c i k:=eK hlk
   have GM:fs (el a c i k)≤B:=mb sa hn aA hlk
   have ZM:sz (jN (cj a c i))≤1+c*B:=by
    have:=AS acH c aa
    rwa [List.take_of_length_le aa]at this
   have hcb:(c+3)*B=c*B+3*B:=Nat.add_mul c 3 B
   have k2:=eT false (jN (cj a c i))
   rw[show signed false (jN (cj a c i))=((jN (cj a c i):Nat):Int)from rfl]at k2
   have hzs:zs ((jN (cj a c i):Nat):Int)≤2+c*B:=by unfold zs;rw[Int.natAbs_natCast];omega
   have hfz:=oi ((jN (cj a c i):Nat):Int)
   have k3:=KN ((jN (cj a c i):Nat):Int) aa
   have k4:=Cl (el a c i k) (((jN (cj a c i):Nat):Int):Rat) aa
   have k5:=Jl (el a c i k*(((jN (cj a c i):Nat):Int):Rat))
   have H7:bl (xk r c a) c i k=(el a c i k*(((jN (cj a c i):Nat):Int):Rat)).num:=by rw[cB aA hlk];rfl
   rw[←H7]at k5
   rw[←hgr]at k4 k5
   clear hgr GM ZM hcb hzs hfz yN hle
   (repeat((first|refine ag rfl rfl ?_|refine aw aB ?_|refine aX Q3 ?_|refine ay Q3 ?_|refine aS (by assumption) ?_|refine ak Ai ?_|refine ak Q6 ?_|refine ak Q9 ?_|rw[t4]|rw[w4]|rw[w5]|rw[t6]|rw[g2]|rw[t5]|rw[Int.toNat_natCast]|rw[Nat.zero_add]);conv=>whnf))
   refine⟨c - (k+1),fun k=>k,[1,2,3,4,6,7,8,9,31,32,52,53,54],[2,6,25,29],aa,aB,k+1,rfl,hlk,rfl, ?_⟩
   rw[show i*c+(k+1)=i*c+k+1 from rfl,gB,←jh (show i*c+k<a.length by omega) lz]
   rfl
  ·have t4:=ez (show ¬k<(cj a c i).length by omega)
   obtain rfl:k=c:=aa
   (repeat(first|(refine af rfl rfl ?_;conv=>whnf)|(rw[t4];conv=>whnf)|(rw[t3];conv=>whnf)))
   refine⟨r - (i+1),fun k=>k,[1,2,3,4,6,7,31,32],[2,6,25,29],aa,aB,i+1,rfl,aA,rfl, ?_⟩
   rw[Nat.succ_mul]
   rfl
 ·have t2:=ez aA
  obtain rfl:i=r:=aa
  rw[←hn,jg lz,OI,je ZR]
  (repeat(first|(refine af rfl rfl ?_;conv=>whnf)|(rw[t2];conv=>whnf)))
  (first|exact aq.refl _|exact ll.lJ (aq.refl _) rfl|(refine ll.one rfl rfl ?_;skip)|(refine ll.ct ?_;(repeat(first|exact cW.bE rfl|exact gd.nil|refine gd.cons ?_ ?_|refine cW.agg ?_|(refine cW.seq rfl (by first|rfl|(apply bw;intro _;rfl)) ?_;(first|rfl|omega|(simp<;>fail)|(simp<;>omega)))))))
theorem rn {n B:Nat} {a:List Int} (ha:gu n n a) (za:Zm B a) (hB:2≤B) (hB2:B≤536870912) (hn:n≤40) (hb:2*(B*4^n)≤1073741824):
  ab Tryz.prog 160 [wA n n a] [] (.ct [.int (bo n (bl a n)),iv 0]) [] []:=by
 have k0:=oj n n a (by have:=ha.n;have:n*n≤40*40:=Nat.mul_le_mul hn hn;omega) (fun i hi=>Nat.le_trans (za i hi) hB2)
 rw[dB ha.r ha.c ha.n,if_pos rfl,if_pos rfl]at k0
 have k1:=CJ ha hB za hn hb
 refine bP [1] Tryz.func160 ?_
 intro W0 w0 ρ0 hE
 conv=>whnf
 (repeat((first|refine af rfl rfl ?_|refine aS (by assumption) ?_|rw[bne_self_eq_false]|refine ak Q6 ?_);conv=>whnf));exact Q5
def ED (n:Nat) (a b:List Int) (c:Nat):Mz:=fun i k=>if k=c then b.getD i 0 else bl a n i k
theorem Zc {n:Nat} {a b:List Int} (ha:gu n n a) (hb:b.length=n) {c i k:Nat} (hi:i<n) (hk:k<n):
  ab Tryz.prog 275 ([]++([iv (i:Nat),iv (k:Nat)]++[bG [iv c],bG [gO b],bG (wC n n a)])) [] (.int (ED n a b c i k)) [] []:=by
 have k1:=xi ha hi hk
 unfold ED
 by_cases h:k=c
 ·have t1:((k:Int)==(c:Int))=true:=by rw[h];exact beq_self_eq_true _
  rw[if_pos h]
  refine bP [] Tryz.func275 ?_
  intro W0 w0 ρ0 hE
  conv=>whnf
  (repeat(first|(refine aE t1 ?_;conv=>whnf)|(refine ak Q6 ?_;conv=>whnf)|(refine ak nA ?_;conv=>whnf)));exact Q5
 ·have t1:((k:Int)==(c:Int))=false:=beq_eq_false_iff_ne.2 aa
  rw[if_neg h]
  refine bP [] Tryz.func275 ?_
  intro W0 w0 ρ0 hE
  conv=>whnf
  (repeat(first|(refine aS (by assumption) ?_;conv=>whnf)|(refine aM t1 ?_;conv=>whnf)|(refine ak Q6 ?_;conv=>whnf)));exact Q5
theorem K0 {n B:Nat} {a b:List Int} (ha:gu n n a) (za:Zm B a) (hb:b.length=n) (zb:Zm B b) (c:Nat):Zm B (eP n n (ED n a b c)):=
 kN fun i k hi hk=>by
  unfold ED
  split
  ·exact zb i aa
  ·exact bX za ha.n hi hk
theorem acI {n B:Nat} {a b:List Int} (ha:gu n n a) (za:Zm B a) (hl:b.length=n) (zb:Zm B b) (hB:2≤B) (hn:n≤40) (hb:2*(B*4^n)≤1073741824) (c:Nat):
  ab Tryz.prog 274 ([]++([iv (c:Nat)]++[bG (wC n n a),bG [gO b]])) [] (.int (bo n (ED n a b c))) [] []:=by
 have k1:=F1 (r:=n) (c:=n) aa aa (ED n a b c) 275 (eS [iv c]) (eS [gO b]) (eS (wC n n a)) (fun i k hi hk=>Zc ha hl hi hk)
 have k2:=CJ (gu.mk' (r:=n) (c:=n) aa aa (ED n a b c)) hB (K0 ha za hl zb c) hn hb
 rw[show bo n (bl (eP n n (ED n a b c)) n)=bo n (ED n a b c)from kG fun i k hi hk=>cB hi hk]at k2
 refine bP [3] Tryz.func274 ?_
 intro W0 w0 ρ0 hE
 conv=>whnf
 (repeat((first|refine aS (by assumption) ?_|refine ak Q6 ?_|refine ak Q9 ?_|refine ak uf ?_);conv=>whnf));exact Q5
abbrev MA (n:Nat) (a b:List Int):List Int:=(dW n).map fun x=>bo n (ED n a b x.toNat)
theorem xl {n B:Nat} {a b:List Int} (ha:gu n n a) (za:Zm B a) (hl:b.length=n) (zb:Zm B b) (hB:2≤B) (hB2:B≤536870912) (hn:n≤40) (hb:2*(B*4^n)≤1073741824):
  ab Tryz.prog 173 [wA n n a,gO b] [] (if bo n (bl a n)=0 then .ct [.int 0,gO [],iv 6]else .ct [.int (bo n (bl a n)),gO (MA n a b),iv 0]) [] []:=by
 have k0:=oj n n a (by have:=ha.n;have:n*n≤40*40:=Nat.mul_le_mul hn hn;omega) (fun i hi=>Nat.le_trans (za i hi) hB2)
 rw[dB ha.r ha.c ha.n,if_pos rfl,if_pos rfl]at k0
 have k1:=CJ ha hB za hn hb
 have t1:((b.length:Int) != (n:Int))=false:=by rw[hl];exact bne_self_eq_false _
 by_cases h0:bo n (bl a n)=0
 ·rw[if_pos h0]
  rw[h0]at k1
  have k2:=jt 0
  refine gX [2,3] Tryz.func173 ?_
  intro w0 ρ0 hE
  conv=>whnf
  (repeat((first|refine ag rfl rfl ?_|refine af rfl rfl ?_|refine aS (by assumption) ?_|rw[bne_self_eq_false]|refine aM t1 ?_|refine ak cO ?_|refine ak Q6 ?_|refine ak Q9 ?_);conv=>whnf));exact Q23
 ·rw[if_neg h0]
  have k2:=jt (bo n (bl a n))
  have t2:((bo n (bl a n)).sign==0)=false:=beq_eq_false_iff_ne.2 fun e=>h0 (Int.sign_eq_zero_iff_zero.1 e)
  have k3:=(vd n [] aa (by simp)).wk (args:=[iv n,.val (.slice none 0 0)]) Q28
  rw[show rm n []=dW n from List.append_nil _]at k3
  have k4:=OD (fun x=>bo n (ED n a b x.toNat)) 274 (eS (wC n n a)) (eS [gO b]) (dW n) (by rw[bF];omega) (fun i hi=>by
   rw[bF]at hi
   rw[ib hi]
   exact acI ha za hl zb hB hn hb i)
  refine bP [2,3] Tryz.func173 ?_
  intro W0 w0 ρ0 hE
  conv=>whnf
  (repeat((first|refine af rfl rfl ?_|refine aS (by assumption) ?_|rw[bne_self_eq_false]|refine aM t1 ?_|refine aM t2 ?_|refine ak cO ?_|refine ak Q6 ?_|refine ak Q9 ?_|refine ak uf ?_);conv=>whnf));exact Q5
def F6 (r c:Int) (n:Nat):Int:=if cc r c n=0 then(if r=c then 0 else 1)else cc r c n
theorem su (r c:Int) (l:List Int) (hl:l.length<1099511627776) (h:∀i,i<l.length→zs (l.getD i 0)≤536870912):ab Tryz.prog 260 [wA r c l] [] (iv (F6 r c l.length)) [] []:=oj r c l hl h
theorem K3 (r c:Int) (l:List Int) (hl:l.length<1099511627776) (h:∀i,i<l.length→zs (l.getD i 0)≤536870912) (he:F6 r c l.length≠0):ab Tryz.prog 160 [wA r c l] [] (.ct [.int 0,iv (F6 r c l.length)]) [] []:=by
 have k1:=su r c l hl h
 have t1:(F6 r c l.length != 0)=true:=bne_iff_ne.2 he
 refine gX [] Tryz.func160 ?_
 intro w0 ρ0 hE
 conv=>whnf
 (repeat(first|(refine aS (by assumption) ?_;conv=>whnf)|(refine aE t1 ?_;conv=>whnf)));exact Q5
theorem uv (r c:Int) (l:List Int) (hl:l.length<1099511627776) (h:∀i,i<l.length→zs (l.getD i 0)≤536870912) (he:F6 r c l.length≠0):ab Tryz.prog 159 [wA r c l] [] (.ct [wA 0 0 [],iv (F6 r c l.length)]) [] []:=by
 have k1:=su r c l hl h
 have t1:(F6 r c l.length != 0)=true:=bne_iff_ne.2 he
 refine gX [] Tryz.func159 ?_
 intro w0 ρ0 hE
 conv=>whnf
 (repeat(first|(refine aS (by assumption) ?_;conv=>whnf)|(refine aE t1 ?_;conv=>whnf)));exact X8
theorem yY (r c:Int) (l:List Int) (hl:l.length<1099511627776) (h:∀i,i<l.length→zs (l.getD i 0)≤536870912) (b:List Int) (he:F6 r c l.length≠0):ab Tryz.prog 173 [wA r c l,gO b] [] (.ct [.int 0,gO [],iv (F6 r c l.length)]) [] []:=by
 have k1:=su r c l hl h
 have t1:(F6 r c l.length != 0)=true:=bne_iff_ne.2 he
 refine gX [] Tryz.func173 ?_
 intro w0 ρ0 hE
 conv=>whnf
 (repeat(first|(refine aS (by assumption) ?_;conv=>whnf)|(refine aE t1 ?_;conv=>whnf)));exact Q23
theorem K4 (r c:Int) (l:List Int) (hl:l.length<1099511627776) (h:∀i,i<l.length→zs (l.getD i 0)≤536870912) (he:cc r c l.length≠0):ab Tryz.prog 180 [wA r c l] [] (.ct [.int 0,iv (cc r c l.length)]) [] []:=by
 have k1:=iP r c l hl h
 have t1:(cc r c l.length != 0)=true:=bne_iff_ne.2 he
 refine gX [] Tryz.func180 ?_
 intro w0 ρ0 hE
 conv=>whnf
 (repeat(first|(refine aS (by assumption) ?_;conv=>whnf)|(refine aE t1 ?_;conv=>whnf)));exact Q5
theorem K6 (r c:Int) (l:List Int) (hl:l.length<1099511627776) (h:∀i,i<l.length→zs (l.getD i 0)≤536870912) (s:Int) (he:cc r c l.length≠0):ab Tryz.prog 157 [wA r c l,iv s] [] (.ct [wA 0 0 [],iv (cc r c l.length)]) [] []:=by
 have k1:=iP r c l hl h
 have t1:(cc r c l.length != 0)=true:=bne_iff_ne.2 he
 refine gX [] Tryz.func157 ?_
 intro w0 ρ0 hE
 conv=>whnf
 (repeat(first|(refine aS (by assumption) ?_;conv=>whnf)|(refine aE t1 ?_;conv=>whnf)));exact X8
theorem K7 (r c:Int) (a:List Rat) (ha:a.length<1099511627776) (h:cc r c a.length≠0):ab Tryz.prog 175 [mA r c a] [] (.ct [wA 0 0 [],Hv [],iv (cc r c a.length)]) [] []:=by
 have k1:=oO r c a ha
 have t1:(cc r c a.length != 0)=true:=bne_iff_ne.2 h
 refine gX [] Tryz.func175 ?_
 intro w0 ρ0 hE
 conv=>whnf
 (repeat(first|(refine aS (by assumption) ?_;conv=>whnf)|(refine aE t1 ?_;conv=>whnf)));exact X8
theorem CL {r c:Nat} {s:Int} {a:List Int} (ha:gu r c a) (za:∀i,i<a.length→zs (a.getD i 0)≤536870912) (hs:s<0∨(r:Int)<s∨(c:Int)<s):
  ab Tryz.prog 157 [wA r c a,iv s] [] (.ct [wA 0 0 [],iv 1]) [] []:=by
 have k0:=iP r c a (by have:=ha.n;have:r*c≤2048*2048:=Nat.mul_le_mul ha.r ha.c;omega) za
 rw[dB ha.r ha.c ha.n]at k0
 by_cases h1:s<0
 ·have t1:decide (s<0)=true:=decide_eq_true h1
  refine gX [] Tryz.func157 ?_
  intro w0 ρ0 hE
  conv=>whnf
  (repeat((first|refine ag rfl rfl ?_|refine af rfl rfl ?_|refine aS (by assumption) ?_|refine ak jJ ?_|rw[bne_self_eq_false]|rw[t1]);conv=>whnf));exact X8
 ·have t1:decide (s<0)=false:=decide_eq_false h1
  have t2:decide (s>if (c:Int)<(r:Int)then(c:Int)else(r:Int))=true:=decide_eq_true (by split<;>omega)
  refine gX [] Tryz.func157 ?_
  intro w0 ρ0 hE
  conv=>whnf
  (repeat((first|refine ag rfl rfl ?_|refine af rfl rfl ?_|refine aS (by assumption) ?_|refine ak jo ?_|rw[bne_self_eq_false]|refine aE t2 ?_|rw[t1]);conv=>whnf));exact X8
theorem Hw {n:Nat} {a b:List Int} (ha:gu n n a) (za:∀i,i<a.length→zs (a.getD i 0)≤536870912) (hl:b.length≠n):
  ab Tryz.prog 173 [wA n n a,gO b] [] (.ct [.int 0,gO [],iv 1]) [] []:=by
 have k0:=oj n n a (by have:=ha.n;have:n*n≤2048*2048:=Nat.mul_le_mul ha.r ha.c;omega) za
 rw[dB ha.r ha.c ha.n,if_pos rfl,if_pos rfl]at k0
 have t1:((b.length:Int) != (n:Int))=true:=bne_iff_ne.2 aa
 refine gX [] Tryz.func173 ?_
 intro w0 ρ0 hE
 conv=>whnf
 (repeat((first|refine af rfl rfl ?_|refine aS (by assumption) ?_|rw[bne_self_eq_false]|refine aE t1 ?_|refine ak cO ?_);conv=>whnf));exact Q23
theorem et:Tryz.prog.eqGuardType Tryz.prog.depth 50=false:=aB
theorem fN (a b:Int):pn vP dP 10 50 (cC a) (cC b)=some (decide (a=b)):=by
 have e:pn vP dP 10 50 (cC a) (cC b)=some (((((low a.natAbs==low b.natAbs)&&(((nu a.natAbs).toList==(nu b.natAbs).toList)&&true))&&true)&&((decide (a<0)==decide (b<0))&&true))):=rfl
 rw[e]
 simp only[Bool.and_true]
 rw[iE]
 congr 1
 rw[Bool.eq_iff_iff]
 simp only[Bool.and_eq_true,decide_eq_true_eq,beq_iff_eq,decide_eq_decide]
 constructor
 ·rintro⟨h3,h4⟩
  omega
 ·rintro rfl;exact⟨rfl,Iff.rfl⟩
theorem rq:Tryz.prog.eqGuardType Tryz.prog.depth 46=false:=aB
theorem vg (a b:Nat):pn vP dP 10 46 (bB a) (bB b)=some (decide (a=b)):=by
 have e:pn vP dP 10 46 (bB a) (bB b)=some (((low a==low b)&&(((nu a).toList==(nu b).toList)&&true))):=rfl
 rw[e]
 simp only[Bool.and_true]
 rw[iE]
abbrev Y9:List Int:=[2,0,1,1,3,2,1,1,4]
abbrev Y4:List Int:=[1,2,3,4]
abbrev Q4:List Rat:=[1/2,1/3,1,2]
theorem fO:ab Tryz.prog 49 [] [] (.val (.bool true)) [] []:=by
 have hW:gu 3 3 Y9:=⟨aF,aF,rfl⟩
 have zW:Zm 20 Y9:=by unfold Zm;decide+kernel
 have h4:gu 2 2 Y4:=⟨aF,aF,rfl⟩
 have z4:Zm 20 Y4:=by unfold Zm;decide+kernel
 have o1:=acF (r:=3) (c:=3) (l:=Y9) aF aF rfl aF
 have o2:=oU (s:=1) hW zW aF aF aF aF aF
 have o3:=oU (s:=2) hW zW aF aF aF aF aF
 have o4:=rn hW zW aF aF aF aF
 have o5:=xl hW zW (b:=[3,6,6]) rfl (by unfold Zm;decide+kernel) aF aF aF aF
 have e0:bo 3 (bl Y9 3)=18:=by decide+kernel
 rw[e0]at o4
 rw[e0,if_neg aF,show MA 3 Y9 [3,6,6]=[18,18,18]from by decide+kernel]at o5
 rw[show stM 3 3 1 Y9=[6,3,2,7]from by decide+kernel]at o2
 rw[show stM 3 3 2 Y9=[18]from by decide+kernel]at o3
 replace o2:ab Tryz.prog 157 [wA 3 3 Y9,iv 1] [] (.ct [wA 2 2 [6,3,2,7],iv 0]) [] []:=o2
 replace o3:ab Tryz.prog 157 [wA 3 3 Y9,iv 2] [] (.ct [wA 1 1 [18],iv 0]) [] []:=o3
 have t1:=sn 2 2 [6,3,2,7] aF (by decide+kernel) (w8 (r:=2) (c:=2) (B:=20) (a:=aG [6,3,2,7]) ⟨aF,aF,rfl⟩ (by unfold Sm;decide+kernel) aF)
 have t2:=sn 1 1 [18] aF (by decide+kernel) (w8 (r:=1) (c:=1) (B:=20) (a:=aG [18]) ⟨aF,aF,rfl⟩ (by unfold Sm;decide+kernel) aF)
 have i3:=l7 3 aF aF
 have i6:=l7 6 aF aF
 have i18:=l7 18 aF aF
 have i21:=l7 21 aF aF
 have o6:=acF (r:=2) (c:=2) (l:=Y4) aF aF rfl aF
 have o7:=ng h4 z4 aF aF aF aF
 rw[show eP 2 2 (po 2 (bl Y4 2))=[4, -2, -3,1]from by decide+kernel]at o7
 have t3:=sn 2 2 [4, -2, -3,1] aF (by decide+kernel) (w8 (r:=2) (c:=2) (B:=20) (a:=aG [4, -2, -3,1]) ⟨aF,aF,rfl⟩ (by unfold Sm;decide+kernel) aF)
 have o8:=ve h4 z4 aF aF
 rw[show pZ ((dW 2).map fun x=>jl Y4 2 x.toNat)=21 from by decide+kernel]at o8
 have f1:=Jn er 1 2 (by decide+kernel) aF aF aF aF aF
 have f2:=Jn er 1 3 (by decide+kernel) aF aF aF aF aF
 have f3:=ju 1 aF aF
 have f4:=ju 2 aF aF
 have o9:=oV (r:=2) (c:=2) (B:=20) (a:=Q4) ⟨aF,aF,rfl⟩ (by unfold Sm;decide+kernel) aF aF
 rw[show xk 2 2 Q4=[3,2,1,2]from by decide+kernel,show xG 2 2 Q4=[6,1]from by decide+kernel]at o9
 have t4:=sn 2 2 [3,2,1,2] aF (by decide+kernel) (w8 (r:=2) (c:=2) (B:=20) (a:=aG [3,2,1,2]) ⟨aF,aF,rfl⟩ (by unfold Sm;decide+kernel) aF)
 have n6:=nY 6 aF
 have n1:=nY 1 aF
 have q1:(!(tM 2 2 (aG [6,3,2,7])).toList==(ByteArray.mk #[91,54,32,51,93,32,91,50,32,55,93]).toList)=false:=by decide+kernel
 have q2:(!(tM 1 1 (aG [18])).toList==(ByteArray.mk #[91,49,56,93]).toList)=false:=by decide+kernel
 have q3:((tM 2 2 (aG [4, -2, -3,1])).toList==(ByteArray.mk #[91,52,32,45,50,93,32,91,45,51,32,49,93]).toList)=true:=by decide+kernel
 have q4:((tM 2 2 (aG [3,2,1,2])).toList==(ByteArray.mk #[91,51,32,50,93,32,91,49,32,50,93]).toList)=true:=by decide+kernel
 refine bP [26,50,120,147] Tryz.func49 ?_
 intro W0 w0 ρ0 hE
 conv=>whnf
 (repeat((first|refine ag rfl rfl ?_|refine af rfl rfl ?_|refine aw aB ?_|refine aS (by assumption) ?_|refine ak jJ ?_|refine ak jo ?_|rw[beq_self_eq_true]|rw[bne_self_eq_false]|refine aE q3 ?_|refine aE q4 ?_|refine ak cO ?_|refine ak Q6 ?_|refine ak (ye rfl (aj rfl) (aj rfl) (jf rfl) rfl (jf rfl) rfl aa (by first|decide|(simp;done)|omega) rfl) ?_|refine⟨_,eJ aL df rfl (aj rfl) (aj rfl) rfl rfl rfl rfl (fN _ _) et, ?_⟩|refine⟨_,dK aL df rfl (aj rfl) (aj rfl) rfl rfl rfl rfl (fN _ _) et, ?_⟩|refine⟨_,eJ aL df rfl (aj rfl) (aj rfl) rfl rfl rfl rfl (vg _ _) rq, ?_⟩|rw[q1]|rw[q2]|rw[q3]|rw[q4]);conv=>whnf))
 exact fun _ _ h=>h
abbrev WW:=Int×Int×List Int
abbrev wQ:WW→SV:=ag3 (fV .u8) (fV .u8) (cF .i64)
abbrev CM:WW:=(0,0,[])
def K8 (m:WW):Prop:=(0≤m.1∧m.1<256)∧(0≤m.2.1∧m.2.1<256)∧m.2.2.length≤maxLen∧∀x∈m.2.2, -9223372036854775808≤x∧x<9223372036854775808
def om (l:List Int) (n:Nat):List Int:=(List.range n).map fun p=>l.getD p 0
theorem rr (l:List Int) (n:Nat):(om l n).length=n:=by simp[om]
theorem AU {l:List Int} {n p:Nat} (h:p<n):(om l n).getD p 0=l.getD p 0:=by simp[om,List.getD_eq_getElem?_getD,h]
theorem EE {l:List Int} (h:∀x∈l, -9223372036854775808≤x∧x<9223372036854775808) (p:Nat): -9223372036854775808≤l.getD p 0∧l.getD p 0<9223372036854775808:=by
 by_cases hp:p<l.length
 ·exact h _ (fv hp)
 ·rw[List.getD_eq_getElem?_getD,List.getElem?_eq_none aa];exact⟨aF,aF⟩
theorem ni {l:List Int} (h:∀x∈l, -9223372036854775808≤x∧x<9223372036854775808) (n:Nat):Zm 65 (om l n):=by
 intro p hp
 rw[rr]at hp
 rw[AU hp];obtain⟨a,b⟩:=EE h p;exact KI a b
theorem jO (l:List Int) {r c:Nat} (hr:r≤2048) (hc:c≤2048):gu r c (om l (r*c)):=⟨hr,hc,rr ..⟩
theorem xm (ms:List WW) (h:ms.length<1000) (hl:∀m∈ms,m.2.2.length≤maxLen):ab Tryz.prog 155 [cT 3 wQ ms] [] (.val (.bool (ms.all fun m=>decide (m.2.2.length≤40)))) [] []:=by
 refine bP [] Tryz.func155 ?_
 intro W0 w0 ρ0 hE
 conv=>whnf
 skip
 refine ai hE (fun k=>k) [0,3] [] (fun m fr hp=>∃i:Nat,m=ms.length - i∧i≤ms.length∧(∀j,j<i→decide ((ms.getD j CM).2.2.length≤40)=true)∧fr=[(0,cT 3 wQ ms),(3,iv (i:Nat))]∧hp=[]) ms.length ?_ ?_ ?_
 ·kernel_rfl
 ·exact⟨0,rfl,Nat.zero_le _,(fun j hj=>aa),rfl,rfl⟩
 rintro m _ _ ⟨i,rfl,hi,hs,rfl,rfl⟩
 conv=>whnf
 by_cases aA:i<ms.length
 ·have t1:=dX aA
  have t2:=bA (i:=i) aa
  by_cases hL:(ms.getD i CM).2.2.length≤40
  ·have t3:decide (((ms.getD i CM).2.2.length:Int)>40)=false:=decide_eq_false aa
   (repeat((first|refine aE t1 ?_|refine aM t3 ?_|refine ak cO ?_|refine ak Q6 ?_|refine ak Q9 ?_|refine ak (fJ (α:=WW) (d:=CM) rfl (aj rfl) (aj rfl) (jf rfl) rfl (jf rfl) rfl aa) ?_|rw[t1]|rw[t3]|rw[t2]);conv=>whnf))
   refine⟨ms.length - (i+1),fun k=>k,[0,3],[],aa,aB,i+1,rfl,aA, ?_,rfl,rfl⟩
   intro j hj
   by_cases hji:j=i
   ·rw[hji];exact decide_eq_true hL
   ·exact hs j aa
  ·have t3:decide (((ms.getD i CM).2.2.length:Int)>40)=true:=decide_eq_true aa
   have e:(ms.all fun m=>decide (m.2.2.length≤40))=false:=Sd (d:=CM) aA (decide_eq_false hL)
   rw[e]
   (repeat((first|refine aE t1 ?_|refine aE t3 ?_|refine ak cO ?_|refine ak Q6 ?_|refine ak Q9 ?_|refine ak (fJ (α:=WW) (d:=CM) rfl (aj rfl) (aj rfl) (jf rfl) rfl (jf rfl) rfl aa) ?_);conv=>whnf));exact Q5
 ·have t1:=ez aA
  obtain rfl:i=ms.length:=aa
  have e:(ms.all fun m=>decide (m.2.2.length≤40))=true:=Sc CM hs
  rw[e]
  (repeat(first|(refine aM t1 ?_;conv=>whnf)|(refine ak cO ?_;conv=>whnf)));exact Q5
theorem CN (m:WW) (h:K8 m):ab Tryz.prog 156 [wQ m] [] (.ct [iv ((m.1 % 6).toNat:Nat),iv ((m.2.1 % 6).toNat:Nat)]) [] []:=by
 obtain⟨h1,h2,_⟩:=h
 have e1:IntKind.i64.wrap (m.1.tmod 6)=((m.1 % 6).toNat:Nat):=by rw[Int.tmod_eq_emod_of_nonneg h1.1,wrap_i64 aa aa];omega
 have e2:IntKind.i64.wrap (m.2.1.tmod 6)=((m.2.1 % 6).toNat:Nat):=by rw[Int.tmod_eq_emod_of_nonneg h2.1,wrap_i64 aa aa];omega
 have e3:IntKind.u8.wrap (m.1.tmod 6)=m.1.tmod 6:=by rw[Int.tmod_eq_emod_of_nonneg h1.1,wrap_u8 aa aa]
 have e4:IntKind.u8.wrap (m.2.1.tmod 6)=m.2.1.tmod 6:=by rw[Int.tmod_eq_emod_of_nonneg h2.1,wrap_u8 aa aa]
 refine bP [] Tryz.func156 ?_
 intro W0 w0 ρ0 hE
 conv=>whnf
 (repeat((first|refine aw aB ?_|refine bN Q3 ?_|rw[e1]|rw[e2]);conv=>whnf));exact Q5
theorem ru (m:WW) (hm:K8 m) {r c:Nat} (hr:r≤100) (hc:c≤100):ab Tryz.prog 158 [wQ m,iv r,iv c] [] (wA r c (om m.2.2 (r*c))) [] []:=by
 obtain⟨A,B,l⟩:=m
 obtain⟨_,_,hl,hq⟩:=hm
 replace hl:l.length≤maxLen:=hl
 have hz:=rr l (r*c)
 have iz:((om l (r*c)).map SV.int).length=r*c:=by rw[List.length_map,hz]
 have hN:r*c≤100*100:=Nat.mul_le_mul hr hc
 have t0:IntKind.i64.wrap ((r:Int)*(c:Int))=((r*c:Nat):Int):=by rw[←Int.natCast_mul,wrap_i64 aa aa]
 generalize r*c=N at*
 refine gX [3] Tryz.func158 ?_
 intro w0 ρ0 hE
 conv=>whnf
 skip
 refine pT (j:=7) (k:=2001) (s:=3) (p:=2) (blk:=Ho []) rfl rfl rfl rfl rfl ?_
 refine dd hE (fun k=>k) [1,2,3,6,7,8] [6,7,2001] (fun m fr hp=>∃i:Nat,m=N - i∧i≤N∧fr=[(1,iv r),(2,iv c),(3,bG [fV .u8 A,fV .u8 B,cF .i64 l]),(6,.ptr 6 0 0 0),(7,.ptr 7 0 0 0),(8,iv (i:Nat))]∧
  hp=[(6,zW),(7,⟨207,true,.one [iv r,iv c,.aN 2001 3 0 i]⟩),(2001,⟨50,true,.seq 3 (((om l N).map SV.int).take i)⟩)]) N ?_ ?_ ?_
 ·kernel_rfl
 ·exact⟨0,rfl,Nat.zero_le _,rfl,rfl⟩
 rintro m _ _ ⟨i,rfl,hi,rfl,rfl⟩
 have Hg:(((om l N).map SV.int).take i).length=i:=by rw[List.length_take];omega
 by_cases aA:i<N
 ·have t1:=dX aA
  have t2:=bA (i:=i) aa
  obtain⟨b1,b2⟩:=EE hq i
  have o1:=l7 (l.getD i 0) b1 b2
  have e1:=FL (d:=SV.int 0) (show i<((om l N).map SV.int).length by omega)
  rw[dV (d:=0) aa,AU aA]at e1
  refine ey.of hE ?_
  conv=>whnf
  by_cases yQ:i<l.length
  ·have t3:=dX yQ
   (repeat((first|refine aw aB ?_|refine ay Q3 ?_|refine aS (by assumption) ?_|refine aE t1 ?_|refine aE t3 ?_|refine ak cO ?_|refine ak Q6 ?_|refine ak nA ?_|refine ak Q9 ?_|rw[t0]|rw[t1]|rw[t3]|rw[t2]|rw[Nat.zero_add]);conv=>whnf))
   refine⟨N - (i+1),cx [(35,2001)],[1,2,3,6,7,8],[6,7,35],aa,aB,i+1,rfl,aA,rfl, ?_⟩
   rw[e1];rfl
  ·have t3:=ez yQ
   have e2:l.getD i 0=0:=by rw[List.getD_eq_getElem?_getD,List.getElem?_eq_none aa];rfl
   rw[e2]at o1 e1
   (repeat((first|refine aw aB ?_|refine ay Q3 ?_|refine aS (by assumption) ?_|refine aE t1 ?_|refine aM t3 ?_|refine ak cO ?_|refine ak Q6 ?_|refine ak Q9 ?_|rw[t0]|rw[t1]|rw[t3]|rw[t2]|rw[Nat.zero_add]);conv=>whnf))
   refine⟨N - (i+1),cx [(35,2001)],[1,2,3,6,7,8],[6,7,35],aa,aB,i+1,rfl,aA,rfl, ?_⟩
   rw[e1];rfl
 ·have t1:=ez aA
  obtain rfl:i=N:=aa
  rw[List.take_of_length_le aa]
  refine ey.of hE ?_
  conv=>whnf
  (repeat(first|(refine aM t1 ?_;conv=>whnf)|(rw[t0];conv=>whnf)))
  exact Q18
abbrev MB (m:WW):Prop:=((Lit.int .u8 m.1).wf=true)∧((Lit.int .u8 m.2.1).wf=true)∧(m.2.2.length≤maxLen∧∀x∈m.2.2,(Lit.int .i64 x).wf=true)
theorem pW {m:WW} (w:MB m):K8 m:=⟨wf_u8 w.1,wf_u8 w.2.1,w.2.2.1,fun x h=>wf_i64 (w.2.2.2 x h)⟩
theorem K9 (m:WW) (hm:K8 m) {r c:Nat} (hr:r≤12) (hc:c≤12):ab Tryz.prog 163 [wQ m,iv r,iv c] [] (cT 1 nB (aP r c (aG (om m.2.2 (r*c))))) [] []:=by
 obtain⟨A,B,l⟩:=m
 obtain⟨_,_,hl,hq⟩:=hm
 replace hl:l.length≤maxLen:=hl
 have hz:(aG (om l (r*c))).length=r*c:=by rw[aG,List.length_map,rr]
 have lz:=di r c (aG (om l (r*c)))
 have lz2:((aP r c (aG (om l (r*c)))).map nB).length=r:=by rw[List.length_map,lz]
 refine gX [3] Tryz.func163 ?_
 intro w0 ρ0 hE
 conv=>whnf
 skip
 refine bR (t:=7) (k:=2001) (s:=1) (blk:=rh []) rfl rfl rfl ?_
 refine dd hE (fun k=>k) [1,2,3,6,7,8] [2001] (fun m fr hp=>∃i:Nat,m=r - i∧i≤r∧fr=[(1,iv r),(2,iv c),(3,bG [fV .u8 A,fV .u8 B,cF .i64 l]),(6,.val (.slice none 0 0)),(7,.aN 2001 1 0 i),(8,iv (i:Nat))]∧
  hp=[(2001,rh ((aP r c (aG (om l (r*c)))).take i))]) (r) ?_ ?_ ?_
 ·kernel_rfl
 ·exact⟨0,rfl,Nat.zero_le _,rfl,rfl⟩
 rintro m _ _ ⟨i,rfl,hi,rfl,rfl⟩
 have Hg:(((aP r c (aG (om l (r*c)))).take i).map nB).length=i:=by rw[List.length_map,List.length_take];omega
 by_cases aA:i<r
 ·have t1:=dX aA
  have t2:=bA (i:=i) aa
  have An:=cE (c:=c) aA hz
  have EF:=An
  rw[List.length_take]at EF
  have e3:=oR (l:=aP r c (aG (om l (r*c)))) (i:=i) aa
  rw[gJ aA]at e3
  refine ey.of hE ?_
  conv=>whnf
  (repeat(first|(refine aE t1 ?_;conv=>whnf)|(rw[t1];conv=>whnf)))
  refine bR (t:=9) (k:=2002) (s:=3) (blk:=pF []) rfl rfl rfl ?_
  refine dd hE (fun k=>k) [1,2,3,6,7,8,9,10] [2001,2002] (fun m fr hp=>∃k:Nat,m=c - k∧k≤c∧fr=[(1,iv r),(2,iv c),(3,bG [fV .u8 A,fV .u8 B,cF .i64 l]),(6,.val (.slice none 0 0)),(7,.aN 2001 1 0 i),(8,iv (i:Nat)),(9,.aN 2002 3 0 k),(10,iv (k:Nat))]∧
   hp=[(2001,rh ((aP r c (aG (om l (r*c)))).take i)),(2002,pF ((cj (aG (om l (r*c))) (c) i).take k))]) (c) ?_ ?_ ?_
  ·kernel_rfl
  ·exact⟨0,rfl,Nat.zero_le _,rfl,rfl⟩
  rintro m _ _ ⟨k,rfl,hk,rfl,rfl⟩
  have Zd:(((cj (aG (om l (r*c))) (c) i).take k).map fF).length=k:=by rw[List.length_map,List.length_take];omega
  by_cases hlk:k<c
  ·have t4:=dX hlk
   have t5:=bA (i:=k) aa
   have e4:=iO (z:=cj (aG (om l (r*c))) (c) i) (i:=k) aa
   rw[eK hlk]at e4
   obtain⟨w1,w2⟩:=kJ (i:=i) (k:=k) (c:=c) aa aa aa
   obtain⟨b1,b2⟩:=EE hq (i*c+k)
   have o1:=Es (l.getD (i*c+k) 0) b1 b2
   have hx:=dN aA hlk
   have e6:el (aG (om l (r*c))) c i k=((l.getD (i*c+k) 0:Int):Rat):=by rw[el,aG,dV (d:=0) (by rw[rr];exact hx),AU hx]
   rw[e6]at e4
   refine ey.of hE ?_
   conv=>whnf
   by_cases yQ:i*c+k<l.length
   ·have t3:=dX yQ
    (repeat((first|refine ay Q3 ?_|refine aS (by assumption) ?_|refine aE t4 ?_|refine aE t3 ?_|refine ak cO ?_|refine ak Q6 ?_|refine ak Nk ?_|refine ak Q9 ?_|rw[w1]|rw[w2]|rw[t4]|rw[t3]|rw[t5]|rw[Int.toNat_natCast]);conv=>whnf))
    refine⟨c - (k+1),cx [(44,2002)],[1,2,3,6,7,8,9,10],[2001,44],aa,aB,k+1,rfl,hlk,rfl, ?_⟩
    rw[e4];rfl
   ·have t3:=ez yQ
    have e5:l.getD (i*c+k) 0=0:=by rw[List.getD_eq_getElem?_getD,List.getElem?_eq_none aa];rfl
    rw[e5]at o1 e4
    (repeat((first|refine ay Q3 ?_|refine aS (by assumption) ?_|refine aE t4 ?_|refine aM t3 ?_|refine ak cO ?_|refine ak Q6 ?_|refine ak Q9 ?_|rw[w1]|rw[w2]|rw[t4]|rw[t3]|rw[t5]);conv=>whnf))
    refine⟨c - (k+1),cx [(44,2002)],[1,2,3,6,7,8,9,10],[2001,44],aa,aB,k+1,rfl,hlk,rfl, ?_⟩
    rw[e4];rfl
  ·have t4:=ez hlk
   obtain rfl:k=c:=aa
   rw[List.take_of_length_le (l:=cj (aG (om l (r*k))) k i) aa]
   refine eB 9 2002 (fun _ h=>h) (fun _=>rfl) rfl rfl An.symm ?_
   refine ey.of hE ?_
   conv=>whnf
   (repeat((first|refine ay Q3 ?_|refine aM t4 ?_|rw[t4]|rw[t2]);conv=>whnf))
   refine⟨r - (i+1),cx [(48,2001)],[1,2,3,6,7,8],[48],aa,aB,i+1,rfl,aA,rfl, ?_⟩
   rw[e3];rfl
 ·have t1:=ez aA
  obtain rfl:i=r:=aa
  rw[List.take_of_length_le aa]
  refine ey.of hE ?_
  conv=>whnf
  (repeat(first|(refine aM t1 ?_;conv=>whnf)))
  exact X7
theorem AV {r c B:Nat} {a:List Rat} (ha:a.length=r*c) (sa:Sm B a) (hB:B≤1000) {p q:List Int} (hp:∀i,i<p.length→0≤p.getD i 0∧p.getD i 0<r) (hq:∀i,i<q.length→0≤q.getD i 0∧q.getD i 0<c) (hl:p.length≤5) (iM:q.length=p.length):
  ab Tryz.prog 166 [cT 1 nB (aP r c a),cF .i64 p,cF .i64 q] [] (fF (bH p.length fun i k=>el a c (p.getD i 0).toNat (q.getD k 0).toNat)) [] []:=by
 have hz:=dx p.length q.length fun i k=>el a c (p.getD i 0).toNat (q.getD k 0).toNat
 have kd:ab Tryz.prog 119 [cT 1 nB (aP p.length q.length (mk p.length q.length fun i k=>el a c (p.getD i 0).toNat (q.getD k 0).toNat))] [] (fF (bH p.length fun i k=>el a c (p.getD i 0).toNat (q.getD k 0).toNat)) [] []:=by
  rw[iM]
  have:=acC (n:=p.length) (B:=B) (a:=mk p.length p.length fun i k=>el a c (p.getD i 0).toNat (q.getD k 0).toNat) (dx ..) (wL fun i k hi hk=>mb sa ha (by have:=hp i hi;omega) (by have:=hq k aa;omega)) hl (Nat.le_trans hB aF)
  rwa [aO (n:=p.length) (A:=el (mk p.length p.length fun i k=>el a c (p.getD i 0).toNat (q.getD k 0).toNat) p.length) (B:=fun i k=>el a c (p.getD i 0).toNat (q.getD k 0).toNat) fun i k hi hk=>fy hi hk]at this
 have lra:=di r c a
 generalize hX:(mk p.length q.length fun i k=>el a c (p.getD i 0).toNat (q.getD k 0).toNat)=X at*
 have lz:=di p.length q.length X
 have lz2:((aP p.length q.length X).map nB).length=p.length:=by rw[List.length_map,lz]
 refine gX [] Tryz.func166 ?_
 intro w0 ρ0 hE
 conv=>whnf
 skip
 refine bR (t:=7) (k:=2001) (s:=1) (blk:=rh []) rfl rfl rfl ?_
 refine dd hE (fun k=>k) [0,1,2,6,7,8] [6,2001] (fun m fr hp=>∃i:Nat,m=p.length - i∧i≤p.length∧fr=[(0,cT 1 nB (aP r c a)),(1,cF .i64 p),(2,cF .i64 q),(6,.ptr 6 0 0 0),(7,.aN 2001 1 0 i),(8,iv (i:Nat))]∧
  hp=[(6,yW),(2001,rh ((aP p.length q.length X).take i))]) (p.length) ?_ ?_ ?_
 ·kernel_rfl
 ·exact⟨0,rfl,Nat.zero_le _,rfl,rfl⟩
 rintro m _ _ ⟨i,rfl,hi,rfl,rfl⟩
 have Hg:(((aP p.length q.length X).take i).map nB).length=i:=by rw[List.length_map,List.length_take];omega
 by_cases aA:i<p.length
 ·have t1:=dX aA
  have t2:=bA (i:=i) aa
  have An:=cE (c:=q.length) aA hz
  have EF:=An
  rw[List.length_take]at EF
  have e3:=oR (l:=aP p.length q.length X) (i:=i) aa
  rw[gJ aA]at e3
  refine ey.of hE ?_
  conv=>whnf
  (repeat(first|(refine aE t1 ?_;conv=>whnf)|(refine ak cO ?_;conv=>whnf)|(rw[t1];conv=>whnf)))
  refine bR (t:=9) (k:=2002) (s:=3) (blk:=pF []) rfl rfl rfl ?_
  refine dd hE (fun k=>k) [0,1,2,6,7,8,9,10] [6,2001,2002] (fun m fr hp=>∃k:Nat,m=q.length - k∧k≤q.length∧fr=[(0,cT 1 nB (aP r c a)),(1,cF .i64 p),(2,cF .i64 q),(6,.ptr 6 0 0 0),(7,.aN 2001 1 0 i),(8,iv (i:Nat)),(9,.aN 2002 3 0 k),(10,iv (k:Nat))]∧
   hp=[(6,yW),(2001,rh ((aP p.length q.length X).take i)),(2002,pF ((cj X (q.length) i).take k))]) (q.length) ?_ ?_ ?_
  ·kernel_rfl
  ·exact⟨0,rfl,Nat.zero_le _,rfl,rfl⟩
  rintro m _ _ ⟨k,rfl,hk,rfl,rfl⟩
  have Zd:(((cj X (q.length) i).take k).map fF).length=k:=by rw[List.length_map,List.length_take];omega
  by_cases hlk:k<q.length
  ·have t4:=dX hlk
   have t5:=bA (i:=k) aa
   have e4:=iO (z:=cj X (q.length) i) (i:=k) aa
   rw[eK hlk]at e4
   obtain⟨p1,p2⟩:=hp i aA
   obtain⟨q1,q2⟩:=hq k hlk
   have p3:p.getD i 0<((aP r c a).length:Int):=by rw[lra];exact p2
   have eX:el X q.length i k=el a c (p.getD i 0).toNat (q.getD k 0).toNat:=by rw[←hX];exact fy aA hlk
   rw[eX]at e4
   have eg:=gJ (c:=c) (a:=a) (show(p.getD i 0).toNat<r by omega)
   have eh:(cj a c (p.getD i 0).toNat).getD (q.getD k 0).toNat 0=el a c (p.getD i 0).toNat (q.getD k 0).toNat:=eK aa
   have el1:(cj a c (p.getD i 0).toNat).length=c:=cE aa ha
   have el2:((aP r c a).getD (p.getD i 0).toNat []).length=c:=by rw[eg];exact el1
   have q3:q.getD k 0<(((aP r c a).getD (p.getD i 0).toNat []).length:Int):=by rw[el2];exact q2
   rw[←eg]at eh
   rw[←eh]at e4
   refine ey.of hE ?_
   conv=>whnf
   (repeat((first|refine aw aB ?_|refine ay Q3 ?_|refine aE t4 ?_|refine ak cO ?_|refine ak Q6 ?_|refine ak nA ?_|refine ak Q29 ?_|refine ak (oD (α:=List Rat) (d:=[]) rfl (aj rfl) (aj rfl) (jf rfl) rfl (jf rfl) rfl ⟨p1,p3⟩) ?_|rw[t4]|rw[t5]);conv=>whnf))
   refine⟨q.length - (k+1),cx [(38,2002)],[0,1,2,6,7,8,9,10],[6,2001,38],aa,aB,k+1,rfl,hlk,rfl, ?_⟩
   rw[e4];rfl
  ·have t4:=ez hlk
   have hkc:k=q.length:=aa
   subst hkc
   rw[List.take_of_length_le (l:=cj X (q.length) i) aa]
   refine eB 9 2002 (fun _ h=>h) (fun _=>rfl) rfl rfl An.symm ?_
   refine ey.of hE ?_
   conv=>whnf
   (repeat((first|refine ay Q3 ?_|refine aM t4 ?_|refine ak cO ?_|rw[t4]|rw[t2]);conv=>whnf))
   refine⟨p.length - (i+1),cx [(42,2001)],[0,1,2,6,7,8],[6,42],aa,aB,i+1,rfl,aA,rfl, ?_⟩
   rw[e3];rfl
 ·have t1:=ez aA
  have yN:i=p.length:=aa
  subst yN
  rw[List.take_of_length_le aa]
  refine eB 7 2001 (fun _ h=>h) (fun _=>rfl) rfl rfl lz.symm ?_
  refine ey.of hE ?_
  conv=>whnf
  (repeat(first|(refine aS (by assumption) ?_;conv=>whnf)|(refine aM t1 ?_;conv=>whnf)|(refine ak cO ?_;conv=>whnf)))
  exact Q5
def AW (j q:Nat):List Int:=(List.range q).map fun p:Nat=>((sk j p:Nat):Int)
theorem La (j q:Nat):(AW j q).length=q:=by simp[AW]
theorem Hx (j q:Nat):AW j (q+1)=AW j q++[((sk j q:Nat):Int)]:=by simp[AW,List.range_succ]
theorem Lb (n x:Nat) (hn:n≤2048):ab Tryz.prog 265 [iv n,iv (x:Nat)] [] (cF .i64 (rm n [(x:Int)])) [] []:=by
 refine gX [] Tryz.func265 ?_
 intro w0 ρ0 hE
 conv=>whnf
 skip
 refine bR (t:=5) (k:=2002) (s:=1) (blk:=dH []) rfl rfl rfl ?_
 refine ai hE (fun k=>k) [0,1,4,5,6] [2002] (fun m fr hp=>∃i:Nat,m=n - i∧i≤n∧fr=[(0,iv n),(1,iv (x:Nat)),(4,.val (.slice none 0 0)),(5,.aN 2002 1 0 i),(6,iv (i:Nat))]∧hp=[(2002,dH (dW i))]) n ?_ ?_ ?_
 ·kernel_rfl
 ·exact⟨0,rfl,Nat.zero_le _,rfl,rfl⟩
 rintro m _ _ ⟨i,rfl,hi,rfl,rfl⟩
 conv=>whnf
 have lq:=bF i
 by_cases aA:i<n
 ·have t1:=dX aA
  have t2:=bA (i:=i) aa
  have e1:=mZ (l:=dW i) (x:=(i:Int))
  rw[lq,←ml]at e1
  (repeat((first|refine ay Q3 ?_|refine aE t1 ?_|rw[t1]|rw[t2]);conv=>whnf))
  refine⟨n - (i+1),cx [(15,2002)],[0,1,4,5,6],[15],aa,aB,i+1,rfl,aA,rfl, ?_⟩
  rw[e1];rfl
 ·have t1:=ez aA
  obtain rfl:i=n:=aa
  have e1:=mZ (l:=dW i) (x:=(x:Int))
  rw[lq]at e1
  (repeat(first|(refine ay Q3 ?_;conv=>whnf)|(refine aM t1 ?_;conv=>whnf)))
  rw[←e1]
  exact ll.one rfl rfl (cW.ints rfl (by rw[List.length_append,lq];rfl))
theorem yZ (n j:Nat) (hn:n≤2048) (hj:j<n):ab Tryz.prog 266 [iv n,iv (j:Nat)] [] (cF .i64 (kO n j)) [] []:=by
 refine gX [] Tryz.func266 ?_
 intro w0 ρ0 hE
 conv=>whnf
 skip
 refine bR (t:=5) (k:=2002) (s:=1) (blk:=dH []) rfl rfl rfl ?_
 refine ai hE (fun k=>k) [0,1,4,5,6] [2002] (fun m fr hp=>∃i q:Nat,m=n - i∧i≤n∧q=(if i≤j then i else i - 1)∧fr=[(0,iv n),(1,iv (j:Nat)),(4,.val (.slice none 0 0)),(5,.aN 2002 1 0 q),(6,iv (i:Nat))]∧hp=[(2002,dH (AW j q))]) n ?_ ?_ ?_
 ·kernel_rfl
 ·exact⟨0,0,rfl,Nat.zero_le _,by rw[if_pos (Nat.zero_le _)],rfl,rfl⟩
 rintro m _ _ ⟨i,q,rfl,hi,hq,rfl,rfl⟩
 conv=>whnf
 have lq:=La j q
 by_cases aA:i<n
 ·have t1:=dX aA
  have t2:=bA (i:=i) aa
  by_cases GG:i=j
  ·have t3:((i:Int) != (j:Int))=false:=by rw[GG];exact bne_self_eq_false _
   (repeat((first|refine aE t1 ?_|refine aM t3 ?_|rw[t1]|rw[t3]|rw[t2]);conv=>whnf))
   exact⟨n - (i+1),fun k=>k,[0,1,4,5,6],[2002],aa,aB,i+1,q,rfl,aA,by rw[if_neg aa];rw[if_pos aa]at hq;omega,rfl,rfl⟩
  ·have t3:((i:Int) != (j:Int))=true:=bne_iff_ne.2 aa
   have hsk:sk j q=i:=by
    unfold sk
    by_cases g:i≤j
    ·rw[if_pos g]at hq;rw[if_pos aa];omega
    ·rw[if_neg g]at hq;rw[if_neg aa];omega
   have e1:=mZ (l:=AW j q) (x:=(i:Int))
   have hqq:(if i+1≤j then i+1 else i+1 - 1)=q+1:=by
    by_cases g:i≤j
    ·rw[if_pos g]at hq;rw[if_pos aa];omega
    ·rw[if_neg g]at hq;rw[if_neg aa];omega
   rw[lq,show AW j q++[(i:Int)]=AW j (q+1)from by rw[Hx,hsk]]at e1
   have hqi:q≤i:=by rw[hq];split<;>omega
   (repeat((first|refine ay Q3 ?_|refine aE t1 ?_|refine aE t3 ?_|rw[t1]|rw[t3]|rw[t2]);conv=>whnf))
   refine⟨n - (i+1),cx [(18,2002)],[0,1,4,5,6],[18],aa,aB,i+1,q+1,rfl,aA,hqq.symm,rfl, ?_⟩
   rw[e1];rfl
 ·have t1:=ez aA
  obtain rfl:i=n:=aa
  rw[if_neg aa]at hq
  subst hq
  (repeat(first|(refine aM t1 ?_;conv=>whnf)))
  exact ll.one rfl rfl (cW.ints rfl (by rw[fE]))
theorem OJ {r c s B:Nat} {a:List Rat} (ha:a.length=r*c) (sa:Sm B a) (hB:B≤1000) (hs:r≤5) (hr:r≤100) (hc:c≤100) (Ze:s≤r) (x8:s≤c):
  ab Tryz.prog 162 [cT 1 nB (aP r c a),iv c,iv s] [] (cT 1 nB (aP (r - s) (c - s) (mk (r - s) (c - s) (bm s (el a c))))) [] []:=by
 obtain⟨R,rfl⟩:∃R,r=s+R:=⟨r - s,aa⟩
 obtain⟨C,rfl⟩:∃C,c=s+C:=⟨c - s,aa⟩
 rw[Nat.add_sub_cancel_left,Nat.add_sub_cancel_left]
 have hz:=dx R C (bm s (el a (s+C)))
 have lra:=di (s+R) (s+C) a
 generalize hX:mk R C (bm s (el a (s+C)))=X at*
 have lz:=di R C X
 have lz2:((aP R C X).map nB).length=R:=by rw[List.length_map,lz]
 refine gX [] Tryz.func162 ?_
 intro w0 ρ0 hE
 conv=>whnf
 skip
 refine bR (t:=7) (k:=2001) (s:=1) (blk:=rh []) rfl rfl rfl ?_
 refine dd hE (fun k=>k) [0,1,2,6,7,8] [2001] (fun m fr hp=>∃i:Nat,m=R - i∧i≤R∧fr=[(0,cT 1 nB (aP (s+R) (s+C) a)),(1,iv (s+C:Nat)),(2,iv s),(6,.val (.slice none 0 0)),(7,.aN 2001 1 0 i),(8,iv (s+i:Nat))]∧
  hp=[(2001,rh ((aP R C X).take i))]) (R) ?_ ?_ ?_
 ·kernel_rfl
 ·exact⟨0,rfl,Nat.zero_le _,rfl,rfl⟩
 rintro m _ _ ⟨i,rfl,hi,rfl,rfl⟩
 have Hg:(((aP R C X).take i).map nB).length=i:=by rw[List.length_map,List.length_take];omega
 by_cases aA:i<R
 ·have t1:=dX (show s+i<(aP (s+R) (s+C) a).length by omega)
  have t2:=bA (i:=s+i) aa
  have An:=cE (c:=C) aA hz
  have EF:=An
  rw[List.length_take]at EF
  have e3:=oR (l:=aP R C X) (i:=i) aa
  rw[gJ aA]at e3
  refine ey.of hE ?_
  conv=>whnf
  (repeat(first|(refine aE t1 ?_;conv=>whnf)|(refine ak cO ?_;conv=>whnf)|(rw[t1];conv=>whnf)))
  refine bR (t:=9) (k:=2002) (s:=3) (blk:=pF []) rfl rfl rfl ?_
  refine dd hE (fun k=>k) [0,1,2,6,7,8,9,10] [2001,2002] (fun m fr hp=>∃k:Nat,m=C - k∧k≤C∧fr=[(0,cT 1 nB (aP (s+R) (s+C) a)),(1,iv (s+C:Nat)),(2,iv s),(6,.val (.slice none 0 0)),(7,.aN 2001 1 0 i),(8,iv (s+i:Nat)),(9,.aN 2002 3 0 k),(10,iv (s+k:Nat))]∧
   hp=[(2001,rh ((aP R C X).take i)),(2002,pF ((cj X (C) i).take k))]) (C) ?_ ?_ ?_
  ·kernel_rfl
  ·exact⟨0,rfl,Nat.zero_le _,rfl,rfl⟩
  rintro m _ _ ⟨k,rfl,hk,rfl,rfl⟩
  have Zd:(((cj X (C) i).take k).map fF).length=k:=by rw[List.length_map,List.length_take];omega
  by_cases hlk:k<C
  ·have t4:=dX (show s+k<s+C by omega)
   have t5:=bA (i:=s+k) aa
   have e4:=iO (z:=cj X (C) i) (i:=k) aa
   rw[eK hlk]at e4
   have o1:=Lb s (s+i) aa
   have o2:=Lb s (s+k) aa
   have e:∀x,(rm s [((s+x:Nat):Int)]).length=s+1:=fun x=>by rw[oT];rfl
   have o3:=AV ha sa hB (p:=rm s [((s+i:Nat):Int)]) (q:=rm s [((s+k:Nat):Int)]) (AQ aa) (AQ aa) (by rw[e];omega) (by rw[e,e])
   rw[e,show(bH (s+1) fun x y=>el a (s+C) ((rm s [((s+i:Nat):Int)]).getD x 0).toNat ((rm s [((s+k:Nat):Int)]).getD y 0).toNat)=bm s (el a (s+C)) i k from aO fun x y hx hy=>by rw[sr hx,sr hy]]at o3
   have eX:el X C i k=bm s (el a (s+C)) i k:=by rw[←hX];exact fy aA hlk
   rw[eX]at e4
   refine ey.of hE ?_
   conv=>whnf
   (repeat((first|refine ay Q3 ?_|refine aS (by assumption) ?_|refine aE t4 ?_|rw[t4]|rw[t5]);conv=>whnf))
   refine⟨C - (k+1),cx [(34,2002)],[0,1,2,6,7,8,9,10],[2001,34],aa,aB,k+1,rfl,hlk,rfl, ?_⟩
   rw[e4];rfl
  ·have t4:=ez (show ¬s+k<s+C by omega)
   obtain rfl:k=C:=aa
   rw[List.take_of_length_le (l:=cj X k i) aa]
   refine eB 9 2002 (fun _ h=>h) (fun _=>rfl) rfl rfl An.symm ?_
   refine ey.of hE ?_
   conv=>whnf
   (repeat((first|refine ay Q3 ?_|refine aM t4 ?_|rw[t4]|rw[t2]);conv=>whnf))
   refine⟨R - (i+1),cx [(38,2001)],[0,1,2,6,7,8],[38],aa,aB,i+1,rfl,aA,rfl, ?_⟩
   rw[e3];rfl
 ·have t1:=ez (show ¬s+i<(aP (s+R) (s+C) a).length by omega)
  obtain rfl:i=R:=aa
  rw[List.take_of_length_le aa]
  refine ey.of hE ?_
  conv=>whnf
  (repeat(first|(refine aM t1 ?_;conv=>whnf)|(refine ak cO ?_;conv=>whnf)))
  exact X7
theorem EG {n B:Nat} {a:List Rat} (ha:a.length=n*n) (sa:Sm B a) (hB:B≤1000) (hn:n≤5):
  ab Tryz.prog 164 [cT 1 nB (aP n n a)] [] (cT 1 nB (aP n n (mk n n (dU n (el a n))))) [] []:=by
 have hz:=dx n n (dU n (el a n))
 have lra:=di n n a
 generalize hX:mk n n (dU n (el a n))=X at*
 have lz:=di n n X
 have lz2:((aP n n X).map nB).length=n:=by rw[List.length_map,lz]
 refine gX [] Tryz.func164 ?_
 intro w0 ρ0 hE
 conv=>whnf
 skip
 refine bR (t:=3) (k:=2001) (s:=1) (blk:=rh []) rfl rfl rfl ?_
 refine dd hE (fun k=>k) [0,2,3,4] [2001] (fun m fr hp=>∃i:Nat,m=n - i∧i≤n∧fr=[(0,cT 1 nB (aP n n a)),(2,.val (.slice none 0 0)),(3,.aN 2001 1 0 i),(4,iv (i:Nat))]∧
  hp=[(2001,rh ((aP n n X).take i))]) (n) ?_ ?_ ?_
 ·kernel_rfl
 ·exact⟨0,rfl,Nat.zero_le _,rfl,rfl⟩
 rintro m _ _ ⟨i,rfl,hi,rfl,rfl⟩
 have Hg:(((aP n n X).take i).map nB).length=i:=by rw[List.length_map,List.length_take];omega
 by_cases aA:i<n
 ·have t1:=dX (show i<(aP n n a).length by omega)
  have t2:=bA (i:=i) aa
  have An:=cE (c:=n) aA hz
  have EF:=An
  rw[List.length_take]at EF
  have e3:=oR (l:=aP n n X) (i:=i) aa
  rw[gJ aA]at e3
  refine ey.of hE ?_
  conv=>whnf
  (repeat(first|(refine aE t1 ?_;conv=>whnf)|(refine ak cO ?_;conv=>whnf)|(rw[t1];conv=>whnf)))
  refine bR (t:=5) (k:=2002) (s:=3) (blk:=pF []) rfl rfl rfl ?_
  refine dd hE (fun k=>k) [0,2,3,4,5,6] [2001,2002] (fun m fr hp=>∃k:Nat,m=n - k∧k≤n∧fr=[(0,cT 1 nB (aP n n a)),(2,.val (.slice none 0 0)),(3,.aN 2001 1 0 i),(4,iv (i:Nat)),(5,.aN 2002 3 0 k),(6,iv (k:Nat))]∧
   hp=[(2001,rh ((aP n n X).take i)),(2002,pF ((cj X (n) i).take k))]) (n) ?_ ?_ ?_
  ·kernel_rfl
  ·exact⟨0,rfl,Nat.zero_le _,rfl,rfl⟩
  rintro m _ _ ⟨k,rfl,hk,rfl,rfl⟩
  have Zd:(((cj X (n) i).take k).map fF).length=k:=by rw[List.length_map,List.length_take];omega
  by_cases hlk:k<n
  ·have t4:=dX (show k<(aP n n a).length by omega)
   have t5:=bA (i:=k) aa
   have e4:=iO (z:=cj X (n) i) (i:=k) aa
   rw[eK hlk]at e4
   have o1:=yZ (aP n n a).length i aa aa
   have o2:=yZ (aP n n a).length k aa aa
   rw[show kO (aP n n a).length i=kO n i from by rw[lra]]at o1
   rw[show kO (aP n n a).length k=kO n k from by rw[lra]]at o2
   have o3:=AV ha sa hB (p:=kO n k) (q:=kO n i) vf vf (by rw[fE];omega) (by rw[fE,fE])
   rw[fE,show(bH (n - 1) fun x y=>el a n ((kO n k).getD x 0).toNat ((kO n i).getD y 0).toNat)=bH (n - 1) (rK (el a n) k i)from aO fun x y hx hy=>by rw[lG hx,lG hy];rfl]at o3
   have eX:el X n i k=sg (i+k)*bH (n - 1) (rK (el a n) k i):=by rw[←hX];exact fy aA hlk
   rw[eX]at e4
   have fD:fs (bH (n - 1) (rK (el a n) k i))≤7817812:=by
    have:=mi (n:=n - 1) (B:=B) (a:=mk (n - 1) (n - 1) (rK (el a n) k i)) (dx ..) (wL fun x y hx hy=>mb sa ha (by have:=kp (k:=k) hx;omega) (by have:=kp (k:=i) hy;omega)) (n - 1) 0 [] (Nat.zero_add _)
    rw[oL,aO (B:=rK (el a n) k i) fun x y hx hy=>fy hx hy]at this
    exact Nat.le_trans this (Eu aa (Nat.le_trans hB aF) aa)
   have w1:IntKind.i64.wrap ((i:Int)+(k:Int))=((i+k:Nat):Int):=by rw[wrap_i64 aa aa];omega
   have e7:((i+k:Nat):Int).tmod 2=((i+k:Nat):Int) % 2:=Int.tmod_eq_emod_of_nonneg (Int.natCast_nonneg _)
   generalize bH (n - 1) (rK (el a n) k i)=D at*
   refine ey.of hE ?_
   conv=>whnf
   by_cases hodd:(i+k) % 2=1
   ·have t8:(((i+k:Nat):Int).tmod 2==1)=true:=by rw[e7];exact beq_iff_eq.2 aa
    have Y6:sg (i+k)*D= -D:=by rw[←kF,jK,if_pos hodd];grind
    rw[Y6]at e4
    have kn:=Kv D (by have:=Ku (q:=D) (Nat.le_refl _);omega)
    (repeat((first|refine ay Q3 ?_|refine bN Q3 ?_|refine aS (by assumption) ?_|refine aE t4 ?_|refine aE t8 ?_|refine ak cO ?_|rw[t4]|rw[w1]|rw[t8]|rw[t5]);conv=>whnf))
    refine⟨n - (k+1),cx [(40,2002)],[0,2,3,4,5,6],[2001,40],aa,aB,k+1,rfl,hlk,rfl, ?_⟩
    rw[e4];rfl
   ·have t8:(((i+k:Nat):Int).tmod 2==1)=false:=by rw[e7];exact beq_eq_false_iff_ne.2 aa
    have Y6:sg (i+k)*D=D:=by rw[←kF,jK,if_neg hodd];grind
    rw[Y6]at e4
    (repeat((first|refine ay Q3 ?_|refine bN Q3 ?_|refine aS (by assumption) ?_|refine aE t4 ?_|refine aM t8 ?_|refine ak cO ?_|rw[t4]|rw[w1]|rw[t8]|rw[t5]);conv=>whnf))
    refine⟨n - (k+1),cx [(40,2002)],[0,2,3,4,5,6],[2001,40],aa,aB,k+1,rfl,hlk,rfl, ?_⟩
    rw[e4];rfl
  ·have t4:=ez (show ¬k<(aP n n a).length by omega)
   obtain rfl:k=n:=aa
   rw[List.take_of_length_le (l:=cj X k i) aa]
   refine eB 5 2002 (fun _ h=>h) (fun _=>rfl) rfl rfl An.symm ?_
   refine ey.of hE ?_
   conv=>whnf
   (repeat((first|refine ay Q3 ?_|refine aM t4 ?_|refine ak cO ?_|rw[t4]|rw[t2]);conv=>whnf))
   refine⟨k - (i+1),cx [(44,2001)],[0,2,3,4],[44],aa,aB,i+1,rfl,aA,rfl, ?_⟩
   rw[e3];rfl
 ·have t1:=ez (show ¬i<(aP n n a).length by omega)
  obtain rfl:i=n:=aa
  rw[List.take_of_length_le aa]
  refine ey.of hE ?_
  conv=>whnf
  (repeat(first|(refine aM t1 ?_;conv=>whnf)|(refine ak cO ?_;conv=>whnf)))
  exact X7
end Go.Proofs.YtfpagioknjjacaaGreatDoor
