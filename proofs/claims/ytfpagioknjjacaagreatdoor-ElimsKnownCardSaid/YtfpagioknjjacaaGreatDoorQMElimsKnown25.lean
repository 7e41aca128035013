/- The texts Bh, Bi, Uc. -/
import Derived.Test.YtfpagioknjjacaaGreatDoorQMElimsKnown16
import Derived.Test.YtfpagioknjjacaaGreatDoorQMElimsKnown6
import Derived.Test.YtfpagioknjjacaaGreatDoorQMElimsKnown14
import Derived.Test.YtfpagioknjjacaaGreatDoorQMElimsKnown15
namespace Go.Proofs.YtfpagioknjjacaaGreatDoor
open Go.Sx
set_option linter.unusedSimpArgs false
set_option linter.unusedVariables false
set_option maxRecDepth 100000
set_option maxHeartbeats 40000000
def jt (r c:Nat) (a:List Rat) (t p k:Nat):List Rat:=mk r c (dM (aP (el a c) p t) t k)
theorem AB (r c:Nat) (a:List Rat) (t p k:Nat):(jt r c a t p k).length=r*c:=dJ ..
theorem AD {r c t p k q:Nat} {a:List Rat} (ht:t<r) (hq:q<c):el (jt r c a t p k) c t q=el a c p q/el a c p k:=by
 rw[jt,ec ht hq]
 unfold dM
 rw[if_pos rfl,pR]
theorem D5 {r c t p k i q:Nat} {a:List Rat} (hi:i<r) (hq:q<c) (bW:i≠t):el (jt r c a t p k) c i q=el a c (if i=p then t else i) q - el a c (if i=p then t else i) k*(el a c p q/el a c p k):=by
 rw[jt,ec hi hq]
 unfold dM
 rw[if_neg bW,pR]
 unfold aP
 by_cases e:i=p
 ·rw[if_pos e,if_pos e]
 ·rw[if_neg e,if_neg e,if_neg bW]
theorem Mp {r c t p k A:Nat} {a:List Rat} (ha:dV r c a) (sa:Sm A a) (ht:t<r) (hp:p<r) (hk:k<c):Sm (4*A) (jt r c a t p k):=by
 intro x hx
 rw[AB]at hx
 obtain⟨h1,h2,h3⟩:=iQ hx
 rw[←h3]
 have b1:=eS sa ha.n hp h2
 have b2:=eS sa ha.n hp hk
 have b3:=qG (el a c p (x % c)) (el a c p k)
 show fs (el (jt r c a t p k) c (x/c) (x % c))≤_
 by_cases e:x/c=t
 ·rw[e,AD ht h2];omega
 ·rw[D5 h1 h2 e]
  have hj:(if x/c=p then t else x/c)<r:=by split<;>omega
  have b4:=eS sa ha.n hj h2
  have b5:=eS sa ha.n hj hk
  have b6:=eE (el a c (if x/c=p then t else x/c) k) (el a c p (x % c)/el a c p k)
  have b7:=Kd (el a c (if x/c=p then t else x/c) (x % c)) (el a c (if x/c=p then t else x/c) k*(el a c p (x % c)/el a c p k))
  omega
theorem Mq {r c A:Nat} {a:List Rat} (ha:dV r c a) (sa:Sm A a) {t p k:Nat} (ht:t<r) (hp:p<r) (hk:k<c) (bW:el a c p k≠0) (hA:4*A≤100000000):
  ab Tryz.prog 225 [rM r c a,iv t,iv p,iv k] [] (rM r c (jt r c a t p k)) [] []:=by
 have hr:=ha.r
 have hc:=ha.c
 have la:=et r c a
 have hR:∀i,i<r→(aT r c a).getD i []=db a c i:=fun i hi=>iR hi
 have J8:∀i,i<r→((aT r c a).getD i []).length=c:=fun i hi=>by rw[hR i hi];exact c8 hi ha.n
 have Ha:∀i q,i<r→q<c→((aT r c a).getD i []).getD q 0=el a c i q:=fun i q hi hq=>by rw[hR i hi];exact iw hq
 have hs:∀i q,i<r→q<c→fs (el a c i q)≤A:=fun i q hi hq=>eS sa ha.n hi hq
 have lz:=et r c (jt r c a t p k)
 have lz2:((aT r c (jt r c a t p k)).map xX).length=r:=by rw[List.length_map,lz]
 have hz:=AB r c a t p k
 have ZG:∀i,i<r→(aT r c (jt r c a t p k)).getD i []=db (jt r c a t p k) c i:=fun i hi=>iR hi
 have MT:∀i,i<r→(db (jt r c a t p k) c i).length=c:=fun i hi=>c8 hi hz
 have Rd:∀q,q<c→(db (jt r c a t p k) c t).getD q 0=el a c p q/el a c p k:=fun q hq=>by rw[iw hq];exact AD ht hq
 have ZH:∀i q,i<r→q<c→i≠t→(db (jt r c a t p k) c i).getD q 0=el a c (if i=p then t else i) q - el a c (if i=p then t else i) k*(el a c p q/el a c p k):=fun i q hi hq bW=>by rw[iw hq];exact D5 hi hq bW
 have EV:=hR
 generalize jt r c a t p k=Z at*
 refine fZ [4] Tryz.func225 ?_
 intro w0 ρ0 hE
 conv=>whnf
 (repeat(first|(refine ah Q5 ?_;conv=>whnf)|(refine ah Q7 ?_;conv=>whnf)))
 refine ct (t:=10) (k:=2002) (s:=3) (blk:=qq []) rfl rfl rfl ?_
 refine dE hE (fun k=>k) [1,2,3,4,8,9,10,11] [8,9,2002] (fun m fr hp=>∃q:Nat,m=c - q∧q≤c∧fr=[(1,iv t),(2,iv p),(3,iv k),(4,bE (rC r c a)),(8,.ptr 8 0 0 0),(9,.ptr 9 0 0 0),(10,.aO 2002 3 0 q),(11,iv (q:Nat))]∧
  hp=[(8,zR),(9,⟨113,true,.one [iv c,.val (.slice none 0 0)]⟩),(2002,qq ((db Z c t).take q))]) c ?_ ?_ ?_
 ·kernel_rfl
 ·exact⟨0,rfl,Nat.zero_le _,rfl,rfl⟩
 rintro m _ _ ⟨q,rfl,hq,rfl,rfl⟩
 have aee:(((db Z c t).take q).map fF).length=q:=by rw[List.length_map,List.length_take,MT t ht];omega
 by_cases hqc:q<c
 ·have t1:=dx hqc
  have t2:=br (i:=q) aa
  have e4:=iX (z:=db Z c t) (i:=q) (by rw[MT t ht];exact hqc)
  have Fh:=MT t ht
  rw[List.length_take]at Fh
  have s1:=hs p q hp hqc
  have s2:=hs p k hp hk
  have g1:=Ha p q hp hqc
  have g2:=Ha p k hp hk
  have hl:=J8 p hp
  have hpR:p<(aT r c a).length:=aa
  have k1:=K0 (((aT r c a).getD p []).getD q 0) (((aT r c a).getD p []).getD k 0) (by rw[g2];exact bW) (by rw[g1,g2];omega)
  rw[g1,g2,←Rd q hqc,←g1,←g2]at k1
  clear hR J8 Ha hs ZG MT Rd ZH EV g1 g2
  refine ey.of hE ?_
  conv=>whnf
  (repeat((first|refine ag rfl rfl ?_|refine aq av ?_|refine aC Q3 ?_|refine aS (by assumption) ?_|refine ah og ?_|refine ah Q5 ?_|refine ah mP ?_|refine ah Q7 ?_|rw[t1]|rw[t2]);conv=>whnf))
  refine⟨c - (q+1),cE [(44,2002)],[1,2,3,4,8,9,10,11],[8,9,44],aa,av,q+1,rfl,hqc,rfl, ?_⟩
  rw[e4];rfl
 have t1:=dA hqc
 obtain rfl:q=c:=aa
 have lH:=MT t ht
 rw[List.take_of_length_le (l:=db Z q t) aa]
 refine eA 10 2002 (fun _ h=>h) (fun _=>rfl) rfl rfl lH.symm ?_
 refine ey.of hE ?_
 conv=>whnf
 (repeat((first|refine ae rfl rfl ?_|refine ah Q5 ?_|refine ah Q7 ?_|rw[t1]);conv=>whnf))
 refine iS (j:=9) (k:=2001) (s:=1) (p:=1) (blk:=BK []) rfl rfl rfl rfl rfl ?_
 refine dE hE (fun k=>k) [1,2,3,4,8,9,10,12] [8,9,2001] (fun m fr hp=>∃i:Nat,m=r - i∧i≤r∧fr=[(1,iv t),(2,iv p),(3,iv k),(4,bE (rC r q a)),(8,.ptr 8 0 0 0),(9,.ptr 9 0 0 0),(10,xX (db Z q t)),(12,iv (i:Nat))]∧
  hp=[(8,zR),(9,oR q i 2001),(2001,BK ((aT r q Z).take i))]) r ?_ ?_ ?_
 ·kernel_rfl
 ·exact⟨0,rfl,Nat.zero_le _,rfl,rfl⟩
 rintro m _ _ ⟨i,rfl,hi,rfl,rfl⟩
 have KD:(((aT r q Z).take i).map xX).length=i:=by rw[List.length_map,List.length_take];omega
 by_cases aE:i<r
 ·have t2:decide ((i:Int)<((aT r q a).length:Int))=true:=by rw[la];exact dx aE
  have t3:=br (i:=i) aa
  have e3:=Ad (l:=aT r q Z) (i:=i) aa
  rw[ZG i aE]at e3
  have b1:i<(aT r q a).length:=aa
  have b2:t<(aT r q a).length:=aa
  by_cases hit:i=t
  ·subst hit
   have t4:((i:Int)==(i:Int))=true:=beq_self_eq_true _
   by_cases hip:i=p
   ·have t5:((i:Int)==(p:Int))=true:=by rw[hip];exact beq_self_eq_true _
    clear hR J8 Ha hs ZG MT Rd ZH EV
    refine ey.of hE ?_
    conv=>whnf
    (repeat((first|refine ag rfl rfl ?_|refine aC Q3 ?_|rw[beq_self_eq_true]|refine ah Q8 ?_|refine ah Q5 ?_|refine ah mP ?_|refine ah Q7 ?_|rw[t2]|rw[t5]|rw[t3]|rw[Nat.zero_add]);conv=>whnf))
    refine⟨r - (i+1),cE [(72,2001)],[1,2,3,4,8,9,10,12],[8,9,72],aa,av,i+1,rfl,aE,rfl, ?_⟩
    rw[e3];rfl
   ·have t5:((i:Int)==(p:Int))=false:=beq_eq_false_iff_ne.2 aa
    clear hR J8 Ha hs ZG MT Rd ZH EV
    refine ey.of hE ?_
    conv=>whnf
    (repeat((first|refine ag rfl rfl ?_|refine ae rfl rfl ?_|refine aC Q3 ?_|rw[beq_self_eq_true]|refine ah Q8 ?_|refine ah Q5 ?_|refine ah mP ?_|refine ah Q7 ?_|rw[t2]|rw[t5]|rw[t3]|rw[Nat.zero_add]);conv=>whnf))
    refine⟨r - (i+1),cE [(72,2001)],[1,2,3,4,8,9,10,12],[8,9,72],aa,av,i+1,rfl,aE,rfl, ?_⟩
    rw[e3];rfl
  ·have t4:((i:Int)==(t:Int))=false:=beq_eq_false_iff_ne.2 aa
   obtain⟨j,hj⟩:∃j,(if i=p then t else i)=j:=⟨_,rfl⟩
   have Y6:j<r:=by rw[←hj];split<;>omega
   obtain⟨t5,hF⟩:∃bb:Bool,((i:Int)==(p:Int))=bb∧(bb=true→j=t)∧(bb=false→j=i):=by
    by_cases hip:i=p
    ·exact⟨true,by rw[hip];exact beq_self_eq_true _,(fun _=>by rw[←hj,if_pos hip]),(fun h=>by cases h)⟩
    ·exact⟨false,beq_eq_false_iff_ne.2 aa,(fun h=>by cases h),(fun _=>by rw[←hj,if_neg hip])⟩
   obtain⟨t6,hF1,hF2⟩:=hF
   have lF:=J8 j Y6
   have Re:=fun x (hx:x<q)=>Ha j x Y6 hx
   have Rf:=fun x (hx:x<q)=>hs j x Y6 hx
   have lZ:=MT i aE
   have Zi:=fun x (hx:x<q)=>ZH i x aE hx hit
   have Im:=fun x (hx:x<q)=>hs p x hp hx
   rw[hj]at Zi
   cases t5
   ·have ej:=hF2 rfl
    rw[ej]at lF Re Rf Zi
    clear hR J8 Ha hs ZG ZH EV hF1 hF2
    refine ey.of hE ?_
    conv=>whnf
    (repeat((first|refine ag rfl rfl ?_|refine ae rfl rfl ?_|refine ah Q8 ?_|refine ah Q5 ?_|refine ah mP ?_|refine ah Q7 ?_|rw[t2]|rw[t6]|rw[t4]);conv=>whnf))
    generalize (aT r q a).getD i []=FL at*
    refine ct (t:=14) (k:=2003) (s:=3) (blk:=qq []) rfl rfl rfl ?_
    refine dE hE (fun k=>k) [1,2,3,4,8,9,10,12,13,14,15] [8,9,2001,2003] (fun m fr hp=>∃x:Nat,m=q - x∧x≤q∧fr=[(1,iv t),(2,iv p),(3,iv k),(4,bE (rC r q a)),(8,.ptr 8 0 0 0),(9,.ptr 9 0 0 0),(10,xX (db Z q t)),(12,iv (i:Nat)),(13,xX FL),(14,.aO 2003 3 0 x),(15,iv (x:Nat))]∧
     hp=[(8,zR),(9,oR q i 2001),(2001,BK ((aT r q Z).take i)),(2003,qq ((db Z q i).take x))]) q ?_ ?_ ?_
    ·kernel_rfl
    ·exact⟨0,rfl,Nat.zero_le _,rfl,rfl⟩
    rintro m _ _ ⟨x,rfl,hx,rfl,rfl⟩
    have CD:(((db Z q i).take x).map fF).length=x:=by rw[List.length_map,List.length_take,lZ];omega
    by_cases hxq:x<q
    ·have s1:=dx hxq
     have s2:=br (i:=x) aa
     have e4:=iX (z:=db Z q i) (i:=x) (by rw[lZ];exact hxq)
     have Fh:=lZ
     rw[List.length_take]at Fh
     have z1:=Zi x hxq
     have z2:=Rd x hxq
     have f1:=Re x hxq
     have f2:=Re k hk
     have f3:=Rf x hxq
     have f4:=Rf k hk
     have f5:=Im x hxq
     have f6:=Im k hk
     have g1:=qG (el a q p x) (el a q p k)
     rw[←z2]at g1 z1
     rw[←f1,←f2]at z1
     rw[←f1]at f3
     rw[←f2]at f4
     have g2:=eE (FL.getD k 0) ((db Z q t).getD x 0)
     have k1:=BH (FL.getD k 0) ((db Z q t).getD x 0) aa
     have k2:=KZ (FL.getD x 0) (FL.getD k 0*(db Z q t).getD x 0) aa
     rw[←z1]at k2
     clear Zi Rd Re Rf Im MT f1 f2 z1 z2
     refine ey.of hE ?_
     conv=>whnf
     (repeat((first|refine ag rfl rfl ?_|refine aq av ?_|refine aC Q3 ?_|refine aS (by assumption) ?_|refine ah og ?_|refine ah Q5 ?_|refine ah Q7 ?_|rw[s1]|rw[s2]);conv=>whnf))
     refine⟨q - (x+1),cE [(96,2003)],[1,2,3,4,8,9,10,12,13,14,15],[8,9,2001,96],aa,av,x+1,rfl,hxq,rfl, ?_⟩
     rw[e4];rfl
    ·have s1:=dA hxq
     obtain rfl:x=q:=aa
     rw[List.take_of_length_le (l:=db Z x i) aa]
     refine eA 14 2003 (fun _ h=>h) (fun _=>rfl) rfl rfl lZ.symm ?_
     refine ey.of hE ?_
     conv=>whnf
     (repeat((first|refine ae rfl rfl ?_|refine aC Q3 ?_|refine ah Q5 ?_|refine ah Q7 ?_|rw[s1]|rw[t3]|rw[Nat.zero_add]);conv=>whnf))
     refine⟨r - (i+1),cE [(101,2001)],[1,2,3,4,8,9,10,12],[8,9,101],aa,av,i+1,rfl,aE,rfl, ?_⟩
     rw[e3];rfl
   ·have ej:=hF1 rfl
    rw[ej]at lF Re Rf Zi
    clear hR J8 Ha hs ZG ZH EV hF1 hF2
    refine ey.of hE ?_
    conv=>whnf
    (repeat((first|refine ag rfl rfl ?_|refine ae rfl rfl ?_|refine ah Q8 ?_|refine ah Q5 ?_|refine ah mP ?_|refine ah Q7 ?_|rw[t2]|rw[t6]|rw[t4]);conv=>whnf))
    generalize (aT r q a).getD t []=FL at*
    refine ct (t:=14) (k:=2003) (s:=3) (blk:=qq []) rfl rfl rfl ?_
    refine dE hE (fun k=>k) [1,2,3,4,8,9,10,12,13,14,15] [8,9,2001,2003] (fun m fr hp=>∃x:Nat,m=q - x∧x≤q∧fr=[(1,iv t),(2,iv p),(3,iv k),(4,bE (rC r q a)),(8,.ptr 8 0 0 0),(9,.ptr 9 0 0 0),(10,xX (db Z q t)),(12,iv (i:Nat)),(13,xX FL),(14,.aO 2003 3 0 x),(15,iv (x:Nat))]∧
     hp=[(8,zR),(9,oR q i 2001),(2001,BK ((aT r q Z).take i)),(2003,qq ((db Z q i).take x))]) q ?_ ?_ ?_
    ·kernel_rfl
    ·exact⟨0,rfl,Nat.zero_le _,rfl,rfl⟩
    rintro m _ _ ⟨x,rfl,hx,rfl,rfl⟩
    have CD:(((db Z q i).take x).map fF).length=x:=by rw[List.length_map,List.length_take,lZ];omega
    by_cases hxq:x<q
    ·have s1:=dx hxq
     have s2:=br (i:=x) aa
     have e4:=iX (z:=db Z q i) (i:=x) (by rw[lZ];exact hxq)
     have Fh:=lZ
     rw[List.length_take]at Fh
     have z1:=Zi x hxq
     have z2:=Rd x hxq
     have f1:=Re x hxq
     have f2:=Re k hk
     have f3:=Rf x hxq
     have f4:=Rf k hk
     have f5:=Im x hxq
     have f6:=Im k hk
     have g1:=qG (el a q p x) (el a q p k)
     rw[←z2]at g1 z1
     rw[←f1,←f2]at z1
     rw[←f1]at f3
     rw[←f2]at f4
     have g2:=eE (FL.getD k 0) ((db Z q t).getD x 0)
     have k1:=BH (FL.getD k 0) ((db Z q t).getD x 0) aa
     have k2:=KZ (FL.getD x 0) (FL.getD k 0*(db Z q t).getD x 0) aa
     rw[←z1]at k2
     clear Zi Rd Re Rf Im MT f1 f2 z1 z2
     refine ey.of hE ?_
     conv=>whnf
     (repeat((first|refine ag rfl rfl ?_|refine aq av ?_|refine aC Q3 ?_|refine aS (by assumption) ?_|refine ah og ?_|refine ah Q5 ?_|refine ah Q7 ?_|rw[s1]|rw[s2]);conv=>whnf))
     refine⟨q - (x+1),cE [(96,2003)],[1,2,3,4,8,9,10,12,13,14,15],[8,9,2001,96],aa,av,x+1,rfl,hxq,rfl, ?_⟩
     rw[e4];rfl
    ·have s1:=dA hxq
     obtain rfl:x=q:=aa
     rw[List.take_of_length_le (l:=db Z x i) aa]
     refine eA 14 2003 (fun _ h=>h) (fun _=>rfl) rfl rfl lZ.symm ?_
     refine ey.of hE ?_
     conv=>whnf
     (repeat((first|refine ae rfl rfl ?_|refine aC Q3 ?_|refine ah Q5 ?_|refine ah Q7 ?_|rw[s1]|rw[t3]|rw[Nat.zero_add]);conv=>whnf))
     refine⟨r - (i+1),cE [(101,2001)],[1,2,3,4,8,9,10,12],[8,9,101],aa,av,i+1,rfl,aE,rfl, ?_⟩
     rw[e3];rfl
 ·have t2:decide ((i:Int)<((aT r q a).length:Int))=false:=by rw[la];exact dA aE
  obtain rfl:i=r:=aa
  rw[List.take_of_length_le aa]
  refine ey.of hE ?_
  conv=>whnf
  (repeat((first|refine ae rfl rfl ?_|refine ah Q8 ?_|refine ah Q5 ?_|refine ah Q7 ?_|rw[t2]);conv=>whnf))
  exact Q28
theorem step_mk {r c t p k:Nat} {w:Mx} (ht:t<r) (hp:p<r) (hk:k<c):jt r c (mk r c w) t p k=mk r c (dM (aP w p t) t k):=mk_congr fun i q hi hq=>by
 have e:∀x y,x<r→y<c→aP (el (mk r c w) c) p t x y=aP w p t x y:=fun x y hx hy=>by
  unfold aP
  by_cases h1:x=p
  ·rw[if_pos h1,if_pos h1];exact ec ht hy
  ·rw[if_neg h1,if_neg h1]
   by_cases h2:x=t
   ·rw[if_pos h2,if_pos h2];exact ec hp hy
   ·rw[if_neg h2,if_neg h2];exact ec hx hy
 unfold dM
 rw[e t q ht hq,e t k ht hk,e i q hi hq,e i k hi hk]
theorem FK {r c A:Nat} {a:List Rat} (ha:dV r c a) (sa:Sm A a) (hr:r≤6) (hc:c≤6) (h2:2≤A) (hA:16384*A≤100000000):
  ab Tryz.prog 114 [rM r c a] [] (.ck [rM r c (RL r c a),cO .i64 ((bV r c a).map cY)]) [] []:=by
 obtain⟨⟨wf,pf,df⟩,ga⟩:∃s,iz r c ⟨el a c,[],1⟩=s:=⟨_,rfl⟩
 have e1:RL r c a=mk r c wf:=by unfold RL RW;rw[ga]
 have e2:bV r c a=pf:=by unfold bV;rw[ga]
 rw[e1,e2]
 have ag1:(pf.map cY).length=pf.length:=List.length_map _
 refine fZ [] Tryz.func114 ?_
 intro w0 ρ0 hE
 conv=>whnf
 skip
 refine ct (t:=4) (k:=2001) (s:=1) (blk:=fH []) rfl rfl rfl ?_
 refine aj hE (fun k=>k) [1,2,4,5] [1,2,2001] (fun m fr hp=>∃(k:Nat) (w:Mx) (pv:List Nat) (d:Rat),m=c - k∧k≤c∧iz r k ⟨el a c,[],1⟩=⟨w,pv,d⟩∧Sm (4^pv.length*A) (mk r c w)∧fr=[(1,.ptr 1 0 0 0),(2,.ptr 2 0 0 0),(4,.aO 2001 1 0 pv.length),(5,iv (k:Nat))]∧
  hp=[(1,⟨113,true,.one (rC r c (mk r c w))⟩),(2,zR),(2001,fH (pv.map cY))]) c ?_ ?_ ?_
 ·kernel_rfl
 ·exact⟨0,el a c,[],1,rfl,Nat.zero_le _,rfl,by rw[Gu ha.n];exact n8 (by simp) sa,rfl,by rw[Gu ha.n];rfl⟩
 rintro m _ _ ⟨k,w,pv,d,rfl,hk,hS,sB,rfl,rfl⟩
 have lpm:(pv.map cY).length=pv.length:=List.length_map _
 conv=>whnf
 by_cases hkc:k<c
 ·have t1:=dx hkc
  have t2:=br (i:=k) aa
  have hi:=Inv.red (r:=r) (W:=el a c) k
  rw[hS]at hi
  have hlen:pv.length≤r:=hi.len
  have Rg:iz r (k+1) ⟨el a c,[],1⟩=jT r ⟨w,pv,d⟩ k:=by rw[pP,hS]
  have okB:dV r c (mk r c w):=oV ha.r ha.c
  have la:=et r c (mk r c w)
  have Ha:∀i,i<r→((aT r c (mk r c w)).getD i []).getD k 0=w i k∧((aT r c (mk r c w)).getD i []).length=c:=fun i hi=>by
   rw[iR hi];exact⟨(iw hkc).trans (ec hi hkc),c8 hi okB.n⟩
  have F9:∀i,i<r→fs (w i k)≤4^pv.length*A:=fun i hi=>by have:=eS sB okB.n hi hkc;rwa [show el (mk r c w) c i k=w i k from ec hi hkc]at this
  have Ea:=G8 A hlen hr
  have ud:=fun p (h1:pv.length<r) (hp:p<r) (bW:w p k≠0)=>Mq okB sB (t:=pv.length) (p:=p) (k:=k) h1 hp hkc (by rw[show el (mk r c w) c p k=w p k from ec hp hkc];exact bW) aa
  have hsm:=fun p (h1:pv.length<r) (hp:p<r)=>Mp (p:=p) okB sB h1 hp hkc
  have w8:IntKind.i64.wrap (((aT r c (mk r c w)).length:Int) - 1)=(r:Int) - 1:=by rw[la,wrap_i64 aa aa]
  (repeat((first|refine ag rfl rfl ?_|refine ah Q8 ?_|rw[t1]|rw[w8]|rw[Nat.zero_add]);conv=>whnf))
  refine aj hE (fun k=>k) [1,2,4,5,6,7,8] [1,2,2001] (fun m fr hp=>∃(j:Nat) (at_:Int),m=j - pv.length∧pv.length≤j∧j≤r∧((at_= -1∧∀x,j≤x→x<r→w x k=0)∨∃p:Nat,at_=p∧j≤p∧p<r∧w p k≠0∧∀x,j≤x→x<p→w x k=0)∧
   fr=[(1,.ptr 1 0 0 0),(2,.ptr 2 0 0 0),(4,.aO 2001 1 0 pv.length),(5,iv (k:Nat)),(6,iv pv.length),(7,iv at_),(8,iv ((j:Int) - 1))]∧
   hp=[(1,⟨113,true,.one (rC r c (mk r c w))⟩),(2,zR),(2001,fH (pv.map cY))]) (r - pv.length) ?_ ?_ ?_
  ·kernel_rfl
  ·exact⟨r, -1,rfl,hlen,Nat.le_refl _,.inl ⟨rfl,fun x h1 h2=>aa⟩,rfl,rfl⟩
  rintro m _ _ ⟨j,at_,rfl,hj1,hj2,hat,rfl,rfl⟩
  by_cases Rm:pv.length<j
  ·obtain⟨i,rfl⟩:∃i,j=i+1:=⟨j - 1,aa⟩
   rw[show(((i+1:Nat):Int) - 1)=(i:Int) by omega]
   have s1:decide ((i:Int)≥(pv.length:Int))=true:=decide_eq_true aa
   have s2:IntKind.i64.wrap ((i:Int) - 1)=(i:Int) - 1:=wrap_i64 aa aa
   obtain⟨g1,g2⟩:=Ha i aa
   have g3:=F9 i aa
   have kS:=BG (w i k) (by have:=(Dp (q:=w i k) (Nat.le_refl _)).1;omega)
   rw[←g1]at kS
   have hix:i<(aT r c (mk r c w)).length:=aa
   by_cases hz:w i k=0
   ·have s3:((((aT r c (mk r c w)).getD i []).getD k 0).num.sign != 0)=false:=by rw[g1,hz];rfl
    have aer:(at_= -1∧∀x,i≤x→x<r→w x k=0)∨∃p:Nat,at_=p∧i≤p∧p<r∧w p k≠0∧∀x,i≤x→x<p→w x k=0:=by
     rcases hat with⟨h1,h3⟩|⟨p,h1,h3,h4,h5,h6⟩
     ·exact .inl ⟨h1,fun x hx hxr=>by
       by_cases e:x=i
       ·rw[e,hz]
       ·exact h3 x aa hxr⟩
     ·exact .inr ⟨p,h1,aa,h4,h5,fun x hx hxp=>by
       by_cases e:x=i
       ·rw[e,hz]
       ·exact h6 x aa hxp⟩
    clear ud hsm Ha F9 hat
    conv=>whnf
    (repeat((first|refine ag rfl rfl ?_|refine ae rfl rfl ?_|refine aS (by assumption) ?_|refine ah og ?_|refine ah Q5 ?_|refine ah mP ?_|rw[s1]|rw[s3]|rw[s2]|rw[Nat.zero_add]);conv=>whnf))
    exact⟨i - pv.length,fun k=>k,[1,2,4,5,6,7,8],[1,2,2001],aa,av,i,at_,rfl,aa,aa,aer,rfl,rfl⟩
   ·have s3:((((aT r c (mk r c w)).getD i []).getD k 0).num.sign != 0)=true:=by rw[g1];exact bne_iff_ne.2 fun g=>hz (Rat.num_eq_zero.1 (Int.sign_eq_zero_iff_zero.1 g))
    clear ud hsm Ha F9 hat
    conv=>whnf
    (repeat((first|refine ag rfl rfl ?_|refine aS (by assumption) ?_|refine ah og ?_|refine ah Q5 ?_|refine ah mP ?_|rw[s1]|rw[s3]|rw[s2]|rw[Nat.zero_add]);conv=>whnf))
    exact⟨i - pv.length,fun k=>k,[1,2,4,5,6,7,8],[1,2,2001],aa,av,i,(i:Nat),rfl,aa,aa,.inr ⟨i,rfl,Nat.le_refl _,aa,hz,fun x h1 h2=>aa⟩,rfl,rfl⟩
  ·obtain rfl:j=pv.length:=aa
   have s1:decide (((pv.length:Int) - 1)≥(pv.length:Int))=false:=decide_eq_false aa
   rcases hat with⟨rfl,h3⟩|⟨p,rfl,h3,h4,h5,h6⟩
   ·have s3:decide ((-1:Int)<0)=true:=rfl
    have hn:iz r (k+1) ⟨el a c,[],1⟩=⟨w,pv,d⟩:=by
     rw[Rg]
     unfold jT
     simp only
     rw[qQ fun x h1 h2=>h3 x h1 aa]
    clear ud hsm Ha F9
    conv=>whnf
    (repeat((first|refine ag rfl rfl ?_|refine ae rfl rfl ?_|rw[s1]|rw[s3]|rw[t2]);conv=>whnf))
    exact⟨c - (k+1),fun k=>k,[1,2,4,5],[1,2,2001],aa,av,k+1,w,pv,d,rfl,hkc,hn,sB,rfl,rfl⟩
   ·have s3:decide ((p:Int)<0)=false:=decide_eq_false aa
    have kst:=ud p aa h4 h5
    have n1:=hsm p aa h4
    rw[step_mk aa h4 hkc]at kst n1
    have hn:iz r (k+1) ⟨el a c,[],1⟩=⟨dM (aP w p pv.length) pv.length k,pv++[k],(if p=pv.length then d else - d)*aP w p pv.length pv.length k⟩:=by
     rw[Rg]
     unfold jT
     simp only
     rw[o0 h3 aa h6 h5]
    have e7:=nV (l:=pv.map cY) (x:=(k:Int))
    rw[lpm]at e7
    have e8:(pv++[k]).map cY=pv.map cY++[(k:Int)]:=by rw[List.map_append];rfl
    rw[←e8]at e7
    have e9:(pv++[k]).length=pv.length+1:=by rw[List.length_append];rfl
    have n2:Sm (4^(pv++[k]).length*A) (mk r c (dM (aP w p pv.length) pv.length k)):=by
     rw[e9,Nat.pow_succ,Nat.mul_comm (4^_) 4,Nat.mul_assoc];exact n1
    clear ud hsm Ha F9
    conv=>whnf
    (repeat((first|refine ae rfl rfl ?_|refine aC Q3 ?_|refine aS (by assumption) ?_|rw[s1]|rw[s3]|rw[t2]);conv=>whnf))
    refine⟨c - (k+1),cE [(47,2001)],[1,2,4,5],[1,2,47],aa,av,k+1,_,_,_,rfl,hkc,hn,n2,by rw[e9];rfl, ?_⟩
    rw[e7];rfl
 ·have t1:=dA hkc
  obtain rfl:k=c:=aa
  obtain⟨rfl,rfl,rfl⟩:=St.mk.inj (hS.symm.trans ga)
  (repeat(first|(refine ae rfl rfl ?_;conv=>whnf)|(rw[t1];conv=>whnf)))
  (first|exact au.refl _|exact mu.kF (au.refl _) rfl|(refine mu.one rfl rfl ?_;skip)|(refine mu.ck ?_;(repeat(first|exact dF.bP rfl|exact kC.nil|refine kC.cons ?_ ?_|(refine dF.ints rfl ?_;(first|rfl|omega|(simp<;>fail)|(simp<;>omega)))))))
theorem Io {P:Program} {o:Oper} {ft:List (Nat×SV)} {fk:List (Nat×aF)} {cs:List SV} {c:SV} {S:TypeId} {x:Operand} {j off e:Nat} {ti te:TI} {fs:List (Nat×TypeId×Nat)} {l:List SV} (ho:o.op= .field S x j) (hx:bp ft x (.agg cs)) (ht:aG P S ti)
  (hk:ti.kind= .agg fs) (hj:fs[j]? =some (off,e,1)) (hs:sub 64 cs off 1=some l) (he:aG P e te) (hna:te.kind.isAgg=false) (hsh:eC te l=some c):bS P o ft fk c [] []:=
 bw fun ρ a w hp=>by
  have hv:=hx ρ a hp.dy
  simp only[Has,aL]at hv
  obtain⟨x',⟨z,h2,rfl⟩,hv⟩:=hv
  obtain⟨y,g1,g2,g3⟩:=pq 64 cs off 1 l z hs h2
  have g3:=g3.resolve_left aI
  have yR:=ht.kind
  rw[hk]at yR
  obtain⟨k1,k2,k3⟩:=yR
  have hf:∃fd,(P.fieldsOf S)[j]? =some fd∧fd.offset=off∧fd.type=e:=by
   rw[←k2,List.getElem?_map]at hj
   cases hq:(P.fieldsOf S).toList[j]? with
   |none=>rw[hq]at hj;simp at hj
   |some fd=>
    rw[hq]at hj
    simp only[Option.map_some,Option.some.injEq,Prod.mk.injEq]at hj
    exact⟨fd,by simpa using hq,hj.1,hj.2.1⟩
  obtain⟨fd,f1,f2,f3⟩:=hf
  have aE:off<z.flatten.length:=aa
  have Ji:z.flatten[off]? =some (y.flatten.headD undef):=by
   rw[g2,List.getElem?_eq_getElem aE,List.drop_eq_getElem_cons aE];rfl
  refine⟨y.flatten.headD undef, ?_,jd hsh g1 (by rw[hna];rfl)⟩
  have cc:(part e z.flatten.toArray off).run P w= .ok (y.flatten.headD undef) w:=by
   unfold part
   rw[Sem.run_bind,he.isAgg]
   simp[hna,Ji]
  have hv':a.eval x= .agg z.flatten.toArray:=by rw[hv];rfl
  simp only[execOp,ho,Instr.field,hv',asAgg,Sem.run_bind,Sem.run_pure,Result.andThen_ok,run_underlying k1,f1,f2,f3,cc]
end Go.Proofs.YtfpagioknjjacaaGreatDoor
