/- The texts Xp, Xq, Jb, Ka, Kb, Kc, Kd, Ke, Kg, Kf, Kh, Kk, Ki, Km, Kn, Ko, Kw, Ia. -/
import Derived.Test.YtfpagioknjjacaaGreatDoorQMModesCount7
import Derived.Test.YtfpagioknjjacaaGreatDoorQMModesCount6
import Derived.Test.YtfpagioknjjacaaGreatDoorQMModesCount2
namespace Go.Proofs.YtfpagioknjjacaaGreatDoor
open Go.Sx
set_option linter.unusedSimpArgs false
set_option linter.unusedVariables false
set_option maxRecDepth 100000
set_option maxHeartbeats 4000000
theorem ET:∀k r i,i<k→(fQ k r).getD i 0=UInt8.ofNat (48+r/10^(k - 1 - i) % 10)
 |0,_,_,h=>absurd h (Nat.not_lt_zero _)
 |k+1,r,i,h=>by
  have hl:=mS k (r/10)
  rw[fQ]
  by_cases e:i=k
  ·subst e
   rw[List.getD_eq_getElem?_getD,List.getElem?_append_right aa,hl,Nat.sub_self,show i+1 - 1 - i=0 by omega,Nat.pow_zero,Nat.div_one]
   rfl
  ·have ih:=ET k (r/10) i aa
   rw[List.getD_eq_getElem?_getD]at ih
   rw[List.getD_eq_getElem?_getD,List.getElem?_append_left aa,ih,Nat.div_div_eq_div_mul,←Nat.pow_succ',Nat.succ_eq_add_one,show k - 1 - i+1=k+1 - 1 - i by omega]
theorem abX (n:Nat):∃e,(e=0∨10^e≤n)∧n<10^(e+1):=by
 induction n using Nat.strongRecOn with
 |ind n ih=>
  by_cases h:n<10
  ·exact⟨0,.inl rfl,by simpa using h⟩
  ·obtain⟨e,h1,h2⟩:=ih (n/10) aa
   rw[Nat.pow_succ]at h2
   refine⟨e+1,.inr ?_,by rw[Nat.pow_succ,Nat.pow_succ];omega⟩
   rw[Nat.pow_succ]
   rcases h1 with rfl|h1
   ·simp;omega
   ·omega
structure Rr (s:ByteArray) (n e:Nat):Prop where
 size:s.size=e+1
 get:∀j,j≤e→(s.data.getD j 0).toNat=48+n/10^(e - j) % 10
 top:e=0∨10^e≤n
 lt:n<10^(e+1)
theorem NG {x:Nat} (h:x<256):(UInt8.ofNat x).toNat=x:=by rw[UInt8.toNat_ofNat'];omega
theorem GW (n:Nat):∃e,Rr (tN n) n e:=by
 obtain⟨e,h1,h2⟩:=abX n
 refine⟨e, ?_,fun j hj=> ?_,h1,h2⟩
 ·rw[og,←pc e n h2 h1]
  show(fQ (e+1) n).toArray.size=_
  rw[List.size_toArray,mS]
 ·rw[og,←pc e n h2 h1]
  show((fQ (e+1) n).toArray.getD j 0).toNat=_
  rw[Array.getD_eq_getD_getElem?,List.getElem?_toArray,←List.getD_eq_getElem?_getD,ET _ _ _ aa,NG aa,show e+1 - 1 - j=e - j by omega]
section
variable {s:ByteArray} {n e:Nat} (h:Rr s n e)
include h
theorem Rr.first (h1:0<e):(s.data.getD 0 0).toNat≠48:=by
 have h2:=h.top.resolve_left aa
 have h3:=h.lt
 rw[Nat.pow_succ]at h3
 rw[h.get 0 aa,Nat.sub_zero]
 have h4:1≤n/10^e:=(Nat.le_div_iff_mul_le (Nat.pow_pos aH)).2 aa
 have h5:n/10^e<10:=(Nat.div_lt_iff_lt_mul (Nat.pow_pos aH)).2 aa
 omega
theorem Rr.dig {j:Nat} (hj:j≤e):48≤(s.data.getD j 0).toNat∧(s.data.getD j 0).toNat≤57:=by
 rw[h.get j hj];omega
theorem Rr.next {st i:Nat} (hs:st≤i) (hi:i≤e):10*(n/10^(e+1 - i) % 10^(i - st))+((s.data.getD i 0).toNat - 48)=n/10^(e+1 - (i+1)) % 10^(i+1 - st):=by
 rw[h.get i hi,show e+1 - (i+1)=e - i by omega,show e+1 - i=e - i+1 by omega,show i+1 - st=i - st+1 by omega,Nat.pow_succ,←Nat.div_div_eq_div_mul]
 generalize n/10^(e - i)=m
 rw[Nat.pow_succ',Nat.mod_mul]
 omega
end
def JR (n r:Nat):List Int:=(List.range r).map fun i=>((n/10000^i % 10000:Nat):Int)
theorem Ir (n r:Nat):(JR n r).length=r:=by simp[JR]
theorem Is {n r i:Nat} (h:i<r):(JR n r).getD i 0=((n/10000^i % 10000:Nat):Int):=by simp[JR,List.getD_eq_getElem?_getD,h]
theorem NH (n r:Nat):JR n (r+1)=JR n r++[((n/10000^r % 10000:Nat):Int)]:=by simp[JR,List.range_succ]
theorem abY (n r:Nat):W4 (JR n r):=fun i=>by
 by_cases h:i<r
 ·rw[Is h];omega
 ·rw[dy (by rw[Ir];omega)];omega
theorem Rs {n r:Nat} (h:n<10000^r):(a6 (JR n r) r).toNat=n:=by
 rw[lg (ys:=td n) fun i hi=>by rw[Is hi,yI]]
 rw[jS n r (eM h)];rfl
theorem Rr.word {s:ByteArray} {n e:Nat} (h:Rr s n e) {r:Nat} (hr:4*r≤e):n/10^(e+1 - (e+1 - 4*r)) % 10^(e+1 - 4*r - (e+1 - 4*r - 4))=n/10000^r % 10000:=by
 rw[show e+1 - (e+1 - 4*r)=4*r by omega,Nat.pow_mul,show(10:Nat)^4=10000 from rfl]
 by_cases g:4*r+4≤e+1
 ·rw[show e+1 - 4*r - (e+1 - 4*r - 4)=4 by omega]
 ·have h1:n/10000^r<10^(e+1 - 4*r):=by
   rw[show(10000:Nat)=10^4 from rfl,←Nat.pow_mul]
   refine(Nat.div_lt_iff_lt_mul (Nat.pow_pos aH)).2 ?_
   rw[←Nat.pow_add,show e+1 - 4*r+4*r=e+1 by omega]
   exact h.lt
  rw[show e+1 - 4*r - (e+1 - 4*r - 4)=e+1 - 4*r by omega,Nat.mod_eq_of_lt h1,Nat.mod_eq_of_lt]
  refine Nat.lt_of_lt_of_le h1 ?_
  exact Nat.pow_le_pow_right aH (show _≤4 by omega)
theorem It {n e j:Nat} {s:ByteArray} (h:Rr s n e) (hj:j≤e) {c:Nat} (hc:c<48):(s.data.getD j 0).toNat≠c:=by
 have:=(h.dig hj).1;omega
theorem sW (a b:ByteArray) (j:Nat):(a++b).data.getD j 0=if j<a.size then a.data.getD j 0 else b.data.getD (j - a.size) 0:=by
 rw[ByteArray.data_append,Array.getD_eq_getD_getElem?,Array.getElem?_append]
 have e:a.data.size=a.size:=rfl
 rw[e]
 split<;>rw[Array.getD_eq_getD_getElem?]
theorem ll (a b:ByteArray):(a++b).size=a.size+b.size:=by
 show(a++b).data.size=a.data.size+b.data.size
 rw[ByteArray.data_append,Array.size_append]
theorem EU (a b:ByteArray):(a++b).extract 0 a.size=a:=by
 apply ByteArray.ext
 rw[ByteArray.data_extract,ByteArray.data_append]
 apply Array.ext'
 rw[Array.toList_extract,Array.toList_append]
 have:a.size=a.data.toList.length:=by rw[Array.length_toList];rfl
 rw[this]
 simp[List.extract]
theorem A4 (a b:ByteArray) {k n:Nat} (hk:k=a.size) (hn:n=a.size+b.size):(a++b).extract k n=b:=by
 subst hk hn
 apply ByteArray.ext
 rw[ByteArray.data_extract,ByteArray.data_append]
 apply Array.ext'
 rw[Array.toList_extract,Array.toList_append]
 have h1:a.size=a.data.toList.length:=by rw[Array.length_toList];rfl
 have h2:b.size=b.data.toList.length:=by rw[Array.length_toList];rfl
 rw[h1,h2]
 simp[List.extract]
 exact List.take_of_length_le (by rw[h2];exact Nat.le_refl _)
theorem EV {s:ByteArray} {n e:Nat} (h:Rr s n e) (he:e<4096):af Tryz.prog 312 [.val (.string s)] [] (.cC [nN n,.val (.int .i64 0)]) [] []:=by
 have hz:=h.size
 have t1:decide ((s.size:Int)>4096)=false:=decide_eq_false aa
 have t2:((s.size:Int)==0)=false:=beq_eq_false_iff_ne.2 aa
 obtain⟨b,c,hb,hc,UZ⟩:∃b c,((((s.data.getD (0:Int).toNat 0).toNat:Nat):Int)==48)=b∧decide ((s.size:Int)>1)=c∧(b&&c)=false:=by
  refine⟨_,_,rfl,rfl, ?_⟩
  by_cases h0:0<e
  ·have:=h.first h0
   rw[beq_eq_false_iff_ne.2 (show(((s.data.getD (0:Int).toNat 0).toNat:Nat):Int)≠48 from fun g=>this (by have g:(((s.data.getD 0 0).toNat:Nat):Int)=48:=g;omega))];rfl
  ·rw[decide_eq_false (show ¬(s.size:Int)>1 by omega),Bool.and_false]
 cases b<;>cases c<;>first|exact absurd UZ aH|skip
 all_goals
  clear UZ
  refine qU [] Tryz.func312 ?_
  intro w0 ρ0 hE
  conv=>whnf
  (repeat((first|refine ah rfl rfl ?_|refine ag rfl rfl ?_|refine av Q3 ?_|refine aC iT ?_|refine aC ik ?_|rw[t1]|rw[t2]|rw[hb]|rw[hc]);conv=>whnf))
  refine az hE (fun k=>k) [0,4,5] [] (fun m fr hp=>∃i:Nat,m=e+1 - i∧i≤e+1∧fr=[(0,.val (.string s)),(4,.val (.slice none 0 0)),(5,.val (.int .i64 (i:Nat)))]∧hp=[]) (e+1) ?_ ?_ ?_
  ·kernel_rfl
  ·exact⟨0,rfl,Nat.zero_le _,rfl,rfl⟩
  rintro m _ _ ⟨i,rfl,hi,rfl,rfl⟩
  by_cases aI:i<e+1
  ·have t3:decide ((i:Int)<(s.size:Int))=true:=decide_eq_true aa
   have t4:=cp (i:=i) aa
   have hd:=h.dig (j:=i) aa
   have t5:decide ((((s.data.getD i 0).toNat:Nat):Int)<48)=false:=decide_eq_false aa
   have t6:decide ((((s.data.getD i 0).toNat:Nat):Int)>57)=false:=decide_eq_false aa
   conv=>whnf
   (repeat((first|refine ah rfl rfl ?_|refine ag rfl rfl ?_|refine av Q3 ?_|refine aC ik ?_|rw[t3]|rw[t5]|rw[t6]|rw[t4]|rw[Int.toNat_natCast]);conv=>whnf))
   exact⟨e+1 - (i+1),fun k=>k,[0,4,5],[],aa,aF,i+1,rfl,aI,rfl,rfl⟩
  have t3:decide ((i:Int)<(s.size:Int))=false:=decide_eq_false aa
  conv=>whnf
  (repeat(first|(refine ag rfl rfl ?_;conv=>whnf)|(rw[t3];conv=>whnf)))
  refine dU (t:=4) (k:=2001) (s:=1) (blk:=uH []) rfl rfl rfl ?_
  refine cn hE (fun k=>k) [0,4,6] [2001] (fun m fr hp=>∃(r:Nat) (E:Int),m=e+4 - 4*r∧4*r≤e+4∧E=(e:Int)+1 - 4*r∧fr=[(0,.val (.string s)),(4,.aK 2001 1 0 r),(6,.val (.int .i64 E))]∧hp=[(2001,uH (JR n r))]) (e+4) ?_ ?_ ?_
  ·kernel_rfl
  ·exact⟨0,(e:Int)+1,rfl,aa,aa,by rw[hz];rfl,rfl⟩
  rintro m _ _ ⟨r,E,rfl,hr,hE2,rfl,rfl⟩
  have lw:=Ir n r
  by_cases gN:4*r≤e
  ·obtain⟨q,hq⟩:∃q:Nat,E=q:=⟨e+1 - 4*r,aa⟩
   subst hq
   obtain rfl:q=e+1 - 4*r:=aa
   have hw:=h.word gN
   generalize hqe:e+1 - 4*r=q at*
   have t4:decide ((q:Int)>0)=true:=decide_eq_true aa
   have e5:IntKind.i64.wrap ((q:Int) - 4)=(q:Int) - 4:=wrap_i64 aa aa
   have e6:(if (q:Int) - 4>0 then(q:Int) - 4 else 0)=((q - 4:Nat):Int):=by split<;>omega
   refine dG.of hE ?_
   conv=>whnf
   (repeat((first|refine ah rfl rfl ?_|rw[t4]|rw[e5]|rw[e6]);conv=>whnf))
   refine cn hE (fun k=>k) [0,4,6,7,8] [2001] (fun m fr hp=>∃i:Nat,m=q - i∧q - 4≤i∧i≤q∧fr=[(0,.val (.string s)),(4,.aK 2001 1 0 r),(6,.val (.int .i64 (q:Nat))),(7,.val (.int .i64 (n/10^(e+1 - i) % 10^(i - (q - 4)):Nat))),(8,.val (.int .i64 (i:Nat)))]∧hp=[(2001,uH (JR n r))]) (q - (q - 4)) ?_ ?_ ?_
   ·kernel_rfl
   ·refine⟨q - 4,aa,Nat.le_refl _,aa, ?_,rfl⟩
    rw[Nat.sub_self,Nat.pow_zero,Nat.mod_one];rfl
   rintro m _ _ ⟨i,rfl,hi1,Uv,rfl,rfl⟩
   by_cases hiq:i<q
   ·have t6:=jD hiq
    have t7:=cp (i:=i) aa
    have hn:=h.next hi1 (show i≤e by omega)
    have hd:=h.dig (j:=i) aa
    have hD:n/10^(e+1 - i) % 10^(i - (q - 4))<10000:=Nat.lt_of_lt_of_le (Nat.mod_lt _ (Nat.pow_pos aH)) (Nat.pow_le_pow_right aH (show _≤4 by omega))
    have hiz:i<s.size:=aa
    generalize n/10^(e+1 - i) % 10^(i - (q - 4))=D at*
    obtain⟨D2,hD2⟩:∃D2,n/10^(e+1 - (i+1)) % 10^(i+1 - (q - 4))=D2:=⟨_,rfl⟩
    rw[hD2]at hn
    generalize Uz:(s.data.getD i 0).toNat=cc at*
    have e7:IntKind.i64.wrap (10*(D:Int))=((10*D:Nat):Int):=by rw[wrap_i64 aa aa];omega
    have e8:IntKind.u8.wrap ((cc:Int) - 48)=((cc - 48:Nat):Int):=by rw[IntKind.wrap_u8];omega
    have e9:IntKind.i64.wrap ((cc - 48:Nat):Int)=((cc - 48:Nat):Int):=wrap_i64 aa aa
    have Pf:IntKind.i64.wrap (((10*D:Nat):Int)+((cc - 48:Nat):Int))=(D2:Int):=by rw[wrap_i64 aa aa];omega
    refine dG.of hE ?_
    conv=>whnf
    (repeat((first|refine ah rfl rfl ?_|refine av Q3 ?_|rw[t6]|rw[Uz]|rw[e7]|rw[e8]|rw[e9]|rw[Pf]|rw[t7]|rw[Int.toNat_natCast]);conv=>whnf))
    refine⟨q - (i+1),fun k=>k,[0,4,6,7,8],[2001],aa,aF,i+1,rfl,aa,hiq, ?_,rfl⟩
    rw[hD2];rfl
   ·obtain rfl:i=q:=aa
    have t6:=jP hiq
    rw[show n/10^(e+1 - i) % 10^(i - (i - 4))=n/10000^r % 10000 from hw]
    have hsn:=NH n r
    generalize n/10000^r % 10000=w at*
    refine dG.of hE ?_
    conv=>whnf
    (repeat((first|refine ag rfl rfl ?_|refine av Q3 ?_|rw[t6]|rw[e5]);conv=>whnf))
    refine⟨e+4 - 4*(r+1),dc [(66,2001)],[0,4,6],[66],aa,aF,r+1,_,rfl,aa,aa,rfl, ?_⟩
    rw[hsn,←sQ lw];rfl
  ·have t4:decide (E>0)=false:=decide_eq_false aa
   have kt:=yJ (JR n r) aa (abY n r)
   rw[lw,Rs (Nat.lt_of_lt_of_le h.lt (by
    rw[show(10000:Nat)=10^4 from rfl,←Nat.pow_mul]
    exact Nat.pow_le_pow_right aH aa))]at kt
   refine mR 4 2001 (fun _ h=>h) rfl rfl lw.symm ?_
   generalize JR n r=L at*
   subst lw
   refine dG.of hE ?_
   conv=>whnf
   (repeat(first|(refine ag rfl rfl ?_;conv=>whnf)|(refine a8 (by assumption) ?_;conv=>whnf)|(rw[t4];conv=>whnf)));exact Q4
theorem U1 {n:Nat} (h:n≠0):(((td n).length:Nat):Int)≠0:=fun g=>h (fc.1 aa)
theorem NI (z:Int) (hz:sz z.natAbs≤4000):af Tryz.prog 311 [.val (.string (tZ z))] [] (.cC [zZ z,.val (.int .i64 0)]) [] []:=by
 obtain⟨e,hD⟩:=GW z.natAbs
 have fG:=jw z.natAbs
 have UQ:=hD.size
 have k1:=EV hD aa
 have htd:(td z.natAbs).length<1099511627776:=Nat.lt_of_le_of_lt (yM hz) aH
 by_cases h:z<0
 ·have k2:=ff (neg:=true) (n:=z.natAbs) (z:=z) (by unfold signed;rw[if_pos rfl];omega) htd
  have e1:tZ z= "-".toUTF8++tN z.natAbs:=by rw[tZ,if_pos h]
  have z1: "-".toUTF8.size=1:=rfl
  have oe:(tZ z).size=e+2:=by rw[e1,ll,UQ];omega
  have g0:((tZ z).data.getD 0 0).toNat=45:=by rw[e1,sW,if_pos aH];rfl
  have x1:(tZ z).extract 1 (e+2)=tN z.natAbs:=by rw[e1];exact A4 _ _ rfl aa
  have n1:=U1 (n:=z.natAbs) aa
  generalize tZ z=s at*
  generalize tN z.natAbs=u at*
  generalize z.natAbs=m at*
  have t1:decide ((s.size:Int)>0)=true:=decide_eq_true aa
  have t2:((((s.data.getD (0:Int).toNat 0).toNat:Nat):Int)==45)=true:=by rw[show s.data.getD (0:Int).toNat 0=s.data.getD 0 0 from rfl,g0];rfl
  have t3:((((td m).length:Nat):Int)==0)=false:=beq_eq_false_iff_ne.2 n1
  have x2:s.extract (1:Int).toNat s.size=u:=by rw[oe];exact x1
  refine qU [] Tryz.func311 ?_
  intro w0 ρ0 hE
  conv=>whnf
  (repeat((first|refine ah rfl rfl ?_|refine ag rfl rfl ?_|refine av Q3 ?_|refine a8 (by assumption) ?_|refine aC iT ?_|rw[bne_self_eq_false]|refine aC Q7 ?_|rw[t1]|rw[t2]|rw[x2]|rw[t3]|rw[Int.toNat_natCast]);conv=>whnf));exact Q4
 ·have k2:=ff (neg:=false) (n:=z.natAbs) (z:=z) (by unfold signed;rw[if_neg aH];omega) htd
  have e1:tZ z=tN z.natAbs:=by rw[tZ,if_neg h]
  rw[e1]
  have g0:=It hD (j:=0) (Nat.zero_le _) (c:=45) aH
  generalize tN z.natAbs=s at*
  generalize z.natAbs=m at*
  have t1:decide ((s.size:Int)>0)=true:=decide_eq_true aa
  have t2:((((s.data.getD (0:Int).toNat 0).toNat:Nat):Int)==45)=false:=beq_eq_false_iff_ne.2 (fun g=>g0 (by have g:(((s.data.getD 0 0).toNat:Nat):Int)=45:=g;omega))
  refine qU [] Tryz.func311 ?_
  intro w0 ρ0 hE
  conv=>whnf
  (repeat((first|refine ah rfl rfl ?_|refine ag rfl rfl ?_|refine av Q3 ?_|refine a8 (by assumption) ?_|refine aC iT ?_|refine aC ik ?_|rw[t1]|rw[t2]);conv=>whnf));exact Q4
theorem U2 (z:Int) {j:Nat} (hj:j<(tZ z).size):((tZ z).data.getD j 0).toNat≠47:=by
 obtain⟨e,hD⟩:=GW z.natAbs
 have UQ:=hD.size
 by_cases h:z<0
 ·have e1:tZ z= "-".toUTF8++tN z.natAbs:=by rw[tZ,if_pos h]
  have z1: "-".toUTF8.size=1:=rfl
  rw[e1,ll]at hj
  rw[e1,sW]
  split
  ·rename_i g
   obtain rfl:j=0:=aa
   decide
  ·exact It hD aa aH
 ·rw[tZ,if_neg h]at hj ⊢
  exact It hD aa aH
theorem NJ (q:Rat) (h:fs q≤4000):af Tryz.prog 238 [.val (.string (tQ q))] [] (.cC [fF q,.val (.int .i64 0)]) [] []:=by
 have f1:=dz q
 have f2:=dq q
 unfold fs at h
 have k1:=NI q.num aa
 obtain⟨e,hD⟩:=GW q.den
 have fG:=jw q.den
 have hzs:=sR q.num
 have UQ:=hD.size
 have k2:=EV hD aa
 have k3:=wC q.num q.den q.den_nz (Nat.lt_of_le_of_lt (yM (M:=4000) aa) aH) (Nat.lt_of_le_of_lt (yM (M:=4000) aa) aH)
 rw[Rat.mkRat_self]at k3
 have hp:(tZ q.num).size≤(tQ q).size∧(tQ q).size≤9000∧(∀i,i<(tQ q).size→(((tQ q).data.getD i 0).toNat=47↔i=(tZ q.num).size))∧(tQ q).extract 0 (tZ q.num).size=tZ q.num∧
   ((q.den=1∧(tQ q).size=(tZ q.num).size)∨(q.den≠1∧(tQ q).size≠(tZ q.num).size∧(tQ q).extract ((tZ q.num).size+1) (tQ q).size=tN q.den)):=by
  by_cases hd:q.den=1
  ·have e1:tQ q=tZ q.num:=by rw[tQ,if_pos hd]
   rw[e1]
   refine⟨Nat.le_refl _,aa,fun i hi=>⟨fun g=>absurd g (U2 _ hi),fun g=>aa⟩, ?_,.inl ⟨hd,rfl⟩⟩
   have:=EU (tZ q.num) .empty
   rwa [ByteArray.append_empty]at this
  ·have e1:tQ q=tZ q.num++ "/".toUTF8++tN q.den:=by rw[tQ,if_neg hd]
   have z1: "/".toUTF8.size=1:=rfl
   have oe:(tQ q).size=(tZ q.num).size+1+(tN q.den).size:=by rw[e1,ll,ll,z1]
   refine⟨aa,aa,fun i hi=> ?_, ?_,.inr ⟨hd,aa, ?_⟩⟩
   ·rw[e1,sW,ll,z1]
    by_cases g1:i<(tZ q.num).size+1
    ·rw[if_pos g1,sW]
     by_cases g2:i<(tZ q.num).size
     ·rw[if_pos g2]
      exact⟨fun g=>absurd g (U2 _ g2),fun g=>aa⟩
     ·obtain rfl:i=(tZ q.num).size:=aa
      rw[if_neg g2,Nat.sub_self]
      exact⟨fun _=>rfl,fun _=>rfl⟩
    ·rw[if_neg g1]
     exact⟨fun g=>absurd g (It hD aa aH),fun g=>aa⟩
   ·rw[e1,ByteArray.append_assoc];exact EU _ _
   ·rw[oe,e1];exact A4 _ _ (by rw[ll,z1]) (by rw[ll,z1])
 obtain⟨h1,h2,h3,h4,h5⟩:=hp
 have hdn:=U1 q.den_nz
 replace h4:(tQ q).extract (0:Int).toNat (tZ q.num).size=tZ q.num:=h4
 generalize tQ q=s at*
 generalize tZ q.num=u at*
 generalize tN q.den=v at*
 refine qU [] Tryz.func238 ?_
 intro w0 ρ0 hE
 conv=>whnf
 have e0:IntKind.i64.wrap ((s.size:Int) - 1)=(s.size:Int) - 1:=wrap_i64 aa aa
 (repeat(first|(rw[e0];conv=>whnf)))
 refine az hE (fun k=>k) [0,2,4,5] [2] (fun m fr hp=>∃j:Nat,m=j∧j≤s.size∧fr=[(0,.val (.string s)),(2,.ptr 2 0 0 0),(4,.val (.int .i64 ((if j≤u.size then u.size else s.size:Nat):Int))),(5,.val (.int .i64 ((j:Int) - 1)))]∧hp=[(2,EN)]) s.size ?_ ?_ ?_
 ·kernel_rfl
 ·refine⟨s.size,rfl,Nat.le_refl _, ?_,rfl⟩
  by_cases g:s.size≤u.size
  ·rw[if_pos g,show u.size=s.size by omega];rfl
  ·rw[if_neg g];rfl
 rintro m _ _ ⟨j,rfl,hj,rfl,rfl⟩
 by_cases hj0:0<m
 ·obtain⟨i,rfl⟩:∃i,m=i+1:=⟨m - 1,aa⟩
  rw[show(((i+1:Nat):Int) - 1)=(i:Int) by omega]
  have t1:decide ((i:Int)≥0)=true:=decide_eq_true aa
  have e1:IntKind.i64.wrap ((i:Int) - 1)=(i:Int) - 1:=wrap_i64 aa aa
  have hi:i<s.size:=aa
  have h6:=h3 i hi
  by_cases g:i=u.size
  ·have t2:((((s.data.getD i 0).toNat:Nat):Int)==47)=true:=by rw[h6.2 g];rfl
   conv=>whnf
   (repeat((first|refine ah rfl rfl ?_|refine av Q3 ?_|rw[t1]|rw[t2]|rw[e1]|rw[Int.toNat_natCast]);conv=>whnf))
   refine⟨i,fun k=>k,[0,2,4,5],[2],aa,aF,i,rfl,aa, ?_,rfl⟩
   rw[if_pos (show i≤u.size by omega),g];rfl
  ·have t2:((((s.data.getD i 0).toNat:Nat):Int)==47)=false:=beq_eq_false_iff_ne.2 fun g2=>g (h6.1 aa)
   have e2:(if i+1≤u.size then u.size else s.size)=if i≤u.size then u.size else s.size:=by
    by_cases g2:i≤u.size
    ·rw[if_pos g2,if_pos aa]
    ·rw[if_neg g2,if_neg aa]
   rw[e2]
   obtain⟨cc,Uz⟩:∃cc,(if i≤u.size then u.size else s.size)=cc:=⟨_,rfl⟩
   rw[Uz]
   conv=>whnf
   (repeat((first|refine ah rfl rfl ?_|refine ag rfl rfl ?_|refine av Q3 ?_|rw[t1]|rw[t2]|rw[e1]|rw[Int.toNat_natCast]);conv=>whnf))
   refine⟨i,fun k=>k,[0,2,4,5],[2],aa,aF,i,rfl,aa, ?_,rfl⟩
   rw[Uz];rfl
 ·obtain rfl:m=0:=aa
  have t1:decide ((((0:Nat):Int) - 1)≥0)=false:=rfl
  rw[if_pos (Nat.zero_le _)]
  rcases h5 with⟨hd,h5⟩|⟨hd,h5,h6⟩
  ·have t2:((u.size:Int)==(s.size:Int))=true:=beq_iff_eq.2 aa
   have eF:fF q= .agg [zZ q.num,ed 1 []]:=by rw[fF,hd];rfl
   rw[eF]
   conv=>whnf
   (repeat((first|refine ah rfl rfl ?_|refine ag rfl rfl ?_|refine av Q3 ?_|refine a8 (by assumption) ?_|rw[bne_self_eq_false]|rw[t1]|rw[h4]|rw[t2]|rw[Int.toNat_natCast]);conv=>whnf));(first|exact aq.refl _|exact ov.nx (aq.refl _) rfl|(refine ov.one rfl rfl ?_;skip)|(refine ov.cC ?_;(repeat(first|exact dM.bA rfl|exact nv.nil|refine nv.cons ?_ ?_|exact dM.V1|refine dM.agg ?_))))
  ·have t2:((u.size:Int)==(s.size:Int))=false:=beq_eq_false_iff_ne.2 aa
   have e1:IntKind.i64.wrap ((u.size:Int)+1)=((u.size+1:Nat):Int):=by rw[wrap_i64 aa aa];omega
   have t3:((((td q.den).length:Nat):Int)==0)=false:=beq_eq_false_iff_ne.2 hdn
   conv=>whnf
   (repeat((first|refine ag rfl rfl ?_|refine av Q3 ?_|refine a8 (by assumption) ?_|rw[bne_self_eq_false]|refine aC Q7 ?_|rw[t1]|rw[h4]|rw[t2]|rw[e1]|rw[h6]|rw[t3]|rw[Int.toNat_natCast]);conv=>whnf));exact Q4
theorem NK (q:Rat) (h:fs q≤4000):af Tryz.prog 137 [.val (.string (tQ q))] [] (.cC [fF q,.val (.bool true)]) [] []:=by
 have k1:=NJ q h
 refine cj [4] Tryz.func137 ?_
 intro W0 w0 ρ0 hE
 conv=>whnf
 (repeat(first|(refine a8 (by assumption) ?_;conv=>whnf)|(rw[beq_self_eq_true];conv=>whnf)));exact Q4
abbrev Iu (r c:Nat) (a v w:List Rat):Rat:=DY v (gZ r c a w)
def SymM (n:Nat) (a:List Rat):Prop:=∀i k,i<n→k<n→el a n i k=el a n k i
theorem sX {n:Nat} {a:List Rat} (ha:a.length=n*n) (h:SymM n a):vo n n a=a:=abn ha fun i k hi hk=>h k i hk hi
theorem CJ {a:List Rat} {n i k j l:Nat} {q:Rat} (ha:a.length=n*n) (hi:i<n) (hk:k<n) (hj:j<n) (hl:l<n):el (a.set (i*n+k) q) n j l=if i=j∧k=l then q else el a n j l:=by
 have h1:=eH hi hk
 have h2:=eH hj hl
 simp only[el,List.getD_eq_getElem?_getD,List.getElem?_set]
 by_cases e:i*n+k=j*n+l
 ·have e1:=congrArg (·/n) e
  have e2:=congrArg (· % n) e
  simp only[we hk,we hl,wg hk,wg hl]at e1 e2
  subst e1 e2
  simp[ha,h1]
 ·rw[if_neg e,if_neg (by rintro⟨rfl,rfl⟩;exact e rfl)]
theorem NL {a:List Rat} {n i k:Nat} {q:Rat} (ha:a.length=n*n) (h:SymM n a) (hi:i<n) (hk:k<n):SymM n ((a.set (i*n+k) q).set (k*n+i) q):=by
 intro j l hj hl
 have hb:(a.set (i*n+k) q).length=n*n:=by rw[List.length_set,ha]
 rw[CJ hb hk hi hj hl,CJ hb hk hi hl hj,CJ ha hi hk hj hl,CJ ha hi hk hl hj]
 by_cases e1:k=j∧i=l
 ·rw[if_pos e1];split
  ·rfl
  ·rw[if_pos ⟨e1.2,e1.1⟩]
 ·rw[if_neg e1]
  by_cases e2:k=l∧i=j
  ·rw[if_pos e2,if_pos ⟨e2.2,e2.1⟩]
  ·rw[if_neg e2,if_neg (fun h=>e2 ⟨h.2,h.1⟩),if_neg (fun h=>e1 ⟨h.2,h.1⟩)];exact h j l hj hl
theorem NM {a:List Rat} {B p:Nat} {q:Rat} (h:Sm B a) (hq:fs q≤B):Sm B (a.set p q):=by
 intro i hi
 rw[List.length_set]at hi
 rw[List.getD_eq_getElem?_getD,List.getElem?_set]
 by_cases e:p=i
 ·subst e;simp[hi];exact hq
 ·rw[if_neg e,←List.getD_eq_getElem?_getD];exact h i hi
abbrev iv (n:Int):SV:=.val (.int .i64 n)
abbrev mA (r c:Int) (a:List Rat):SV:=.agg [iv r,iv c,cD a]
abbrev mC (r c:Int) (a:List Rat):List SV:=[iv r,iv c,cD a]
abbrev MV:=Int×Int×List Rat
abbrev mB (m:MV):SV:=mA m.1 m.2.1 m.2.2
def mi (r c:Int):Int:=if r<0∨c<0 then 1 else if r>2048∨c>2048 then 3 else 0
theorem CK (r c:Int):af Tryz.prog 197 [iv r,iv c] [] (iv (mi r c)) [] []:=by
 refine cj [] Tryz.func197 ?_
 intro W0 w0 ρ0 hE
 conv=>whnf
 unfold mi
 by_cases h1:r<0
 ·have t1:decide (r<0)=true:=decide_eq_true h1
  rw[if_pos (.inl h1)]
  (repeat((first|refine ah rfl rfl ?_|refine ag rfl rfl ?_|refine aC iT ?_|rw[t1]);conv=>whnf));exact Q4
 have t1:decide (r<0)=false:=decide_eq_false h1
 by_cases h2:c<0
 ·have t2:decide (c<0)=true:=decide_eq_true h2
  rw[if_pos (.inr h2)]
  (repeat((first|refine ah rfl rfl ?_|refine aC ik ?_|rw[t1]|rw[t2]);conv=>whnf));exact Q4
 have t2:decide (c<0)=false:=decide_eq_false h2
 rw[if_neg aa]
 by_cases h3:r>2048
 ·have t3:decide (r>2048)=true:=decide_eq_true h3
  rw[if_pos (.inl h3)]
  (repeat((first|refine ah rfl rfl ?_|refine ag rfl rfl ?_|refine aC iT ?_|refine aC ik ?_|rw[t1]|rw[t2]|rw[t3]);conv=>whnf));exact Q4
 have t3:decide (r>2048)=false:=decide_eq_false h3
 by_cases h4:c>2048
 ·have t4:decide (c>2048)=true:=decide_eq_true h4
  rw[if_pos (.inr h4)]
  (repeat((first|refine ah rfl rfl ?_|refine ag rfl rfl ?_|refine aC ik ?_|rw[t1]|rw[t2]|rw[t3]|rw[t4]);conv=>whnf));exact Q4
 have t4:decide (c>2048)=false:=decide_eq_false h4
 rw[if_neg aa]
 (repeat((first|refine ah rfl rfl ?_|refine ag rfl rfl ?_|refine aC ik ?_|rw[t1]|rw[t2]|rw[t3]|rw[t4]);conv=>whnf));exact Q4
theorem NN {r c:Int} (h:mi r c=0):(0≤r∧r≤2048)∧(0≤c∧c≤2048):=by
 unfold mi at h
 by_cases h1:r<0∨c<0
 ·rw[if_pos h1]at h;omega
 ·rw[if_neg h1]at h
  by_cases h2:r>2048∨c>2048
  ·rw[if_pos h2]at h;omega
  ·omega
theorem yP {r c:Int} (h:(0≤r∧r≤2048)∧(0≤c∧c≤2048)):mi r c=0:=by
 unfold mi;rw[if_neg aa,if_neg aa]
theorem Rt {r c:Int} (h:(0≤r∧r≤2048)∧(0≤c∧c≤2048)):0≤r*c∧r*c≤4194304:=by
 obtain⟨⟨a,b⟩,d,e⟩:=h
 refine⟨Int.mul_nonneg a d, ?_⟩
 exact Int.le_trans (Int.mul_le_mul b e d aH) aH
def pd (r c:Int) (n:Nat):Int:=if mi r c≠0 then mi r c else if (n:Int)≠r*c then 1 else 0
theorem Iv (r c:Int) (a:List Rat) (hn:a.length<1099511627776):af Tryz.prog 69 [mA r c a] [] (iv (pd r c a.length)) [] []:=by
 have k1:=CK r c
 refine cj [] Tryz.func69 ?_
 intro W0 w0 ρ0 hE
 conv=>whnf
 unfold pd
 by_cases h1:mi r c=0
 ·rw[if_neg aa]
  rw[h1]at k1
  have hp:=Rt (NN h1)
  have t2:IntKind.i64.wrap (r*c)=r*c:=wrap_i64 aa aa
  by_cases h2:(a.length:Int)=r*c
  ·have t3:((a.length:Int) != r*c)=false:=by rw[h2];exact bne_self_eq_false _
   rw[if_neg aa]
   clear hp
   (repeat((first|refine ag rfl rfl ?_|refine a8 (by assumption) ?_|rw[bne_self_eq_false]|refine aC Q7 ?_|rw[t2]|rw[t3]);conv=>whnf));exact Q4
  ·have t3:((a.length:Int) != r*c)=true:=bne_iff_ne.2 h2
   rw[if_pos h2]
   clear hp
   (repeat((first|refine ah rfl rfl ?_|refine ag rfl rfl ?_|refine a8 (by assumption) ?_|rw[bne_self_eq_false]|refine aC Q7 ?_|rw[t2]|rw[t3]);conv=>whnf));exact Q4
 ·have t1:(mi r c != 0)=true:=bne_iff_ne.2 h1
  rw[if_pos h1]
  (repeat(first|(refine ah rfl rfl ?_;conv=>whnf)|(refine a8 (by assumption) ?_;conv=>whnf)|(rw[t1];conv=>whnf)));exact Q4
theorem EW {r c:Nat} {n:Nat} (hr:r≤2048) (hc:c≤2048) (hn:n=r*c):pd r c n=0:=by
 unfold pd
 rw[yP aa,if_neg aa,if_neg (by rw[hn];push_cast;omega)]
structure ot (R C:Nat) (a:List Rat):Prop where
 r:R≤2048
 c:C≤2048
 n:a.length=R*C
theorem ot.small {r c:Nat} {a:List Rat} (h:ot r c a):a.length≤4194304:=by rw[h.n];exact Nat.mul_le_mul h.r h.c
theorem fT {r c:Nat} {a:List Rat} (h:ot r c a):af Tryz.prog 69 [mA r c a] [] (iv 0) [] []:=by
 have:=Iv r c a (by have:=h.small;omega)
 rwa [EW h.r h.c h.n]at this
def GX:List MV→Int
 |[]=>0
 |m::l=>if pd m.1 m.2.1 m.2.2.length≠0 then pd m.1 m.2.1 m.2.2.length else GX l
theorem drop_one {α:Type} {l:List α} {i:Nat} (d:α) (h:i<l.length):l.drop i=l.getD i d::l.drop (i+1):=by
 rw[List.drop_eq_getElem_cons h,List.getD_eq_getElem?_getD,List.getElem?_eq_getElem h];rfl
abbrev vO:MV:=(0,0,[])
theorem afS (l:List MV) (hl:l.length<1099511627776) (h:∀m∈l,m.2.2.length<1099511627776):af Tryz.prog 195 [bX 3 mB l] [] (iv (GX l)) [] []:=by
 refine cj [] Tryz.func195 ?_
 intro W0 w0 ρ0 hE
 conv=>whnf
 (repeat(first|(refine aC Q7 ?_;conv=>whnf)))
 refine az hE (fun k=>k) [0,6,7,8] [] (fun m fr hp=>∃i:Nat,m=l.length - i∧i≤l.length∧GX (l.drop i)=GX l∧fr=[(0,bX 3 mB l),(6,bX 3 mB l),(7,iv (l.length:Nat)),(8,iv (i:Nat))]∧hp=[]) l.length ?_ ?_ ?_
 ·kernel_rfl
 ·exact⟨0,rfl,Nat.zero_le _,rfl,rfl,rfl⟩
 rintro m _ _ ⟨i,rfl,hi,hs,rfl,rfl⟩
 conv=>whnf
 by_cases aI:i<l.length
 ·have t1:=jD aI
  have t2:=cp (i:=i) aa
  have k1:=Iv (l.getD i vO).1 (l.getD i vO).2.1 (l.getD i vO).2.2 (h _ (mE aI))
  rw[drop_one vO aI,GX]at hs
  by_cases hc:pd (l.getD i vO).1 (l.getD i vO).2.1 (l.getD i vO).2.2.length=0
  ·rw[if_neg aa]at hs
   rw[hc]at k1
   (repeat((first|refine ah rfl rfl ?_|refine ag rfl rfl ?_|refine a8 (by assumption) ?_|rw[bne_self_eq_false]|refine aC Q6 ?_|refine aC (fu (α:=MV) (d:=vO) rfl (ak rfl) (ak rfl) (dJ rfl) rfl (dJ rfl) rfl aa) ?_|rw[t1]|rw[t2]);conv=>whnf))
   exact⟨l.length - (i+1),fun k=>k,[0,6,7,8],[],aa,aF,i+1,rfl,aI,hs,rfl,rfl⟩
  ·have t3:(pd (l.getD i vO).1 (l.getD i vO).2.1 (l.getD i vO).2.2.length != 0)=true:=bne_iff_ne.2 hc
   rw[if_pos hc]at hs
   rw[←hs]
   (repeat((first|refine ah rfl rfl ?_|refine a8 (by assumption) ?_|refine aC Q6 ?_|refine aC (fu (α:=MV) (d:=vO) rfl (ak rfl) (ak rfl) (dJ rfl) rfl (dJ rfl) rfl aa) ?_|rw[t1]|rw[t3]);conv=>whnf));exact Q4
 ·have t1:=jP aI
  have hI:i=l.length:=aa
  rw[hI,List.drop_length]at hs
  rw[←hs]
  (repeat(first|(refine ag rfl rfl ?_;conv=>whnf)|(rw[t1];conv=>whnf)));exact Q4
theorem abZ {r c:Nat} {a:List Rat} (ha:ot r c a):af Tryz.prog 195 [bX 3 mB [((r:Int),(c:Int),a)]] [] (iv 0) [] []:=by
 have:=afS [((r:Int),(c:Int),a)] (by simp) (by
  intro m hm
  have h1:=ha.small
  simp only[List.mem_cons,List.not_mem_nil,or_false]at hm
  obtain rfl:=hm
  show a.length<_;omega)
 rwa [GX,if_neg (by rw[EW ha.r ha.c ha.n];decide),GX]at this
def nX (l:List (List Rat)):Int:=if l.any (fun v=>decide (2048<v.length))then 3 else 0
theorem Iw (ls:List (List Rat)) (hn:ls.length<1099511627776) (hl:∀v∈ls,v.length<1099511627776):af Tryz.prog 202 [bX 1 cD ls] [] (iv (nX ls)) [] []:=by
 refine cj [] Tryz.func202 ?_
 intro W0 w0 ρ0 hE
 conv=>whnf
 (repeat(first|(refine aC Q7 ?_;conv=>whnf)))
 refine az hE (fun k=>k) [0,5,6,7] [] (fun m fr hp=>∃i:Nat,m=ls.length - i∧i≤ls.length∧(∀j,j<i→decide (2048<(ls.getD j []).length)=false)∧fr=[(0,bX 1 cD ls),(5,bX 1 cD ls),(6,iv (ls.length:Nat)),(7,iv (i:Nat))]∧hp=[]) ls.length ?_ ?_ ?_
 ·kernel_rfl
 ·exact⟨0,rfl,Nat.zero_le _,(fun j hj=>aa),rfl,rfl⟩
 rintro m _ _ ⟨i,rfl,hi,hs,rfl,rfl⟩
 conv=>whnf
 by_cases aI:i<ls.length
 ·have t1:=jD aI
  have t2:=cp (i:=i) aa
  by_cases hL:2048<(ls.getD i []).length
  ·have t3:decide (((ls.getD i []).length:Int)>2048)=true:=decide_eq_true aa
   have e:nX ls=3:=by rw[nX,if_pos (Lr (d:=[]) aI (decide_eq_true hL))]
   rw[e]
   (repeat((first|refine ah rfl rfl ?_|refine aC Q7 ?_|refine aC Q6 ?_|refine aC Kk ?_|rw[t1]|rw[t3]);conv=>whnf));exact Q4
  ·have t3:decide (((ls.getD i []).length:Int)>2048)=false:=decide_eq_false aa
   (repeat((first|refine ah rfl rfl ?_|refine ag rfl rfl ?_|refine aC Q7 ?_|refine aC Q6 ?_|refine aC Kk ?_|rw[t1]|rw[t3]|rw[t2]);conv=>whnf))
   refine⟨ls.length - (i+1),fun k=>k,[0,5,6,7],[],aa,aF,i+1,rfl,aI, ?_,rfl,rfl⟩
   intro j hj
   by_cases vH:j=i
   ·rw[vH];exact decide_eq_false hL
   ·exact hs j aa
 ·have t1:=jP aI
  have hI:i=ls.length:=aa
  subst hI
  have e:nX ls=0:=by rw[nX,if_neg];rw[Ls [] hs];exact Bool.false_ne_true
  rw[e]
  (repeat(first|(refine ag rfl rfl ?_;conv=>whnf)|(rw[t1];conv=>whnf)));exact Q4
theorem pe {i k c:Nat} (hi:i≤2048) (hc:c≤2048) (hk:k≤2048):IntKind.i64.wrap ((i:Int)*(c:Int))=((i*c:Nat):Int)∧IntKind.i64.wrap (((i*c:Nat):Int)+(k:Int))=((i*c+k:Nat):Int):=by
 have h1:i*c≤2048*2048:=Nat.mul_le_mul hi hc
 constructor
 ·rw[←Int.natCast_mul,wrap_i64 aa aa]
 ·rw[wrap_i64 aa aa];omega
theorem ahZ {r c:Nat} {a:List Rat} (h:ot r c a) {i k:Nat} (hi:i<r) (hk:k<c):af Tryz.prog 102 [mA r c a,iv i,iv k] [] (.frac (el a c i k)) [] []:=by
 obtain⟨t1,t2⟩:=pe (i:=i) (k:=k) (c:=c) (by have:=h.r;omega) h.c (by have:=h.c;omega)
 have aI:=eH hi hk
 rw[←h.n]at aI
 refine cj [] Tryz.func102 ?_
 intro W0 w0 ρ0 hE
 conv=>whnf
 (repeat((first|refine aC Q6 ?_|refine aC Q18 ?_|rw[t1]|rw[t2]|rw[Int.toNat_natCast]);conv=>whnf));exact Q4
abbrev mT (a:List Rat) (c i:Nat):List Rat:=(a.drop (i*c)).take c
theorem fg {r c i:Nat} {a:List Rat} (hi:i<r) (h:a.length=r*c):(mT a c i).length=c:=by
 have:=Nat.mul_le_mul_right c (show i+1≤r from hi)
 rw[Nat.succ_mul]at this
 rw[List.length_take,List.length_drop];omega
theorem jx {a:List Rat} {c i k:Nat} (hk:k<c):(mT a c i).getD k 0=el a c i k:=by
 simp[List.getD_eq_getElem?_getD,hk]
theorem NO {i c:Nat} (hi:i≤2047) (hc:c≤2048):IntKind.i64.wrap ((i:Int)*(c:Int))=((i*c:Nat):Int)∧IntKind.i64.wrap (((i+1:Nat):Int)*(c:Int))=(((i+1)*c:Nat):Int)∧IntKind.i64.wrap ((i:Int)+1)=((i+1:Nat):Int):=
 ⟨(pe (i:=i) (k:=0) aa hc aa).1,(pe (i:=i+1) (k:=0) aa hc aa).1,cp aa⟩
theorem ab0 {r c:Nat} {a:List Rat} (h:ot r c a) {i:Nat} (hi:i<r):af Tryz.prog 203 [mA r c a,iv i] [] (cD (mT a c i)) [] []:=by
 obtain⟨t1,t2,t3⟩:=NO (i:=i) (c:=c) (by have:=h.r;omega) h.c
 have aI:=Nat.mul_le_mul_right c (show i+1≤r from hi)
 have hle:i*c≤(i+1)*c:=Nat.mul_le_mul_right c aa
 rw[←h.n]at aI
 have e1:(i+1)*c - i*c=c:=by rw[Nat.succ_mul];omega
 refine cj [] Tryz.func203 ?_
 intro W0 w0 ρ0 hE
 conv=>whnf
 (repeat((first|refine aB aF ?_|refine aC (Ah rfl (ak rfl) (eV rfl) (eV rfl) (.inr ⟨Option.some_ne_none _,_,_,rfl,ak rfl⟩) (dJ rfl) rfl (dJ rfl) rfl aa) ?_|rw[t1]|rw[t3]|rw[t2]|rw[e1]|rw[Int.toNat_natCast]);conv=>whnf))
 exact Q4
end Go.Proofs.YtfpagioknjjacaaGreatDoor
namespace Go.Sx
set_option linter.unusedSimpArgs false
set_option linter.unusedVariables false
section
variable {P:Program} {o:Oper} {ft:List (Nat×SV)} {fk:List (Nat×aA)}
theorem JS {t e:TypeId} {x lo hi mx:Operand} {ti te:TI} {k s i n:Nat} {l h:Int} {kl kh km:IntKind} (ho:o.op= .slice t x (some lo) (some hi) (some mx)) (hx:aZ ft x (.aK k s i n))
  (C0:aZ ft lo (.val (.int kl l))) (C1:aZ ft hi (.val (.int kh h))) (hmx:aZ ft mx (.val (.int km h)))
  (ht:aE P t ti) (hk:ti.kind= .aK e) (he:aE P e te) (hs:te.size=s) (hh:0≤l∧l≤h∧h≤n):bL P o ft fk (.aK k s (i+l.toNat) (h - l).toNat) [] []:=
 bo fun ρ a w hp=>by
  obtain⟨h0,hlh,hh⟩:=hh
  have hu:=ht.kind;rw[hk]at hu
  have key:∀(ad:Option Addr) (m cap:Nat),n=m→m≤cap→a.eval x= .slice ad m cap→
    (execOp a.eval o).run P w= .ok (.value (.slice (if h.toNat=l.toNat then ad else ad.map (·.add (l.toNat*s))) (h.toNat - l.toNat) (h.toNat - l.toNat))) w:=by
   intro ad m cap hnm hmc hv
   have hr:∀(z:Operand) (kd:IntKind) (bd:Nat),aZ ft z (.val (.int kd h))→h.toNat≤bd→∀q,(Instr.sliceBound (a.eval z) bd q).run P w= .ok h.toNat w:=by
    intro z kd bd hz hbd q
    have:=aJ (hz ρ a hp.dj)
    have hb:0≤h∧h≤(bd:Int):=aa
    simp[Instr.sliceBound,this,asIntOf,hb]
   have hl:∀q,(Instr.sliceBound (a.eval lo) h.toNat q).run P w= .ok l.toNat w:=by
    intro q
    have:=aJ (C0 ρ a hp.dj)
    have hb:0≤l∧l≤(h.toNat:Int):=aa
    simp only[Instr.sliceBound,this,asIntOf,Sem.run_bind,Sem.run_pure,Result.andThen_ok,hb,and_self,if_true]
   have q8:(Instr.sliceBounds true m cap (some (a.eval lo)) (some (a.eval hi)) (some (a.eval mx))).run P w= .ok (l.toNat,h.toNat,h.toNat) w:=by
    unfold Instr.sliceBounds
    simp[hr mx km cap hmx aa,hr hi kh h.toNat C1 (Nat.le_refl _),hl]
   simp only[execOp,ho,Option.map_some,Instr.sliceAt,Sem.run_bind,run_underlying hu,Result.andThen_ok,Instr.slice,hv,q8,he.sizeOf,hs,Sem.run_pure]
  rcases fh (hx ρ a hp.dj)with⟨b,t',cap,h1,h2,h3,h4⟩|⟨rfl,ad,h4⟩
  ·refine⟨_,key _ n cap rfl h2 h4,fW ?_⟩
   by_cases hc:h.toNat=l.toNat
   ·right
    have:h.toNat - l.toNat=0:=aa
    refine⟨aa,some ⟨b,i*s,none⟩, ?_⟩
    rw[if_pos hc,this]
   ·left
    refine⟨b,t',h.toNat - l.toNat,h1,aa, ?_, ?_⟩
    ·exact Nat.le_trans (Nat.mul_le_mul_right s (show i+l.toNat+(h.toNat - l.toNat)≤i+cap by omega)) h3
    ·rw[if_neg hc]
     have fB:(⟨b,i*s,none⟩:Addr).add (l.toNat*s)=⟨b,(i+l.toNat)*s,none⟩:=by
      unfold Addr.add
      rw[Nat.add_mul]
      split
      ·rename_i h0;simp[h0]
      ·rfl
     rw[Option.map_some,fB,show(h - l).toNat=h.toNat - l.toNat from by omega]
  ·refine⟨_,key ad 0 0 rfl (Nat.le_refl _) h4,fW (.inr ⟨aa,ad, ?_⟩)⟩
   have h1:l.toNat=0:=aa
   have h2:h.toNat=0:=aa
   simp[h1,h2]
theorem A5 {f:FuncId} {a b:List SV} {t t2:TypeId} {x y:Operand} {p r:Array TypeId} {v:Bool} (ho:o.op= .binOp .eql t x y t2) (hx:aZ ft x (.clo f a b)) (hy:aZ ft y (.val .nilFunc)) (hu:P.underlying t=some (.func p r v)):bL P o ft fk (.val (.bool false)) [] []:=
 bo fun ρ ac w hp=>by
  have h1:=hx ρ ac hp.dj
  simp only[Has,aG]at h1
  obtain⟨_,⟨fz,cz,_,_,rfl⟩,e1⟩:=h1
  have e2:=aJ (hy ρ ac hp.dj)
  simp only[ct,SV.aU,if_true,List.headD_cons]at e1
  have hq:∀d vs ws,(Op.equalIn (d+1) t (.func (.func f) vs ws) .nilFunc).run P w= .ok false w:=fun d vs ws=>by simp[Op.equalIn,run_underlying hu]
  have qn:∀vs ws,(Op.equal t (.func (.func f) vs ws) .nilFunc).run P w= .ok false w:=fun vs ws=>hq 9999 vs ws
  refine⟨_, ?_,bS rfl⟩
  simp[execOp,ho,e1,e2,eqGuard,binOp,qn]
end
end Go.Sx
namespace Go.Proofs.YtfpagioknjjacaaGreatDoor
open Go.Sx
set_option linter.unusedSimpArgs false
set_option linter.unusedVariables false
set_option maxRecDepth 100000
set_option maxHeartbeats 4000000
abbrev zM:aA:=⟨38,true,.one [iv 0,iv 0,.val (.slice none 0 0)]⟩
abbrev bM (r c K:Nat):aA:=⟨38,true,.one [iv r,iv c,.aK K 5 0 (r*c)]⟩
abbrev gk (l:List Rat):aA:=⟨52,true,.cd l⟩
theorem NP {r c:Nat} {a:List Rat} (h:ot r c a) {i:Nat} (hi:i<r) (K:Nat):af Tryz.prog 203 [.agg [iv r,iv c,.aK K 5 0 (r*c)],iv i] [(K,gk a)] (.aK K 5 (i*c) c) [] []:=by
 obtain⟨t1,t2,t3⟩:=NO (i:=i) (c:=c) (by have:=h.r;omega) h.c
 have aI:=Nat.mul_le_mul_right c (show i+1≤r from hi)
 have hle:i*c≤(i+1)*c:=Nat.mul_le_mul_right c aa
 have e1:(((i+1)*c:Nat) - (i*c:Nat):Int).toNat=c:=by rw[Nat.succ_mul];omega
 refine af.rL ?_
 refine gw (Z:=[]) aM bB Tryz.func203 rfl aF (args:=[.agg [iv r,iv c,.aK 1001 5 0 (r*c)],iv i]) (fk:=[(1001,⟨52,false,.cd a⟩)]) (c:=.aK 1001 5 (i*c) c) (new:=[]) (upd:=[]) (bV.of rfl rfl rfl rfl rfl rfl rfl rfl rfl rfl rfl) rfl (fun _=>K) (bh.ro rfl) ?_
 intro W0 w0 ρ0 hE
 conv=>whnf
 (repeat((first|refine aB aF ?_|refine aC (JS rfl (ak rfl) (ak rfl) (ak rfl) (ak rfl) (dJ rfl) rfl (dJ rfl) rfl aa) ?_|rw[t1]|rw[t3]|rw[t2]|rw[e1]|rw[Int.toNat_natCast]|rw[Nat.zero_add]);conv=>whnf))
 exact⟨aq.refl _,(fun _ _ h=>by cases h),(fun _ _ h=>by cases h)⟩
theorem Ru {r c:Nat} (hr:r≤2048) (hc:c≤2048) (F:Nat→Nat→Rat) (g:FuncId)
  (hf:∀i k,i<r→k<c→af Tryz.prog g ([]++([iv (i:Nat),iv (k:Nat)]++[])) [] (.frac (F i k)) [] []):
  af Tryz.prog 92 [iv r,iv c,.clo g [] []] [] (.cC [mA r c (mk r c F),iv 0]) [] []:=by
 have k1:=CK r c
 rw[yP aa]at k1
 have hz:(mk r c F).length=r*c:=kU ..
 have hrc:r*c≤2048*2048:=Nat.mul_le_mul hr hc
 have t1:IntKind.i64.wrap ((r:Int)*(c:Int))=((r*c:Nat):Int):=by rw[←Int.natCast_mul,wrap_i64 aa aa]
 refine qU [] Tryz.func92 ?_
 intro w0 ρ0 hE
 conv=>whnf
 (repeat((first|refine ag rfl rfl ?_|refine av Q3 ?_|refine a8 (by assumption) ?_|rw[bne_self_eq_false]|refine⟨_,A5 rfl (ak rfl) (ak rfl) Tryz.underlying137, ?_⟩|rw[t1]|rw[Int.toNat_natCast]);conv=>whnf))
 refine az hE (fun k=>k) [0,1,2,6,9,30,31] [6,9,25] (fun m fr hp=>∃i:Nat,m=r - i∧i≤r∧fr=[(0,iv r),(1,iv c),(2,.clo g [] []),(6,.ptr 6 0 0 0),(9,.ptr 9 0 0 0),(30,iv r),(31,iv (i:Nat))]∧
  hp=[(6,zM),(9,bM r c 25),(25,gk ((mk r c F).take (i*c)++List.replicate (r*c - i*c) 0))]) r ?_ ?_ ?_
 ·kernel_rfl
 ·exact⟨0,rfl,Nat.zero_le _,rfl,by rw[Nat.zero_mul,List.take_zero];rfl⟩
 rintro m _ _ ⟨i,rfl,hi,rfl,rfl⟩
 conv=>whnf
 by_cases aI:i<r
 ·have t2:=jD aI
  have t3:=cp (i:=i) aa
  have hic:(i+1)*c≤r*c:=Nat.mul_le_mul_right c aI
  rw[Nat.succ_mul]at hic
  have hlen:=gW (d:=(0:Rat)) (show i*c≤r*c by omega) hz
  have o1:=NP (a:=(mk r c F).take (i*c)++List.replicate (r*c - i*c) 0) ⟨hr,hc,hlen⟩ aI 25
  (repeat(first|(refine ah rfl rfl ?_;conv=>whnf)|(refine ny (by assumption) rfl ?_;conv=>whnf)|(rw[t2];conv=>whnf)))
  refine az hE (fun k=>k) [0,1,2,6,9,10,11,30,31,37,38] [6,9,25] (fun m fr hp=>∃k:Nat,m=c - k∧k≤c∧fr=[(0,iv r),(1,iv c),(2,.clo g [] []),(6,.ptr 6 0 0 0),(9,.ptr 9 0 0 0),(10,iv (i:Nat)),(11,.aK 25 5 (i*c) c),(30,iv r),(31,iv (i:Nat)),(37,iv c),(38,iv (k:Nat))]∧
   hp=[(6,zM),(9,bM r c 25),(25,gk ((mk r c F).take (i*c+k)++List.replicate (r*c - (i*c+k)) 0))]) c ?_ ?_ ?_
  ·kernel_rfl
  ·exact⟨0,rfl,Nat.zero_le _,rfl,rfl⟩
  rintro m _ _ ⟨k,rfl,hk,rfl,rfl⟩
  conv=>whnf
  by_cases hlk:k<c
  ·have t4:=jD hlk
   have t5:=cp (i:=k) aa
   have hlen:=gW (d:=(0:Rat)) (show i*c+k≤r*c by omega) hz
   have o2:=hf i k aI hlk
   rw[←r8 (f:=F) aI hlk]at o2
   (repeat((first|refine ah rfl rfl ?_|refine bg Q3 ?_|refine av Q3 ?_|refine a8 (by assumption) ?_|rw[t4]|rw[t5]|rw[Int.toNat_natCast]);conv=>whnf))
   refine⟨c - (k+1),fun k=>k,[0,1,2,6,9,10,11,30,31,37,38],[6,9,25],aa,aF,k+1,rfl,hlk,rfl, ?_⟩
   rw[show i*c+(k+1)=i*c+k+1 from rfl,gk,←jo (e:=0) (show i*c+k<r*c by omega) hz]
   rfl
  ·have t4:=jP hlk
   obtain rfl:k=c:=aa
   (repeat(first|(refine ag rfl rfl ?_;conv=>whnf)|(rw[t4];conv=>whnf)|(rw[t3];conv=>whnf)))
   refine⟨r - (i+1),fun k=>k,[0,1,2,6,9,30,31],[6,9,25],aa,aF,i+1,rfl,aI,rfl, ?_⟩
   rw[Nat.succ_mul]
   rfl
 ·have t2:=jP aI
  obtain rfl:i=r:=aa
  rw[kQ hz]
  (repeat(first|(refine ag rfl rfl ?_;conv=>whnf)|(rw[t2];conv=>whnf)))
  exact Q20
theorem CL {r c:Nat} (hr:r≤2048) (hc:c≤2048) (F:Nat→Nat→Rat) (g:FuncId) (p:Pred)
  (hf:∀i k,i<r→k<c→af Tryz.prog g ([]++([iv (i:Nat),iv (k:Nat)]++[.atom p])) [] (.frac (F i k)) [] []):
  af Tryz.prog 92 [iv r,iv c,.clo g [] [.atom p]] [] (.cC [mA r c (mk r c F),iv 0]) [] []:=by
 have k1:=CK r c
 rw[yP aa]at k1
 have hz:(mk r c F).length=r*c:=kU ..
 have hrc:r*c≤2048*2048:=Nat.mul_le_mul hr hc
 have t1:IntKind.i64.wrap ((r:Int)*(c:Int))=((r*c:Nat):Int):=by rw[←Int.natCast_mul,wrap_i64 aa aa]
 refine qU [] Tryz.func92 ?_
 intro w0 ρ0 hE
 conv=>whnf
 (repeat((first|refine ag rfl rfl ?_|refine av Q3 ?_|refine a8 (by assumption) ?_|rw[bne_self_eq_false]|refine⟨_,A5 rfl (ak rfl) (ak rfl) Tryz.underlying137, ?_⟩|rw[t1]|rw[Int.toNat_natCast]);conv=>whnf))
 refine az hE (fun k=>k) [0,1,2,6,9,30,31] [6,9,25] (fun m fr hp=>∃i:Nat,m=r - i∧i≤r∧fr=[(0,iv r),(1,iv c),(2,.clo g [] [.atom p]),(6,.ptr 6 0 0 0),(9,.ptr 9 0 0 0),(30,iv r),(31,iv (i:Nat))]∧
  hp=[(6,zM),(9,bM r c 25),(25,gk ((mk r c F).take (i*c)++List.replicate (r*c - i*c) 0))]) r ?_ ?_ ?_
 ·kernel_rfl
 ·exact⟨0,rfl,Nat.zero_le _,rfl,by rw[Nat.zero_mul,List.take_zero];rfl⟩
 rintro m _ _ ⟨i,rfl,hi,rfl,rfl⟩
 conv=>whnf
 by_cases aI:i<r
 ·have t2:=jD aI
  have t3:=cp (i:=i) aa
  have hic:(i+1)*c≤r*c:=Nat.mul_le_mul_right c aI
  rw[Nat.succ_mul]at hic
  have hlen:=gW (d:=(0:Rat)) (show i*c≤r*c by omega) hz
  have o1:=NP (a:=(mk r c F).take (i*c)++List.replicate (r*c - i*c) 0) ⟨hr,hc,hlen⟩ aI 25
  (repeat(first|(refine ah rfl rfl ?_;conv=>whnf)|(refine ny (by assumption) rfl ?_;conv=>whnf)|(rw[t2];conv=>whnf)))
  refine az hE (fun k=>k) [0,1,2,6,9,10,11,30,31,37,38] [6,9,25] (fun m fr hp=>∃k:Nat,m=c - k∧k≤c∧fr=[(0,iv r),(1,iv c),(2,.clo g [] [.atom p]),(6,.ptr 6 0 0 0),(9,.ptr 9 0 0 0),(10,iv (i:Nat)),(11,.aK 25 5 (i*c) c),(30,iv r),(31,iv (i:Nat)),(37,iv c),(38,iv (k:Nat))]∧
   hp=[(6,zM),(9,bM r c 25),(25,gk ((mk r c F).take (i*c+k)++List.replicate (r*c - (i*c+k)) 0))]) c ?_ ?_ ?_
  ·kernel_rfl
  ·exact⟨0,rfl,Nat.zero_le _,rfl,rfl⟩
  rintro m _ _ ⟨k,rfl,hk,rfl,rfl⟩
  conv=>whnf
  by_cases hlk:k<c
  ·have t4:=jD hlk
   have t5:=cp (i:=k) aa
   have hlen:=gW (d:=(0:Rat)) (show i*c+k≤r*c by omega) hz
   have o2:=hf i k aI hlk
   rw[←r8 (f:=F) aI hlk]at o2
   (repeat((first|refine ah rfl rfl ?_|refine bg Q3 ?_|refine av Q3 ?_|refine a8 (by assumption) ?_|rw[t4]|rw[t5]|rw[Int.toNat_natCast]);conv=>whnf))
   refine⟨c - (k+1),fun k=>k,[0,1,2,6,9,10,11,30,31,37,38],[6,9,25],aa,aF,k+1,rfl,hlk,rfl, ?_⟩
   rw[show i*c+(k+1)=i*c+k+1 from rfl,gk,←jo (e:=0) (show i*c+k<r*c by omega) hz]
   rfl
  ·have t4:=jP hlk
   obtain rfl:k=c:=aa
   (repeat(first|(refine ag rfl rfl ?_;conv=>whnf)|(rw[t4];conv=>whnf)|(rw[t3];conv=>whnf)))
   refine⟨r - (i+1),fun k=>k,[0,1,2,6,9,30,31],[6,9,25],aa,aF,i+1,rfl,aI,rfl, ?_⟩
   rw[Nat.succ_mul]
   rfl
 ·have t2:=jP aI
  obtain rfl:i=r:=aa
  rw[kQ hz]
  (repeat(first|(refine ag rfl rfl ?_;conv=>whnf)|(rw[t2];conv=>whnf)))
  exact Q20
theorem NQ (i k:Nat):delta i k=if i=k then((1:Int):Rat)else 0:=by unfold delta;split<;>simp
theorem ab1 (i k:Nat) (hi:i≤2048) (hk:k≤2048):af Tryz.prog 192 ([]++([iv (i:Nat),iv (k:Nat)]++[])) [] (.frac (delta i k)) [] []:=by
 have k1:=eG 1 aH aH
 rw[NQ]
 refine cj [] Tryz.func192 ?_
 intro W0 w0 ρ0 hE
 conv=>whnf
 by_cases h:i=k
 ·have t1:((i:Int) != (k:Int))=false:=by rw[h];exact bne_self_eq_false _
  rw[if_pos h]
  (repeat(first|(refine ag rfl rfl ?_;conv=>whnf)|(refine a8 (by assumption) ?_;conv=>whnf)|(rw[t1];conv=>whnf)));exact Q4
 ·have t1:((i:Int) != (k:Int))=true:=bne_iff_ne.2 aa
  rw[if_neg h]
  (repeat(first|(refine ah rfl rfl ?_;conv=>whnf)|(rw[t1];conv=>whnf)));exact Q4
theorem afT (n:Nat) (hn:n≤2048):af Tryz.prog 57 [iv n] [] (.cC [mA n n (afi n),iv 0]) [] []:=by
 have k1:=Ru hn hn delta 192 (fun i k hi hk=>ab1 i k aa aa)
 refine cj [] Tryz.func57 ?_
 intro W0 w0 ρ0 hE
 conv=>whnf
 (repeat(first|(refine a8 (by assumption) ?_;conv=>whnf)));exact Q4
theorem Rv {r c:Nat} {a:List Rat} (ha:ot r c a) (i k:Nat) (hi:i<c) (hk:k<r):af Tryz.prog 101 ([]++([iv (i:Nat),iv (k:Nat)]++[cx (mC r c a)])) [] (.frac (el a c k i)) [] []:=by
 have k1:=ahZ ha hk hi
 refine cj [] Tryz.func101 ?_
 intro W0 w0 ρ0 hE
 conv=>whnf
 (repeat(first|(refine a8 (by assumption) ?_;conv=>whnf)|(refine aC Q6 ?_;conv=>whnf)));exact Q4
theorem ab2 {r c:Nat} {a:List Rat} (ha:ot r c a):af Tryz.prog 16 [mA r c a] [] (.cC [mA c r (vo r c a),iv 0]) [] []:=by
 have k0:=fT ha
 have k1:=CL ha.c ha.r _ 101 (Bx (mC r c a)) (fun i k hi hk=>Rv ha i k hi hk)
 refine cj [1] Tryz.func16 ?_
 intro W0 w0 ρ0 hE
 conv=>whnf
 (repeat((first|refine ag rfl rfl ?_|refine a8 (by assumption) ?_|rw[bne_self_eq_false]|refine aC Q6 ?_|refine aC Q9 ?_|refine aC Pa ?_);conv=>whnf));exact Q4
theorem Ix {r c i:Nat} {a v:List Rat} (ha:a.length=r*c) (hv:v.length=c) (hi:i<r):DY (mT a c i) v=(gZ r c a v).getD i 0:=by
 rw[L8 (fg hi ha) hv,qC hi]
 exact ai c fun k hk=>by rw[jx hk]
theorem NR {a:List Rat} {r c i A:Nat} (sa:Sm A a) (ha:a.length=r*c) (hi:i<r):Sm A (mT a c i):=by
 intro k hk
 rw[fg hi ha]at hk
 rw[jx hk];exact jE sa ha hi hk
theorem Rw {r c A B:Nat} (C:Nat) {a v:List Rat} (ha:ot r c a) (hv:v.length=c) (sa:Sm A a) (sv:Sm B v) (hC:c≤C) (h:A+B+(2+C*(A+B))≤1073741824):
  af Tryz.prog 76 [mA r c a,cD v] [] (.cC [cD (gZ r c a v),iv 0]) [] []:=by
 have hr:=ha.r
 have hc:=ha.c
 have k0:=abZ ha
 have k1:=Iw [v] (by simp) (by simp;omega)
 rw[show nX [v]=0 from by simp[nX];omega]at k1
 have t0:((v.length:Int) != (c:Int))=false:=by rw[hv];exact bne_self_eq_false _
 have hz:(gZ r c a v).length=r:=nK
 refine qU [2,11,17] Tryz.func76 ?_
 intro w0 ρ0 hE
 conv=>whnf
 (repeat((first|refine ag rfl rfl ?_|refine av Q3 ?_|refine a8 (by assumption) ?_|rw[bne_self_eq_false]|refine aC Q7 ?_|refine aC Q6 ?_|refine aC Q9 ?_|rw[t0]|rw[Int.toNat_natCast]);conv=>whnf))
 refine az hE (fun k=>k) [1,2,8,31,32] [29] (fun m fr hp=>∃i:Nat,m=r - i∧i≤r∧fr=[(1,cD v),(2,cx (mC r c a)),(8,.aK 29 5 0 r),(31,iv r),(32,iv (i:Nat))]∧hp=[(29,gk ((gZ r c a v).take i++List.replicate (r - i) 0))]) r ?_ ?_ ?_
 ·kernel_rfl
 ·exact⟨0,rfl,Nat.zero_le _,rfl,rfl⟩
 rintro m _ _ ⟨i,rfl,hi,rfl,rfl⟩
 have hlen:=gW (d:=(0:Rat)) hi hz
 conv=>whnf
 by_cases aI:i<r
 ·have t1:=jD aI
  have t2:=cp (i:=i) aa
  have o1:=ab0 ha aI
  have l1:=fg aI ha.n
  have s1:=NR sa ha.n aI
  have hs:vl (BZ (mT a c i) v)≤_:=B3 (Gm cT s1 sv (l1.trans hv.symm))
  rw[rT l1 hv]at hs
  have hC2:=Nat.mul_le_mul_right (A+B) hC
  have o2:=UH (mT a c i) v (l1.trans hv.symm) aa (L9 s1 sv (l1.trans hv.symm) aa) aa
  rw[Ix ha.n hv aI]at o2
  clear hs hC2 s1
  (repeat((first|refine ah rfl rfl ?_|refine bg Q3 ?_|refine av Q3 ?_|refine a8 (by assumption) ?_|refine aC Q6 ?_|rw[t1]|rw[t2]|rw[Int.toNat_natCast]|rw[Nat.zero_add]);conv=>whnf))
  refine⟨r - (i+1),fun k=>k,[1,2,8,31,32],[29],aa,aF,i+1,rfl,aI,rfl, ?_⟩
  rw[gk,←jo (e:=0) aI hz]
  rfl
 ·have t1:=jP aI
  have hI:i=r:=aa
  subst hI
  rw[kQ hz]
  (repeat(first|(refine ag rfl rfl ?_;conv=>whnf)|(rw[t1];conv=>whnf)))
  exact Q17
theorem ab3 {a b:List Rat} {A B n N:Nat} (ha:Sm A a) (hb:Sm B b) (h1:a.length=n) (h2:b.length=n) (hn:n≤N):fs (DY a b)≤2+N*(A+B):=by
 have:=Qm ha hb h1 h2
 have:=Nat.mul_le_mul_right (A+B) hn
 omega
theorem NS {r c A B C:Nat} {a v:List Rat} (ha:a.length=r*c) (hv:v.length=c) (sa:Sm A a) (sv:Sm B v) (hC:c≤C):Sm (2+C*(A+B)) (gZ r c a v):=by
 intro i hi
 rw[nK]at hi
 rw[←Ix ha hv hi]
 exact ab3 (NR sa ha hi) sv (fg hi ha) hv hC
theorem CM {r c A B D:Nat} (C:Nat) {a v w:List Rat} (ha:ot r c a) (hv:v.length=r) (hw:w.length=c) (sa:Sm A a) (sv:Sm D v) (sw:Sm B w) (hC:c≤C) (hR:r≤C) (h:A+B+(2+C*(A+B))≤1073741824)
  (h2:D+(2+C*(A+B))+C*(D+(2+C*(A+B)))+2≤1073741824):
  af Tryz.prog 77 [mA r c a,cD v,cD w] [] (.cC [.frac (Iu r c a v w),iv 0]) [] []:=by
 have hr:=ha.r
 have hc:=ha.c
 have k0:=fT ha
 have k1:=Iw [v,w] (by simp) (by simp;omega)
 rw[show nX [v,w]=0 from by simp[nX];omega]at k1
 have k2:=Rw C ha hw sa sw hC h
 have s2:=NS ha.n hw sa sw hC
 have Pb:(gZ r c a w).length=r:=nK
 have hs:vl (BZ v (gZ r c a w))≤_:=B3 (Gm cT sv s2 (hv.trans Pb.symm))
 rw[rT hv Pb]at hs
 have hC2:=Nat.mul_le_mul_right (D+(2+C*(A+B))) hR
 have k3:=UH v (gZ r c a w) (hv.trans Pb.symm) aa (L9 sv s2 (hv.trans Pb.symm) aa) aa
 have t0:((v.length:Int) != (r:Int))=false:=by rw[hv];exact bne_self_eq_false _
 have t1:((w.length:Int) != (c:Int))=false:=by rw[hw];exact bne_self_eq_false _
 clear hs hC2 s2 h2 h
 refine cj [3,20] Tryz.func77 ?_
 intro W0 w0 ρ0 hE
 conv=>whnf
 (repeat((first|refine ah rfl rfl ?_|refine ag rfl rfl ?_|refine a8 (by assumption) ?_|refine aC ik ?_|rw[bne_self_eq_false]|refine aC Q7 ?_|refine aC Q6 ?_|refine aC Q9 ?_|rw[t0]|rw[t1]);conv=>whnf));exact Q4
theorem Rx (a b:List Rat) (ha:a.length<1099511627776) (hb:b.length<1099511627776):af Tryz.prog 108 [cD a,cD b] [] (.val (.bool (decide (a=b)))) [] []:=by
 refine cj [] Tryz.func108 ?_
 intro W0 w0 ρ0 hE
 conv=>whnf
 by_cases Ap:a.length=b.length
 ·have t0:((a.length:Int) != (b.length:Int))=false:=by rw[Ap];exact bne_self_eq_false _
  (repeat(first|(refine ag rfl rfl ?_;conv=>whnf)|(refine aC Q7 ?_;conv=>whnf)|(rw[t0];conv=>whnf)))
  refine az hE (fun k=>k) [0,1,4,11,12,13] [] (fun m fr hp=>∃i,m=a.length - i∧i≤a.length∧a.take i=b.take i∧fr=[(0,cD a),(1,cD b),(4,.val (.bool false)),(11,cD a),(12,.val (.int .i64 (a.length:Nat))),(13,.val (.int .i64 (i:Nat)))]∧hp=[]) a.length ?_ ?_ ?_
  ·kernel_rfl
  ·exact⟨0,rfl,Nat.zero_le _,rfl,rfl,rfl⟩
  rintro m _ _ ⟨i,rfl,hi,ht,rfl,rfl⟩
  conv=>whnf
  by_cases aI:i<a.length
  ·have t1:=jD aI
   have t2:=cp (i:=i) aa
   by_cases hv:a.getD i 0=b.getD i 0
   ·have t3:(!decide (a.getD i 0=b.getD i 0))=false:=by rw[decide_eq_true hv];rfl
    (repeat((first|refine ah rfl rfl ?_|refine ag rfl rfl ?_|refine aB aF ?_|refine aC An ?_|refine aC Q6 ?_|refine⟨_,xx aM me rfl (ak rfl) (ak rfl) rfl rfl rfl rfl (B0 _ _) wc, ?_⟩|rw[t1]|rw[t3]|rw[t2]);conv=>whnf))
    exact⟨a.length - (i+1),fun k=>k,[0,1,4,11,12,13],[],aa,aF,i+1,rfl,aI,by rw[mJ a i aI,mJ b i aa,ht,hv],rfl,rfl⟩
   ·have t3:(!decide (a.getD i 0=b.getD i 0))=true:=by rw[decide_eq_false hv];rfl
    have e:decide (a=b)=false:=decide_eq_false (fun h=>hv (by rw[h]))
    rw[e]
    (repeat((first|refine ah rfl rfl ?_|refine aB aF ?_|refine aC An ?_|refine aC Q6 ?_|refine⟨_,xx aM me rfl (ak rfl) (ak rfl) rfl rfl rfl rfl (B0 _ _) wc, ?_⟩|rw[t1]|rw[t3]);conv=>whnf));exact Q4
  ·have t1:=jP aI
   have hI:i=a.length:=aa
   have e:decide (a=b)=true:=decide_eq_true (by rw[hI,List.take_length]at ht;rw[ht,Ap,List.take_length])
   rw[e]
   (repeat(first|(refine ag rfl rfl ?_;conv=>whnf)|(rw[t1];conv=>whnf)));exact Q4
 ·have t0:((a.length:Int) != (b.length:Int))=true:=bne_iff_ne.2 aa
  have e:decide (a=b)=false:=decide_eq_false (fun h=>Ap (by rw[h]))
  rw[e]
  (repeat(first|(refine ah rfl rfl ?_;conv=>whnf)|(refine aC Q7 ?_;conv=>whnf)|(rw[t0];conv=>whnf)));exact Q4
def yQ (r c s t:Int) (a b:List Rat):Bool:=r==s&&c==t&&decide (a=b)
theorem ab4 (r c s t:Int) (a b:List Rat) (ha:a.length<1099511627776) (hb:b.length<1099511627776):af Tryz.prog 20 [mA r c a,mA s t b] [] (.val (.bool (yQ r c s t a b))) [] []:=by
 have k1:=Rx a b ha hb
 unfold yQ
 refine cj [] Tryz.func20 ?_
 intro W0 w0 ρ0 hE
 conv=>whnf
 cases h1:(r==s)
 ·(repeat(first|(refine ag rfl rfl ?_;conv=>whnf)|(refine aC ik ?_;conv=>whnf)));exact Q4
 ·cases h2:(c==t)
  ·(repeat((first|refine ah rfl rfl ?_|refine ag rfl rfl ?_|refine aC iT ?_|refine aC ik ?_|rw[h2]);conv=>whnf));exact Q4
  ·(repeat((first|refine ah rfl rfl ?_|refine a8 (by assumption) ?_|refine aC iT ?_|rw[h2]);conv=>whnf));exact Q4
theorem vv {r c:Nat} {a:List Rat} (ha:ot r c a):af Tryz.prog 88 [mA r c a] [] (.val (.bool (yQ r c c r a (vo r c a)))) [] []:=by
 have k1:=ab2 ha
 have k2:=ab4 r c c r a (vo r c a) (by have:=ha.small;omega) (by rw[kU];have:=Nat.mul_le_mul ha.c ha.r;omega)
 refine cj [] Tryz.func88 ?_
 intro W0 w0 ρ0 hE
 conv=>whnf
 (repeat(first|(refine ah rfl rfl ?_;conv=>whnf)|(refine a8 (by assumption) ?_;conv=>whnf)|(refine aC iT ?_;conv=>whnf)));exact Q4
theorem ab5 (r c:Nat) (l:List Int) (hr:r≤2048) (hc:c≤2048) (hl:l.length=r*c) (h:∀x∈l, -9223372036854775808≤x∧x<9223372036854775808):af Tryz.prog 58 [iv r,iv c,mc .i64 l] [] (.cC [mA r c (cX l),iv 0]) [] []:=by
 have hb:=Nat.mul_le_mul hr hc
 have k1:=abl l aa (fun i hi=>h _ (mE hi))
 have k0:=fT (a:=cX l) ⟨hr,hc,by simpa [cX]using hl⟩
 refine cj [] Tryz.func58 ?_
 intro W0 w0 ρ0 hE
 conv=>whnf
 (repeat(first|(refine ag rfl rfl ?_;conv=>whnf)|(refine a8 (by assumption) ?_;conv=>whnf)));exact Q4
def bs (r c:Nat) (a:List Rat):List (List Rat):=(List.range r).map (mT a c)
theorem mU {r c i:Nat} {a:List Rat} (hi:i<r):(bs r c a).getD i []=mT a c i:=by simp[bs,List.getD_eq_getElem?_getD,hi]
theorem iQ (r c:Nat) (a:List Rat):(bs r c a).length=r:=by simp[bs]
end Go.Proofs.YtfpagioknjjacaaGreatDoor
namespace Go.Sx
set_option linter.unusedSimpArgs false
set_option linter.unusedVariables false
theorem JT {E:Env} {k:Nat} {blk:aA} {fr:List (Nat×SV)} {hp:List (Nat×aA)} (hk:find hp k=none) (he:blk.data.empty) {a:Act} {w:World} (hR:RR E (fn fr hp) a w):
  RR E (fn fr ((k,blk)::hp)) a w:=by
 obtain⟨ρ,hext,hfx,hR⟩:=hR
 have p9:ρ.key k=none:=by
  cases hx:ρ.key k with
  |none=>rfl
  |some x=>
   obtain⟨b,hb⟩:=hR.hp.ud k x hx
   simp only[fn,LV.blk,hk]at hb
   cases hb
 have eC:∀j b,(fn fr ((k,blk)::hp) (.k j)).blk=some b→(j=k∧b=blk)∨(j≠k∧(fn fr hp (.k j)).blk=some b):=by
  intro j b hb
  simp only[fn,LV.blk,find]at hb ⊢
  cases hj:Nat.beq k j with
  |true=>rw[hj]at hb;simp only[Option.some.injEq]at hb;exact .inl ⟨(Nat.eq_of_beq_eq_true hj).symm,hb.symm⟩
  |false=>rw[hj]at hb;exact .inr ⟨by rintro rfl;simp[Nat.beq_refl]at hj,hb⟩
 have a7:∀j x,ρ.key j=some x→j≠k:=fun j x hx h=>by rw[h,p9]at hx;cases hx
 refine⟨ρ,hext,fun j hj=> ?_,{defers:=hR.defers,size:=hR.size,fr:=fun u sv hu=>hR.fr u sv hu,bw:=hR.bw,hp:= ?_}⟩
 ·have:=hfx j hj
  simp only[fn,LV.blk,find]at this ⊢
  cases hb:Nat.beq k j with
  |true=>simp
  |false=>exact this
 ·constructor
  ·intro j b hb
   rcases eC j b hb with⟨rfl,rfl⟩|⟨_,h1⟩
   ·exact .inr (.inr ⟨p9,he⟩)
   ·exact hR.hp.blk j b h1
  ·intro j j' x x' b b' hx pZ hn hxe hb fV
   rcases eC j b hb with⟨h1,_⟩|⟨_,h1⟩
   ·exact absurd h1 (a7 j x hx)
   ·rcases eC j' b' fV with⟨h2,_⟩|⟨_,h2⟩
    ·exact absurd h2 (a7 j' x' pZ)
    ·exact hR.hp.sep j j' x x' b b' hx pZ hn hxe h1 h2
  ·intro j b x hb hw hl hx
   rcases eC j b hb with⟨h1,_⟩|⟨_,h1⟩
   ·exact absurd h1 (a7 j x hx)
   ·exact hR.hp.own j b x h1 hw hl hx
  ·intro j x hx
   obtain⟨b,hb⟩:=hR.hp.ud j x hx
   have:=a7 j x hx
   refine⟨b, ?_⟩
   simp only[fn,LV.blk,find]at hb ⊢
   cases hj:Nat.beq k j with
   |true=>exact absurd (Nat.eq_of_beq_eq_true hj).symm this
   |false=>exact hb
  ·exact hR.hp.aT
  ·intro j b x hb hw hl hx
   rcases eC j b hb with⟨h1,_⟩|⟨_,h1⟩
   ·exact absurd h1 (a7 j x hx)
   ·exact hR.hp.ep j b x h1 hw hl hx
theorem uL {E:Env} {j:Nat} {ty:TypeId} {wr:Bool} {cs cs':List SV} {fr:List (Nat×SV)} {hp:List (Nat×aA)} (hj:find hp j=some ⟨ty,wr,.one cs⟩) (hd:∀ρ z,au ρ cs z→au ρ cs' z) {a:Act} {w:World} (hR:RR E (fn fr hp) a w):
  RR E (fn fr ((j,⟨ty,wr,.one cs'⟩)::hp)) a w:=by
 obtain⟨ρ,hext,hfx,hR⟩:=hR
 have eC:∀i b,(fn fr ((j,⟨ty,wr,.one cs'⟩)::hp) (.k i)).blk=some b→∃b0,(fn fr hp (.k i)).blk=some b0∧b0.wr=b.wr∧b0.data.live=b.data.live∧(b0=b∨(i=j∧b0=⟨ty,wr,.one cs⟩∧b=⟨ty,wr,.one cs'⟩)):=by
  intro i b hb
  simp only[fn,LV.blk,find]at hb ⊢
  cases hi:Nat.beq j i with
  |true=>
   rw[hi]at hb
   simp only[Option.some.injEq]at hb
   obtain rfl:=Nat.eq_of_beq_eq_true hi
   subst hb
   exact⟨_,hj,rfl,rfl,.inr ⟨rfl,rfl,rfl⟩⟩
  |false=>rw[hi]at hb;exact⟨b,hb,rfl,rfl,.inl rfl⟩
 refine⟨ρ,hext,fun i hi=> ?_,{defers:=hR.defers,size:=hR.size,fr:=fun u sv hu=>hR.fr u sv hu,bw:=hR.bw,hp:= ?_}⟩
 ·have:=hfx i hi
  simp only[fn,LV.blk,find]at this ⊢
  cases hb:Nat.beq j i with
  |true=>simp
  |false=>exact this
 ·constructor
  ·intro i b hb
   obtain⟨b0,h1,h2,h3,rfl|⟨rfl,rfl,rfl⟩⟩:=eC i b hb
   ·exact hR.hp.blk i b0 h1
   ·rcases hR.hp.blk i _ h1 with h4|⟨b',t,vs,ex,g1,g2,g3,g4,g5⟩|⟨_,h4⟩
    ·cases h4
    ·refine .inr (.inl ⟨b',t,vs,ex,g1,g2, ?_,g4,g5⟩)
     simp only[cQ]at g3 ⊢
     obtain⟨z,g6,g7⟩:=g3
     exact⟨z,hd ρ z g6,g7⟩
    ·exact h4.elim
  ·intro i i' x x' b b' hx pZ hn hxe hb fV hl ql
   obtain⟨b0,h1,h2,h3,_⟩:=eC i b hb
   obtain⟨b0',h1',h2',h3',_⟩:=eC i' b' fV
   rw[←h2]
   exact hR.hp.sep i i' x x' b0 b0' hx pZ hn hxe h1 h1' (h3.trans hl) (h3'.trans ql)
  ·intro i b x hb hw hl hx
   obtain⟨b0,h1,h2,h3,_⟩:=eC i b hb
   exact hR.hp.own i b0 x h1 (h2.trans hw) (h3.trans hl) hx
  ·intro i x hx
   obtain⟨b,hb⟩:=hR.hp.ud i x hx
   simp only[fn,LV.blk,find]at hb ⊢
   cases hi:Nat.beq j i with
   |true=>exact⟨_,rfl⟩
   |false=>exact⟨b,hb⟩
  ·exact hR.hp.aT
  ·intro i b x hb hw hl hx
   obtain⟨b0,h1,h2,h3,_⟩:=eC i b hb
   exact hR.hp.ep i b0 x h1 (h2.trans hw) (h3.trans hl) hx
theorem yR {ρ:bI} {k s:Nat}:∀{cs:List SV} {p:Nat} {z:List (List Value)},cs[p]? =some (.val (.slice none 0 0))→au ρ cs z→au ρ (cs.set p (.aK k s 0 0)) z
 |[],p,z,h,_=>by simp at h
 |c::cs,0,z,h,hz=>by
  simp only[List.getElem?_cons_zero,Option.some.injEq]at h
  subst h
  simp only[au,List.set_cons_zero]at hz ⊢
  obtain⟨x,r,rfl,h1,h2⟩:=hz
  refine⟨x,r,rfl, ?_,h2⟩
  simp only[aG]at h1 ⊢
  exact .inr ⟨trivial,none,h1.1⟩
 |c::cs,p+1,z,h,hz=>by
  simp only[List.getElem?_cons_succ]at h
  simp only[au,List.set_cons_succ]at hz ⊢
  obtain⟨x,r,rfl,h1,h2⟩:=hz
  exact⟨x,r,rfl,h1,yR h h2⟩
theorem qP {E:Env} {j k s p:Nat} {ty:TypeId} {wr:Bool} {cs cs':List SV} {c:Code} {K:bK} {blk:aA} {fr:List (Nat×SV)} {hp:List (Nat×aA)} (hj:find hp j=some ⟨ty,wr,.one cs⟩) (bW:cs[p]? =some (.val (.slice none 0 0))) (hk:find hp k=none) (he:blk.data.empty)
  (zr:cs.set p (.aK k s 0 0)=cs') (hs:dG E c K fr ((k,blk)::(j,⟨ty,wr,.one cs'⟩)::hp)):dG E c K fr hp:=⟨fun a w hR=>hs.run a w (by
  subst zr
  refine JT ?_ he (uL hj (fun ρ z hz=>yR bW hz) hR)
  simp only[find]
  cases hb:Nat.beq j k with
  |false=>exact hk
  |true=>rw[Nat.eq_of_beq_eq_true hb,hk]at hj;cases hj)⟩
theorem aN {t:Bool} {A B:Prop} (h:t=true) (k:A):(t=true→A)∧(t=false→B):=⟨fun _=>k,fun h'=>(by rw[h]at h';cases h')⟩
theorem aW {t:Bool} {A B:Prop} (h:t=false) (k:B):(t=true→A)∧(t=false→B):=⟨fun h'=>(by rw[h]at h';cases h'),fun _=>k⟩
def Wk (c d:SV):Prop:=c.aU=d.aU∧∀ρ x,aG ρ c x→aG ρ d x
def Ry (l m:List SV):Prop:=(∀z,List.zipWith ct l z=List.zipWith ct m z)∧∀ρ z,au ρ l z→au ρ m z
theorem Wk.refl {c:SV}:Wk c c:=⟨rfl,fun _ _ h=>h⟩
theorem Wk.nil {w:Nat} {a:Option Addr}:Wk (.val (.slice a 0 0)) (ed w []):=⟨rfl,fun _ _ h=>nF h⟩
theorem Ry.nil:Ry [] []:=⟨fun _=>rfl,fun _ _ h=>h⟩
theorem Ry.cons {c d:SV} {l m:List SV} (h:Wk c d) (k:Ry l m):Ry (c::l) (d::m):=
 ⟨fun z=>by cases z with
  |nil=>rfl
  |cons x r=>rw[List.zipWith_cons_cons,List.zipWith_cons_cons,k.1 r,FW h.1],fun ρ z hz=>by
  simp only[au]at hz ⊢
  obtain⟨x,r,rfl,h1,h2⟩:=hz
  exact⟨x,r,rfl,h.2 ρ x h1,k.2 ρ r h2⟩⟩
theorem Wk.agg {l m:List SV} (h:Ry l m):Wk (.agg l) (.agg m):=⟨rfl,fun ρ x hx=>by
 simp only[aG]at hx ⊢
 obtain⟨z,h1,h2⟩:=hx
 exact⟨z,h.2 ρ z h1,h2⟩⟩
theorem af.wk {P:Program} {f:FuncId} {args args':List SV} {fk:List (Nat×aA)} {c:SV} {new upd:List (Nat×aA)} (h:af P f args' fk c new upd) (hw:Ry args args'):af P f args fk c new upd:=af.args h hw.2 hw.1
def ag3 {α β γ:Type} (f:α→SV) (g:β→SV) (h:γ→SV) (p:α×β×γ):SV:=.agg [f p.1,g p.2.1,h p.2.2]
end Go.Sx
namespace Go.Proofs.YtfpagioknjjacaaGreatDoor
open Go.Sx
set_option linter.unusedSimpArgs false
set_option linter.unusedVariables false
set_option maxRecDepth 100000
set_option maxHeartbeats 4000000
abbrev MM:=Int×Int×List (Int×Int)
abbrev mQ:MM→SV:=ag3 (iF .u8) (iF .u8) (bX 2 qA)
def mOK (m:MM):Prop:=(0≤m.1∧m.1<256)∧(0≤m.2.1∧m.2.1<256)∧m.2.2.length≤maxLen∧∀q∈m.2.2,Av q
def eQ (l:List (Int×Int)) (p:Nat):Rat:=qV (l.getD p (0,0))
def oh (l:List (Int×Int)) (n:Nat):List Rat:=(List.range n).map (eQ l)
theorem A6 (l:List (Int×Int)) (n:Nat):(oh l n).length=n:=by simp[oh]
theorem A7 {l:List (Int×Int)} {n p:Nat} (h:p<n):(oh l n).getD p 0=eQ l p:=by simp[oh,List.getD_eq_getElem?_getD,h]
theorem uM {l:List (Int×Int)} (h:∀q∈l,Av q) (p:Nat):Av (l.getD p (0,0)):=by
 by_cases hp:p<l.length
 ·exact h _ (mE hp)
 ·rw[List.getD_eq_getElem?_getD,List.getElem?_eq_none aa];exact⟨⟨aH,aH⟩,aH,aH⟩
theorem wrap_u8 {n:Int} (h0:0≤n) (h:n<256):IntKind.u8.wrap n=n:=by
 simp[IntKind.wrap,IntKind.bits,IntKind.signed];omega
theorem Iy {α:Type} {l:List α} {i:Nat} {d:α} (h:i<l.length):l.take (i+1)=(l.take i).take i++(([l.getD i d]:List α).drop 0).take 1:=(L7 h).symm
theorem ab6 (m:MM) (hm:mOK m) {r c:Nat} (hr:r≤12) (hc:c≤12):af Tryz.prog 63 [mQ m,iv r,iv c] [] (mA r c (oh m.2.2 (r*c))) [] []:=by
 obtain⟨A,B,l⟩:=m
 obtain⟨_,_,hl,hq⟩:=hm
 replace hl:l.length≤maxLen:=hl
 have hz:=A6 l (r*c)
 have hN:r*c≤12*12:=Nat.mul_le_mul hr hc
 have t0:IntKind.i64.wrap ((r:Int)*(c:Int))=((r*c:Nat):Int):=by rw[←Int.natCast_mul,wrap_i64 aa aa]
 generalize r*c=N at*
 refine qU [3] Tryz.func63 ?_
 intro w0 ρ0 hE
 conv=>whnf
 skip
 refine qP (j:=7) (k:=2001) (s:=5) (p:=2) (blk:=gk []) rfl rfl rfl rfl rfl ?_
 refine cn hE (fun k=>k) [1,2,3,6,7,8] [6,7,2001] (fun m fr hp=>∃i:Nat,m=N - i∧i≤N∧fr=[(1,iv r),(2,iv c),(3,cx [iF .u8 A,iF .u8 B,bX 2 qA l]),(6,.ptr 6 0 0 0),(7,.ptr 7 0 0 0),(8,iv (i:Nat))]∧
  hp=[(6,zM),(7,⟨38,true,.one [iv r,iv c,.aK 2001 5 0 i]⟩),(2001,gk ((oh l N).take i))]) N ?_ ?_ ?_
 ·kernel_rfl
 ·exact⟨0,rfl,Nat.zero_le _,rfl,rfl⟩
 rintro m _ _ ⟨i,rfl,hi,rfl,rfl⟩
 have Rz:((oh l N).take i).length=i:=by rw[List.length_take];omega
 by_cases aI:i<N
 ·have t1:=jD aI
  have t2:=cp (i:=i) aa
  have o1:=L6 (l.getD i (0,0)) (uM hq i)
  rw[show qV (l.getD i (0,0))=(oh l N).getD i 0 from(A7 aI).symm]at o1
  have e1:=Iy (d:=(0:Rat)) (show i<(oh l N).length by omega)
  refine dG.of hE ?_
  conv=>whnf
  by_cases QE:i<l.length
  ·have t3:=jD QE
   (repeat((first|refine ah rfl rfl ?_|refine aB aF ?_|refine av Q3 ?_|refine a8 (by assumption) ?_|refine aC Q7 ?_|refine aC Q6 ?_|refine aC (fu (α:=Int×Int) (d:=(0,0)) rfl (ak rfl) (ak rfl) (dJ rfl) rfl (dJ rfl) rfl aa) ?_|refine aC Q9 ?_|rw[t0]|rw[t1]|rw[t3]|rw[t2]|rw[Nat.zero_add]);conv=>whnf))
   refine⟨N - (i+1),dc [(36,2001)],[1,2,3,6,7,8],[6,7,36],aa,aF,i+1,rfl,aI,rfl, ?_⟩
   rw[e1];rfl
  ·have t3:=jP QE
   rw[show l.getD i (0,0)=(0,0)from by rw[List.getD_eq_getElem?_getD,List.getElem?_eq_none aa];rfl]at o1
   (repeat((first|refine ah rfl rfl ?_|refine ag rfl rfl ?_|refine aB aF ?_|refine av Q3 ?_|refine a8 (by assumption) ?_|refine aC Q7 ?_|refine aC Q6 ?_|refine aC Q9 ?_|rw[t0]|rw[t1]|rw[t3]|rw[t2]|rw[Nat.zero_add]);conv=>whnf))
   refine⟨N - (i+1),dc [(36,2001)],[1,2,3,6,7,8],[6,7,36],aa,aF,i+1,rfl,aI,rfl, ?_⟩
   rw[e1];rfl
 ·have t1:=jP aI
  obtain rfl:i=N:=aa
  rw[List.take_of_length_le aa]
  refine dG.of hE ?_
  conv=>whnf
  (repeat(first|(refine ag rfl rfl ?_;conv=>whnf)|(rw[t0];conv=>whnf)|(rw[t1];conv=>whnf)))
  exact Q16
abbrev EX (l:List (List Rat)):aA:=⟨74,true,.seq 1 (l.map lG)⟩
theorem A8 {l:List (List Rat)} {i:Nat} (hi:i<l.length):EX (l.take (i+1))=⟨74,true,.seq 1 (List.take i ((l.take i).map lG)++List.take 1 (List.drop 0 [lG (l.getD i [])]))⟩:=by
 have hl:((l.take i).map lG).length=i:=by rw[List.length_map,List.length_take];omega
 have e:l.take (i+1)=l.take i++[l.getD i []]:=by rw[List.take_add_one,List.getD_eq_getElem?_getD,List.getElem?_eq_getElem hi];rfl
 rw[EX,e,List.map_append,List.take_of_length_le (l:=(l.take i).map lG) aa];rfl
abbrev m4:List Rat:=cX [1,2,3,4]
set_option maxHeartbeats 8000000
theorem ab7 {r c:Nat} {F:Nat→Nat→Rat} (hr:r≤2048) (hc:c≤2048):ot r c (mk r c F):=⟨hr,hc,kU ..⟩
theorem ab8 (x:Int) (h:0≤x∧x<256) (m:Int) (hm:0<m∧m<256):IntKind.u8.wrap (x.tmod m)=x.tmod m∧IntKind.i64.wrap (x.tmod m)=((x % m).toNat:Nat):=by
 have h1:=Int.emod_nonneg x (show m≠0 by omega)
 have h2:=Int.emod_lt_of_pos x hm.1
 rw[Int.tmod_eq_emod_of_nonneg h.1]
 constructor
 ·exact wrap_u8 h1 aa
 ·rw[wrap_i64 aa aa];omega
def GY (l:List (Int×Int)) (n i:Nat):Nat→Nat→List Rat→List Rat
 |0,_,a=>a
 |m+1,t,a=>GY l n i m (t+1) (if t<l.length then(a.set (i*n+(n - (m+1))) (qV (l.getD t (0,0)))).set ((n - (m+1))*n+i) (qV (l.getD t (0,0)))else a)
def EY (l:List (Int×Int)) (n:Nat):Nat→Nat→List Rat→List Rat
 |0,_,a=>a
 |m+1,t,a=>EY l n m (t+(m+1)) (GY l n (n - (m+1)) (m+1) t a)
def GZ (l:List (Int×Int)) (n:Nat):List Rat:=EY l n n 0 (List.replicate (n*n) 0)
def EZ (n:Nat) (a:List Rat):Prop:=a.length=n*n∧SymM n a∧Sm 130 a
theorem Iz {l:List (Int×Int)} {n i:Nat} (hq:∀q∈l,Av q) (hi:i<n):∀m t a,m≤n→EZ n a→EZ n (GY l n i m t a)
 |0,_,a,_,h=>h
 |m+1,t,a,hm,h=>by
  rw[GY]
  refine Iz hq hi m (t+1) _ aa ?_
  by_cases ht:t<l.length
  ·rw[if_pos ht]
   obtain⟨h1,h2,h3⟩:=h
   have fq:fs (qV (l.getD t (0,0)))≤130:=D3 (uM hq t)
   exact⟨by rw[List.length_set,List.length_set,h1],NL h1 h2 hi aa,NM (NM h3 fq) fq⟩
  ·rw[if_neg ht];exact h
theorem IA {l:List (Int×Int)} {n:Nat} (hq:∀q∈l,Av q):∀m t a,m≤n→EZ n a→EZ n (EY l n m t a)
 |0,_,a,_,h=>h
 |m+1,t,a,hm,h=>by
  rw[EY]
  exact IA hq m _ _ aa (Iz hq aa (m+1) t a hm h)
theorem wG {l:List (Int×Int)} (n:Nat) (hq:∀q∈l,Av q):EZ n (GZ l n):=
 IA hq n 0 _ (Nat.le_refl _) ⟨by simp,(fun i k hi hk=>by rw[el,el,D4 (eH hi hk),D4 (eH hk hi)]),HF aH (HG _)⟩
theorem ab9 (l:List (Int×Int)) (hl:l.length≤maxLen) (hq:∀q∈l,Av q) {n:Nat} (hn:n≤12):af Tryz.prog 91 [iv n,bX 2 qA l] [] (mA n n (GZ l n)) [] []:=by
 have hnn:n*n≤12*12:=Nat.mul_le_mul hn hn
 have t0:IntKind.i64.wrap ((n:Int)*(n:Int))=((n*n:Nat):Int):=by rw[←Int.natCast_mul,wrap_i64 aa aa]
 have hlen:=(wG n hq).1
 refine qU [] Tryz.func91 ?_
 intro w0 ρ0 hE
 conv=>whnf
 (repeat(first|(refine And.intro Q5 ?_;conv=>whnf)|(rw[t0];conv=>whnf)|(rw[Int.toNat_natCast];conv=>whnf)))
 refine az hE (fun k=>k) [0,1,4,5,6,7] [4,5,14] (fun m fr hp=>∃(i t:Nat) (a:List Rat),m=n - i∧i≤n∧t≤i*12∧a.length=n*n∧EY l n (n - i) t a=GZ l n∧
  fr=[(0,iv n),(1,bX 2 qA l),(4,.ptr 4 0 0 0),(5,.ptr 5 0 0 0),(6,iv (t:Nat)),(7,iv (i:Nat))]∧hp=[(4,zM),(5,bM n n 14),(14,gk a)]) n ?_ ?_ ?_
 ·kernel_rfl
 ·exact⟨0,0,_,rfl,Nat.zero_le _,Nat.zero_le _,by simp,rfl,rfl,rfl⟩
 rintro m _ _ ⟨i,t,a,rfl,hi,ht,ha,hS,rfl,rfl⟩
 conv=>whnf
 by_cases aI:i<n
 ·have t1:=jD aI
  have t2:=cp (i:=i) aa
  have e1:n - i=(n - (i+1))+1:=aa
  have e2:n - ((n - (i+1))+1)=i:=aa
  rw[e1,EY,e2,←e1]at hS
  (repeat(first|(refine ah rfl rfl ?_;conv=>whnf)|(rw[t1];conv=>whnf)))
  refine az hE (fun k=>k) [0,1,4,5,6,7,8] [4,5,14] (fun m fr hp=>∃(k t:Nat) (a:List Rat),m=n - k∧i≤k∧k≤n∧t≤i*12+k∧a.length=n*n∧EY l n (n - (i+1)) (t+(n - k)) (GY l n i (n - k) t a)=GZ l n∧
   fr=[(0,iv n),(1,bX 2 qA l),(4,.ptr 4 0 0 0),(5,.ptr 5 0 0 0),(6,iv (t:Nat)),(7,iv (i:Nat)),(8,iv (k:Nat))]∧hp=[(4,zM),(5,bM n n 14),(14,gk a)]) (n - i) ?_ ?_ ?_
  ·kernel_rfl
  ·exact⟨i,t,a,rfl,Nat.le_refl _,hi,aa,ha,hS,rfl,rfl⟩
  clear hS ht ha
  rintro m _ _ ⟨k,t,a,rfl,Kh,hk,ht,ha,hS,rfl,rfl⟩
  conv=>whnf
  by_cases hlk:k<n
  ·have t3:=jD hlk
   have t4:=cp (i:=k) aa
   have t5:=cp (i:=t) aa
   have e3:n - k=(n - (k+1))+1:=aa
   have e4:n - ((n - (k+1))+1)=k:=aa
   have e5:t+(n - k)=t+1+(n - (k+1)):=aa
   rw[e5,e3,GY,e4]at hS
   by_cases htl:t<l.length
   ·have t6:=jD htl
    have o1:=L6 (l.getD t (0,0)) (uM hq t)
    rw[if_pos htl]at hS
    obtain⟨w1,w2⟩:=pe (i:=i) (k:=k) (c:=n) aa aa aa
    obtain⟨w3,w4⟩:=pe (i:=k) (k:=i) (c:=n) aa aa aa
    have b1:=eH aI hlk
    have b2:=eH hlk aI
    (repeat((first|refine ah rfl rfl ?_|refine aB aF ?_|refine And.intro Q5 ?_|refine a8 (by assumption) ?_|refine aC Q7 ?_|refine aC Q6 ?_|refine aC (fu (α:=Int×Int) (d:=(0,0)) rfl (ak rfl) (ak rfl) (dJ rfl) rfl (dJ rfl) rfl aa) ?_|rw[t3]|rw[t6]|rw[w1]|rw[w2]|rw[w3]|rw[w4]|rw[t5]|rw[t4]|rw[Int.toNat_natCast]|rw[Nat.zero_add]);conv=>whnf))
    refine⟨n - (k+1),fun k=>k,[0,1,4,5,6,7,8],[4,5,14],aa,aF,k+1,t+1,_,rfl,aa,hlk,aa, ?_,hS,rfl,rfl⟩
    rw[List.length_set,List.length_set,ha]
   ·have t6:=jP htl
    rw[if_neg htl]at hS
    (repeat((first|refine ah rfl rfl ?_|refine ag rfl rfl ?_|refine aC Q7 ?_|rw[t3]|rw[t6]|rw[t5]|rw[t4]);conv=>whnf))
    exact⟨n - (k+1),fun k=>k,[0,1,4,5,6,7,8],[4,5,14],aa,aF,k+1,t+1,a,rfl,aa,hlk,aa,ha,hS,rfl,rfl⟩
  ·have t3:=jP hlk
   obtain rfl:k=n:=aa
   rw[Nat.sub_self,GY]at hS
   (repeat(first|(refine ag rfl rfl ?_;conv=>whnf)|(rw[t3];conv=>whnf)|(rw[t2];conv=>whnf)))
   exact⟨k - (i+1),fun k=>k,[0,1,4,5,6,7],[4,5,14],aa,aF,i+1,t,a,rfl,aI,aa,ha,hS,rfl,rfl⟩
 ·have t1:=jP aI
  obtain rfl:i=n:=aa
  rw[Nat.sub_self,EY]at hS
  subst hS
  (repeat(first|(refine ag rfl rfl ?_;conv=>whnf)|(rw[t1];conv=>whnf)))
  exact Q16
set_option maxHeartbeats 40000000
def plF (n:Nat) (p:Int):Int:=p % (n:Int)
def places (l:List Int) (n:Nat) (b:Bool):List Int:=(if b then(List.range n).map (fun i=>((i:Nat):Int))else[])++(if n=0 then[]else l.map (plF n))
abbrev NT (l:List Int):aA:=⟨3,true,.ints .i64 l⟩
theorem E0 {E:Env} (t k:Nat) {c:Code} {K:bK} {fr:List (Nat×SV)} {hp:List (Nat×aA)} {ty:TypeId} {n:Nat} {kd:IntKind} {xs:List Int} (hW:∀b,¬E.W0 b) (ht:lk fr t=some (.aK k 1 0 n)) (hk:find hp k=some ⟨ty,true,.ints kd xs⟩)
  (hn:n=xs.length) (hs:dG E c K ((t,mc kd xs)::fr) (eD hp k ⟨ty,true,.dead⟩)):dG E c K fr hp:=by
 refine kN t k (xs:=xs.map (iF kd)) hW ht hk rfl rfl (bT (fun _=>rfl) xs) (by simp;omega) ?_
 rw[gU (by simp;omega)]
 exact hs
end Go.Proofs.YtfpagioknjjacaaGreatDoor
