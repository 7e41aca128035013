/- The texts Fb, Oa, Of, Oc, Od, Oe, Ok, Ow, Pb, Qr, Qs, Nk, Nl, Qt, Nm, Qu, Qv, Qw. -/
import Derived.Test.YtfpagioknjjacaaGreatDoorQMElimsKnown3
import Derived.Test.YtfpagioknjjacaaGreatDoorQMElimsKnown2
import Derived.Test.YtfpagioknjjacaaGreatDoorQMElimsKnown5
import Derived.Test.YtfpagioknjjacaaGreatDoorQMElimsKnown6
import Derived.Test.YtfpagioknjjacaaGreatDoorQMElimsKnown14
import Derived.Test.YtfpagioknjjacaaGreatDoorQMElimsKnown15
import Derived.Test.YtfpagioknjjacaaGreatDoorQMElimsKnown12
import Derived.Test.YtfpagioknjjacaaGreatDoorQMElimsKnown13
namespace Go.Proofs.YtfpagioknjjacaaGreatDoor
open Go.Sx
set_option linter.unusedSimpArgs false
set_option linter.unusedVariables false
set_option maxRecDepth 100000
set_option maxHeartbeats 4000000
variable {M:Nat}
structure Words (M:Nat) (xs:List Int):Prop where
 w32:fL xs
 len:xs.length<1099511627776
 fit:32*xs.length+33≤M
end Go.Proofs.YtfpagioknjjacaaGreatDoor
namespace Go.Proofs.YtfpagioknjjacaaGreatDoor
open Go.Sx
set_option linter.unusedSimpArgs false
set_option linter.unusedVariables false
set_option maxRecDepth 100000
set_option maxHeartbeats 4000000
def zs (z:Int):Nat:=sz z.natAbs+1
theorem Y7 (a b:Int):zs (a+b)≤zs a+zs b:=by
 have:=xi (a:=a.natAbs) (b:=b.natAbs) (k:=max (sz a.natAbs) (sz b.natAbs)) aa aa
 have:=fK (Int.natAbs_add_le a b)
 unfold zs;omega
theorem Y8 (a:Int):zs (-a)=zs a:=by unfold zs;rw[Int.natAbs_neg]
theorem Y9 (a b:Int):zs (a - b)≤zs a+zs b:=by rw[Int.sub_eq_add_neg,←Y8 b];exact Y7 _ _
theorem LY (a b:Int):zs (a*b)≤zs a+zs b:=by
 have:=fX a.natAbs b.natAbs
 unfold zs;rw[Int.natAbs_mul];omega
theorem Za (a b:Int):zs (a/b)≤zs a:=by
 have:=fK (Int.natAbs_ediv_le_natAbs a b)
 unfold zs;omega
theorem aem:zs 1=2:=by decide+kernel
def Ed (r c:Nat) (f:Mz):List Int:=(List.range (r*c)).map fun p=>f (p/c) (p % c)
abbrev q9 (a:List Int) (c i k:Nat):Int:=a.getD (i*c+k) 0
theorem sW (r c:Nat) (f:Mz):(Ed r c f).length=r*c:=by simp[Ed]
theorem LZ {r c:Nat} {f:Mz} {p:Nat} (hp:p<r*c):(Ed r c f).getD p 0=f (p/c) (p % c):=by
 simp[Ed,List.getD_eq_getElem?_getD,hp]
theorem uM {r c i k:Nat} {f:Mz} (hi:i<r) (hk:k<c):q9 (Ed r c f) c i k=f i k:=by
 rw[q9,LZ (gF hi hk),vW hk,vX hk]
theorem O9 {a b:List Int} {n:Nat} (ha:a.length=n) (hb:b.length=n) (h:∀p,p<n→a.getD p 0=b.getD p 0):a=b:=by
 refine List.ext_getElem aa fun p h1 h2=> ?_
 have:=h p aa
 rwa [List.getD_eq_getElem?_getD,List.getD_eq_getElem?_getD,List.getElem?_eq_getElem h1,List.getElem?_eq_getElem h2]at this
theorem Pa {a b:List Int} {r c:Nat} (ha:a.length=r*c) (hb:b.length=r*c) (h:∀i k,i<r→k<c→q9 a c i k=q9 b c i k):a=b:=by
 refine O9 ha hb fun p hp=> ?_
 obtain⟨h1,h2,h3⟩:=iQ hp
 have:=h _ _ h1 h2
 rwa [q9,q9,h3]at this
theorem G5 {a:List Int} {r c:Nat} {f:Mz} (ha:a.length=r*c) (h:∀i k,i<r→k<c→f i k=q9 a c i k):Ed r c f=a:=
 Pa (sW ..) ha fun i k hi hk=>by rw[uM hi hk,h i k hi hk]
theorem uN {r c:Nat} {f g:Mz} (h:∀i k,i<r→k<c→f i k=g i k):Ed r c f=Ed r c g:=
 G5 (sW ..) fun i k hi hk=>by rw[uM hi hk,h i k hi hk]
theorem L0 {a:List Int} {r c:Nat} (ha:a.length=r*c):Ed r c (q9 a c)=a:=G5 ha fun _ _ _ _=>rfl
def Zm (B:Nat) (l:List Int):Prop:=∀p,p<l.length→zs (l.getD p 0)≤B
theorem QZ {r c B:Nat} {f:Mz} (h:∀i k,i<r→k<c→zs (f i k)≤B):Zm B (Ed r c f):=by
 intro p hp
 rw[sW]at hp
 obtain⟨h1,h2,_⟩:=iQ hp
 rw[LZ hp];exact h _ _ h1 h2
theorem pd {a:List Int} {r c B i k:Nat} (h:Zm B a) (ha:a.length=r*c) (hi:i<r) (hk:k<c):zs (q9 a c i k)≤B:=h _ (by rw[ha];exact gF hi hk)
theorem Zm.mono {B C:Nat} {a:List Int} (h:Zm B a) (hBC:B≤C):Zm C a:=fun p hp=>Nat.le_trans (h p hp) hBC
structure OKZ (R C:Nat) (a:List Int):Prop where
 r:R≤2048
 c:C≤2048
 n:a.length=R*C
def iB (n:Nat):List Int:=(List.range n).map fun i:Nat=>(i:Int)
theorem pe (i:Nat):iB (i+1)=iB i++[(i:Int)]:=by simp[iB,List.range_succ]
theorem mg (i:Nat):(iB i).length=i:=by simp[iB]
end Go.Proofs.YtfpagioknjjacaaGreatDoor
namespace Go.Sx
set_option linter.unusedSimpArgs false
set_option linter.unusedVariables false
theorem vv {E:Env} (t k:Nat) {c:Code} {K:bI} {fr:List (Nat×SV)} {hp:List (Nat×aF)} {ty:TypeId} {cs:List SV} (hW:∀b,¬E.W0 b) (ht:lk fr t=some (.ptr k 0 0 0)) (hk:find hp k=some ⟨ty,true,.one cs⟩)
  (od:bn cs=true) (hs:ey E c K ((t,bE cs)::fr) (ff hp k ⟨ty,true,.dead⟩)):ey E c K fr hp:=by
 refine⟨fun a W hR=>hs.run a W ?_⟩
 have hl:(Data.one cs).live=true:=rfl
 obtain⟨ρ,hext,hfx,hR⟩:=hR
 have Ci:(fn fr hp (.k k)).blk=some ⟨ty,true,.one cs⟩:=by simp only[fn,LV.blk];exact hk
 have hv:=hR.fr t _ (by simp only[fn,LV.sv];exact ht)
 obtain⟨x,hx,hxv⟩:=(iW (c:=.ptr k 0 0 0) rfl).1 hv
 have ek:∀j b,(fn ((t,bE cs)::fr) (ff hp k ⟨ty,true,.dead⟩) (.k j)).blk=some b→(j=k∧b=⟨ty,true,.dead⟩)∨(j≠k∧(fn fr hp (.k j)).blk=some b):=by
  intro j b hb
  simp only[fn,LV.blk,cq]at hb ⊢
  by_cases hj:j=k
  ·rw[if_pos hj]at hb;exact .inl ⟨hj,(Option.some.inj hb).symm⟩
  ·rw[if_neg hj]at hb;exact .inr ⟨hj,hb⟩
 have fin:∀ρ':bU,ρ'.key=ρ.key→(∀b o,ρ.bf b=some o→ρ'.bf b=some o)→(∀b o,ρ'.bf b=some o→ρ.bf b=some o∨E.w0.heap.size≤b)→(∀b o,ρ'.bf b=some o→W.heap[b]? =some o)→
   (∀j b x,j≠k→(fn fr hp (.k j)).blk=some b→b.wr=true→b.data.live=true→ρ.key j=some x→ρ'.bf x.1=none)→(∀D,W.heap[D]? =some (.deferred (some []))→ρ.bf D=none→ρ'.bf D=none)→Has ρ' (bE cs) (a.tmps.getD t undef)→
   RR E (fn ((t,bE cs)::fr) (ff hp k ⟨ty,true,.dead⟩)) a W:=by
  intro ρ' b9 himm eX hheap jg hmark hhas
  have hle:ρ.Le ρ':=⟨fun j y hy=>by rw[b9];exact hy,himm⟩
  refine⟨ρ',⟨hext.le.trans hle,fun b o hb=>(eX b o hb).elim (fun h=>hext.bf b o h) .inr,fun j hj=>by rw[b9];exact hext.fix j hj⟩,fun j hj=> ?_,{defers:= ?_,size:=hR.size,fr:= ?_,bK:=hR.bK,hp:= ?_}⟩
  ·have:=hfx j hj
   simp only[fn,LV.blk,cq]at this ⊢
   split
   ·simp
   ·exact this
  ·obtain⟨Ds,d1,d2,d3⟩:=hR.defers
   refine⟨Ds,d1,d2,fun D hD=> ?_⟩
   obtain⟨e1,e2,e3⟩:=d3 D hD
   refine⟨e1,e2, ?_⟩
   exact hmark D e2 e3
  ·intro u sv hu
   simp only[fn,LV.sv,lk]at hu
   cases hb:Nat.beq t u with
   |true=>
    rw[hb]at hu
    simp only[Option.some.injEq]at hu
    subst hu
    rw[←Nat.eq_of_beq_eq_true hb]
    exact hhas
   |false=>rw[hb]at hu;exact Has.mono hle _ _ (hR.fr u sv (by simp only[fn,LV.sv];exact hu))
  ·constructor
   ·intro j b hb
    rcases ek j b hb with⟨rfl,rfl⟩|⟨hj,hb⟩
    ·exact .inl rfl
    ·rcases hR.hp.blk j b hb with g0|⟨b',t',vs,ex,g1,g2,g3,g4⟩|⟨g1,g2⟩
     ·exact .inl g0
     ·exact .inr (.inl ⟨b',t',vs,ex,by rw[b9];exact g1,g2,g3.mono hle,g4⟩)
     ·exact .inr (.inr ⟨by rw[b9];exact g1,g2⟩)
   ·intro j j' y y' b b' hy Eo bW hyy hb gu eR iC
    rw[b9]at hy Eo
    rcases ek j b hb with⟨_,rfl⟩|⟨_,hb⟩
    ·cases eR
    rcases ek j' b' gu with⟨_,rfl⟩|⟨_,gu⟩
    ·cases iC
    exact hR.hp.sep j j' y y' b b' hy Eo bW hyy hb gu eR iC
   ·intro j b y hb hwr eR hy
    rw[b9]at hy
    rcases ek j b hb with⟨_,rfl⟩|⟨_,hb⟩
    ·cases eR
    exact hR.hp.own j b y hb hwr eR hy
   ·intro j y hy
    rw[b9]at hy
    obtain⟨b,hb⟩:=hR.hp.ug j y hy
    simp only[fn,LV.blk,cq]at hb ⊢
    split
    ·exact⟨_,rfl⟩
    ·exact⟨b,hb⟩
   ·exact hheap
   ·intro j b y hb hwr eR hy
    rw[b9]at hy
    rcases ek j b hb with⟨_,rfl⟩|⟨hj,hb⟩
    ·cases eR
    exact jg j b y hj hb hwr eR hy
 simp only[aL]at hx
 obtain⟨b,t',h1,rfl⟩:=hx
 rcases hR.hp.blk k _ Ci with g0|⟨b',t'',vs,ex,g1,g2,g3,g4,g5⟩|⟨g1,_⟩
 ·cases g0
 ·rw[h1]at g1
  cases g1
  rw[Data.cT rfl]at g2
  have h2:W.heap[b]? =some (.cells (vs++ex).toArray ty (0,0)):=g2
  simp only[da]at g3
  obtain⟨z,z1,rfl⟩:=g3
  have hB:E.w0.heap.size≤b:=(hR.hp.own k _ _ Ci rfl hl h1).resolve_right (hW _)
  obtain⟨u,Hn⟩:=(Up.refl ρ W E.w0.heap.size).add hR.hp.bf hB h2
  refine fin ⟨ρ.key,_,u.cw⟩ rfl u.le (fun b o hb=>(u.new b o hb).imp id (fun h=>h.1)) (fun c p hc=> ?_) (fun j blk y hj hb hwr eR hy=> ?_) (fun D Nk hD2=> ?_) ?_
  ·rcases u.new c p hc with h|h
   ·exact hR.hp.bf c p h
   ·exact h.2
  ·show(if y.1=b then some _ else ρ.bf y.1)=none
   rw[if_neg]
   ·exact hR.hp.eV j blk y hb hwr eR hy
   ·intro he2
    have:=hR.hp.sep k j (b,t') y _ _ h1 hy (fun h=>hj h.symm) he2.symm Ci hb hl eR
    cases this
  ·show(if D=b then some _ else ρ.bf D)=none
   rw[if_neg,hD2]
   rintro rfl
   rw[Nk]at h2;cases h2
  ·rw[hxv]
   have hz:aw (cR (fun x=>if x=b then some (.cells (z.flatten++ex).toArray ty (0,0))else ρ.bf x) u.cw) cs z:=cl (ρ:=ρ) u.le cs z od z1
   refine oF ⟨b,z,[],ex,ty,(0,0),if_pos rfl,hz, ?_⟩
   simp[cQ,SV.bl]
 ·rw[h1]at g1;cases g1
end Go.Sx
namespace Go.Proofs.YtfpagioknjjacaaGreatDoor
open Go.Sx
set_option linter.unusedSimpArgs false
set_option linter.unusedVariables false
set_option maxRecDepth 100000
set_option maxHeartbeats 4000000
def crZ (a:List Int) (c i k:Nat):Int:=q9 a c 0 0*q9 a c (i+1) (k+1) - q9 a c (i+1) 0*q9 a c 0 (k+1)
theorem Zb {a:List Int} {r c i k B:Nat} (h:Zm B a) (ha:a.length=(r+1)*(c+1)) (hi:i<r) (hk:k<c):zs (crZ a (c+1) i k)≤4*B:=by
 have h1:=pd h ha (i:=0) (k:=0) aa aa
 have h2:=pd h ha (i:=i+1) (k:=k+1) aa aa
 have h3:=pd h ha (i:=i+1) (k:=0) aa aa
 have h4:=pd h ha (i:=0) (k:=k+1) aa aa
 have:=Y9 (q9 a (c+1) 0 0*q9 a (c+1) (i+1) (k+1)) (q9 a (c+1) (i+1) 0*q9 a (c+1) 0 (k+1))
 have:=LY (q9 a (c+1) 0 0) (q9 a (c+1) (i+1) (k+1))
 have:=LY (q9 a (c+1) (i+1) 0) (q9 a (c+1) 0 (k+1))
 unfold crZ;omega
abbrev nxt (r c:Nat) (a:List Int) (b:Int):List Int:=Ed r c fun i k=>crZ a (c+1) i k/b
set_option maxHeartbeats 40000000
abbrev zS:aF:=⟨294,true,.one [iv 0,iv 0,.val (.slice none 0 0),.int 0,iv 0]⟩
structure za (n s B:Nat) (A0:Mz) (a:List Int) (b:Int) (w:Nat):Prop where
 le:s≤n
 ex:∃A:Mz,a=Ed (n - s) (n - s) (yd s A)∧b=iE s A∧b≠0∧iE n A0=IJ w*iE n A
 z:Zm (B*4^s) a
 zb:zs b≤B*4^s
 w:w≤s
theorem za.start {n B:Nat} {a:List Int} (ha:a.length=n*n) (hB:2≤B) (h:Zm B a):za n 0 B (q9 a n) a 1 0 where
 le:=Nat.zero_le _
 ex:=⟨q9 a n,by rw[←L0 ha,Nat.sub_zero];exact uN fun i k hi hk=>by rw[Lo,uM hi hk],rfl,aI,by rw[IJ,Int.one_mul]⟩
 z:=by rw[Nat.pow_zero,Nat.mul_one];exact h
 zb:=by rw[aem];omega
 w:=Nat.le_refl _
theorem za.fin {n B:Nat} {A0:Mz} {a:List Int} {b:Int} {w:Nat} (h:za n n B A0 a b w):iE n A0=if w % 2=1 then -b else b:=by
 obtain⟨A,_,rfl,_,e⟩:=h.ex
 rw[e,wg]
 split<;>omega
theorem za.none {n s B:Nat} {A0:Mz} {a:List Int} {b:Int} {w:Nat} (h:za n s B A0 a b w) (hs:s<n) (h0:∀i,i<n - s→q9 a (n - s) i 0=0):iE n A0=0:=by
 obtain⟨A,rfl,rfl,hb,e⟩:=h.ex
 rw[e,Lq hb hs fun i hi=>by have:=h0 i aa;rwa [uM aa aa]at this,Int.mul_zero]
theorem za.agS {n s B:Nat} {A0:Mz} {a:List Int} {b:Int} {w j:Nat} (h:za n s B A0 a b w) (hj:s+j<n):
  ∃w',w'=(if 0<j then w+1 else w)∧(∃A:Mz,Ed (n - s) (n - s) (jr (q9 a (n - s)) 0 j)=Ed (n - s) (n - s) (yd s A)∧b=iE s A∧b≠0∧iE n A0=IJ w'*iE n A)∧Zm (B*4^s) (Ed (n - s) (n - s) (jr (q9 a (n - s)) 0 j)):=by
 obtain⟨A,ha,hb,hb0,e⟩:=h.ex
 have hl:a.length=(n - s)*(n - s):=by rw[ha,sW]
 refine⟨_,rfl,⟨jr A s (s+j), ?_, ?_,hb0, ?_⟩, ?_⟩
 ·refine uN fun p q hp hq=> ?_
  rw[Lr]
  have e2:∀p,p<n - s→q9 a (n - s) p q=yd s A p q:=fun p hp=>by rw[ha,uM hp hq]
  unfold jr
  by_cases h1:p=0
  ·rw[if_pos h1,if_pos h1,e2 j aa]
  ·rw[if_neg h1,if_neg h1]
   by_cases h2:p=j
   ·rw[if_pos h2,if_pos h2,e2 0 aa]
   ·rw[if_neg h2,if_neg h2,e2 p hp]
 ·rw[ye,hb]
 ·by_cases g:0<j
  ·rw[if_pos g,H0 A aa hj aa,IJ,e,Int.neg_mul_neg]
  ·rw[if_neg g,show s+j=s by omega,Fp,e]
 ·refine QZ fun p q hp hq=> ?_
  unfold jr
  split
  ·exact pd h.z hl aa hq
  ·split
   ·exact pd h.z hl aa hq
   ·exact pd h.z hl hp hq
theorem za.next {n s B:Nat} {A0:Mz} {a:List Int} {b:Int} {w:Nat} (hs:s<n) (hw:w≤s+1) (hz:Zm (B*4^s) a) (hx:∃A:Mz,a=Ed (n - s) (n - s) (yd s A)∧b=iE s A∧b≠0∧iE n A0=IJ w*iE n A) (h0:q9 a (n - s) 0 0≠0):
  za n (s+1) B A0 (nxt (n - (s+1)) (n - (s+1)) a b) (q9 a (n - s) 0 0) w:=by
 obtain⟨A,ha,hb,hb0,e⟩:=hx
 have hl:a.length=(n - s)*(n - s):=by rw[ha,sW]
 have hn:n - s=n - (s+1)+1:=aa
 have e2:∀p q,p<n - s→q<n - s→q9 a (n - s) p q=yd s A p q:=fun p q hp hq=>by rw[ha,uM hp hq]
 have acz:B*4^(s+1)=4*(B*4^s):=by rw[Nat.pow_succ];rw[←Nat.mul_assoc,Nat.mul_comm]
 refine⟨hs,⟨A, ?_, ?_,h0,e⟩, ?_, ?_,hw⟩
 ·refine uN fun i k hi hk=> ?_
  rw[crZ,←hn,e2 0 0 aa aa,e2 (i+1) (k+1) aa aa,e2 (i+1) 0 aa aa,e2 0 (k+1) aa aa,hb]
  exact OU (by rwa [hb]at hb0) i k
 ·rw[e2 0 0 aa aa,HZ]
 ·rw[acz]
  refine QZ fun i k hi hk=>Nat.le_trans (Za _ _) ?_
  exact Zb hz (by rw[hl,hn]) hi hk
 ·rw[acz]
  have:=pd hz hl (i:=0) (k:=0) aa aa;omega
end Go.Proofs.YtfpagioknjjacaaGreatDoor
namespace Go.Sx
set_option linter.unusedSimpArgs false
set_option linter.unusedVariables false
section
variable {P:Program} {o:Oper} {ft:List (Nat×SV)} {fk:List (Nat×aF)}
end
end Go.Sx
namespace Go.Proofs.YtfpagioknjjacaaGreatDoor
open Go.Sx
set_option linter.unusedSimpArgs false
set_option linter.unusedVariables false
set_option maxRecDepth 100000
set_option maxHeartbeats 40000000
theorem BZ {n i:Nat} (hi:i<n):(iB n).getD i 0=i:=by simp[iB,List.getD_eq_getElem?_getD,hi]
theorem Pb (q:Rat) (h:fs q≤100000000):ab Tryz.prog 37 [.frac q,fF q] [] (.val (.bool true)) [] []:=by
 have k1:=Gw q aa
 have k2:=GI q h
 generalize tQ q=s at*
 have t1:(s.toList==s.toList)=true:=beq_self_eq_true _
 refine bT [2,3] Tryz.func37 ?_
 intro W0 w0 ρ0 hE
 conv=>whnf
 (repeat((first|refine aq av ?_|refine aS (by assumption) ?_|rw[beq_self_eq_true]|refine ah Q5 ?_);conv=>whnf))
 exact au.refl _
end Go.Proofs.YtfpagioknjjacaaGreatDoor
namespace Go.Sx
set_option linter.unusedSimpArgs false
set_option linter.unusedVariables false
theorem cB {E:Env} {c:Code} {K:bI} {fr fr1:List (Nat×SV)} {hp hp1:List (Nat×aF)} (h:∀K':bI,K' .normal fr1 hp1→ey E c K' fr hp) (hk:K .normal fr1 hp1):ey E c K fr hp:=h K hk
end Go.Sx
namespace Go.Proofs.YtfpagioknjjacaaGreatDoor
open Go.Sx
set_option linter.unusedSimpArgs false
set_option linter.unusedVariables false
set_option maxRecDepth 100000
set_option maxHeartbeats 40000000
theorem mh {E:Env} (t:Nat) (ts ks:List Nat) {fr:List (Nat×SV)} {hp:List (Nat×aF)} {m:Nat} (hW:∀b,¬E.W0 b) (ht:lk fr t=some (.ptr 1001 0 0 0)) (h1:find hp 1001=some (QX m))
  (MK:eg ks fr ts=true) (Kc:dz ks hp ks=true) (hn3:(rJ (fun k=>k) ks&&ve (fun k=>k) ks E.fx)=true) (hb:Y5 ks=true) (hE:E.OK):
  ∀a w,RR E (fn fr hp) a w→RR E (fn ((t,nU 0 m 0 (fun _=>[]) [] 1)::fg (fun k=>k) ((t,nU 0 m 0 (fun _=>[]) [] 1)::fr) ts) (nb hp ks)) a w:=by
 intro a w hR
 have uv:∀k∈ks,k<1000:=fun k hk=>by simpa [Nat.blt_eq]using List.all_eq_true.1 hb k hk
 have r4:=lf t 1001 hW ht rfl rfl (na h1 (fun _ z hz=>LH z hz) hR)
 generalize hq:ff _ 1001 _=HH at r4
 have wE:∀k∈ks,find HH k=find hp k:=fun k hk=>by
  have:=uv k hk
  rw[←hq,cq,if_neg aa,sN aa]
 have DE:ig E.fx (fun k=>k) (t::ts) ks ((t,nU 0 m 0 (fun _=>[]) [] 1)::fr) HH=true:=by
  refine kg ?_ (by rw[nT wE];exact Kc) hn3
  rw[eg]
  simp only[lk,Nat.beq_refl]
  rw[js MK];rfl
 have r5:=py hE DE r4
 rw[oX,qT wE]at r5
 rw[fg]at r5
 simp only[lk,Nat.beq_refl]at r5
 exact r5
theorem acA (W:Mx):∀c,iz 0 c ⟨W,[],1⟩=⟨W,[],1⟩
 |0=>rfl
 |c+1=>by rw[pP,acA W c];rfl
abbrev dR (r c:Nat) (W:Mx):St:=lg r c ⟨W,[],1⟩
abbrev zd (c:Nat) (a:List Rat):Mx:=dN a c fun _ _=>0
theorem gU {c:Nat} {W:Mx} {s:St} (hs:dR 0 c W=s):s.aH=[]∧s.d=1:=by
 have h:=gS 0 W c
 rw[show lg 0 c ⟨W,[],1⟩=s from hs,acA]at h
 exact⟨h.aH,h.d⟩
theorem G6 {r n c:Nat} {w:Mx} (f:Nat) (h:f+n≤c):mk r n (fun i k=>(aR c w i).getD (f+k) 0)=mk r n fun i k=>w i (f+k):=mk_congr fun i k _ hk=>dn aa
theorem wv {r c A:Nat} {a:List Rat} (ha:dV r c a) (sa:Sm A a):∀i q,i<r→q<c+0→fs (zd c a i q)≤A:=yp ha sa fun i k _ hk=>absurd hk (Nat.not_lt_zero _)
theorem DO {r c A:Nat} {a:List Rat} (ha:dV r c a) (hr:r≤6) (hc:c≤40) (sa:Sm A a) (h2:2≤A) (hA:4096*A≤4398046511104) {s:St} (hs:dR r c (zd c a)=s):
  ab Tryz.prog 113 [mA r c a] [] (.ck [mA r c (mk r c s.w),cO .i64 (s.aH.map cY),iv 0]) [] []:=by
 have k1:=er ha
 have rz:=wv ha sa
 have k4:=Fx (r:=r) (m:=c) (c:=c+0) (n:=c) (M:=aR (c+0) s.w) (pv:=s.aH.map cY) (d:=s.d) (fun i _=>bC _ _) 0 aa aa aa
 rw[G6 0 aa]at k4
 simp only[Nat.zero_add]at k4
 refine fZ [1,100004] Tryz.func113 ?_
 intro w0 ρ0 hE
 conv=>whnf
 (repeat((first|refine ae rfl rfl ?_|refine aS (by assumption) ?_|rw[bne_self_eq_false]|refine ah Q5 ?_);conv=>whnf))
 refine cB (fr1:=[(6,nU r c (c+0) (aR (c+0) s.w) (s.aH.map cY) s.d),(1,bE (mC r c a)),(2,.ptr 2 0 0 0),(3,.val (.slice none 0 0)),(4,iv 0)]) (hp1:=[(2,zM)]) (fun K hK=> ?_) ?_
 case refine_2=>
  conv=>whnf
  (repeat((first|refine aq av ?_|refine aS (by assumption) ?_|refine ah Q5 ?_|refine ah Q7 ?_|refine ah uq ?_);conv=>whnf));exact Q4
 rcases(show r=0∨1≤r by omega)with e0|e0
 ·subst e0
  obtain⟨n7,p8⟩:=gU hs
  have kz:=uL (c:=c) 0 a 222 ha
  have k3:=fT c aa
  rw[n7,p8]at hK
  refine eh hE 100 ?_
  conv=>whnf
  (repeat(first|(refine lG (by assumption) rfl ?_;conv=>whnf)|(refine ah Q5 ?_;conv=>whnf)|(refine qe k3 EG ar ?_;conv=>whnf)))
  exact⟨_,_,mh 6 [1,2,3,4] [2] (fun _ h=>h) rfl rfl av av av rfl hE,hK⟩
 ·have k2:=yl (r:=r) 0 a (fun _ _=>0) 222 hr e0 ha hc aa (fun i k hi hk=>absurd hk (Nat.not_lt_zero _))
  have k3:=fS (r:=r) c (c+0) A (zd c a) s hr e0 (Nat.le_add_right _ _) aa rz h2 hA hs
  have gW:(s.aH.map cY).length=s.aH.length:=List.length_map _
  rcases(show r=1∨r=2∨r=3∨r=4∨r=5∨r=6 by omega)with e1|e1|e1|e1|e1|e1
  all_goals
   rw[e1]at k2 k3 hK
   rw[e1]
   refine eh hE 100 ?_
   conv=>whnf
   (repeat((first|refine ah Q5 ?_|refine⟨[],_,_,[],k2,aM,Cj,ar, ?_⟩|refine⟨H4 _ _ _ _,_,_,_,k3,NB,Cj,dm rfl rfl, ?_⟩|rw[Nat.zero_add]);conv=>whnf))
   exact⟨_,_,jU (M:=aR _ s.w) 6 [1,2,3,4] [2] (fun _ h=>h) rfl rfl rfl rfl (by intro j hj;rcases(show j=0∨j=1∨j=2∨j=3∨j=4∨j=5 by omega)with e|e|e|e|e|e<;>first|omega|(subst e;exact⟨rfl,(bC _ _).symm⟩)) gW.symm av av av rfl aI hE,hK⟩
theorem Zc {r c A:Nat} {a:List Rat} (ha:dV r c a) (hr:r≤6) (hc:c≤40) (sa:Sm A a) (h2:2≤A) (hA:4096*A≤4398046511104) {s:St} (hs:dR r c (zd c a)=s):
  ab Tryz.prog 115 [mA r c a] [] (.ck [iv s.aH.length,iv 0]) [] []:=by
 have k1:=DO ha hr hc sa h2 hA hs
 have gW:(s.aH.map cY).length=s.aH.length:=List.length_map _
 refine fZ [1] Tryz.func115 ?_
 intro w0 ρ0 hE
 conv=>whnf
 (repeat((first|refine aS (by assumption) ?_|refine ah Q8 ?_|refine ah Q5 ?_|rw[gW]);conv=>whnf));exact Q4
theorem pg (r c:Nat) (W:Mx) {s:St} (hs:dR r c W=s):s.aH.length≤r∧∀j,j<s.aH.length→s.aH.getD j 0<c:=by
 have h:=gS r W c
 rw[show lg r c ⟨W,[],1⟩=s from hs]at h
 have hi:=Inv.red (r:=r) (W:=W) c
 exact⟨h.le,fun j hj=>by rw[h.aH]at hj ⊢;exact hi.lt j hj⟩
theorem L1 {r c A:Nat} {a:List Rat} (ha:dV r c a) (hr:r≤6) (hc:c≤40) (sa:Sm A a) (h2:2≤A) (hA:4096*A≤4398046511104) {s:St} (hs:dR r c (zd c a)=s):
  ab Tryz.prog 122 [mA r c a] [] (.ck [bF 1 aN ((aU s.aH c).map (yP (aR (c+0) s.w) s.aH c)),iv 0]) [] []:=by
 have k1:=er ha
 have rz:=wv ha sa
 obtain⟨eR,iC⟩:=pg r c _ hs
 have k4:=sR (r:=r) (m:=c) (c:=c+0) (M:=aR (c+0) s.w) (sp:=s.aH) (d:=s.d) (fun i _=>bC _ _) aa aa aa eR iC
 refine fZ [1,100004] Tryz.func122 ?_
 intro w0 ρ0 hE
 conv=>whnf
 (repeat((first|refine ae rfl rfl ?_|refine aS (by assumption) ?_|rw[bne_self_eq_false]|refine ah Q5 ?_);conv=>whnf))
 rcases(show r=0∨1≤r by omega)with e0|e0
 ·subst e0
  obtain⟨n7,p8⟩:=gU hs
  have kz:=uL (c:=c) 0 a 222 ha
  have k3:=fT c aa
  rw[n7,p8]at k4;rw[n7]
  refine eh hE 3 ?_
  conv=>whnf
  (repeat(first|(refine lG (by assumption) rfl ?_;conv=>whnf)|(refine ah Q5 ?_;conv=>whnf)|(refine qe k3 EG ar ?_;conv=>whnf)))
  refine⟨_,_,mh 12 [1,2,3] [] (fun _ h=>h) rfl rfl av av av rfl hE, ?_⟩
  conv=>whnf
  (repeat(first|(refine aS (by assumption) ?_;conv=>whnf)));exact Q4
 ·have k2:=yl (r:=r) 0 a (fun _ _=>0) 222 hr e0 ha hc aa (fun i k hi hk=>absurd hk (Nat.not_lt_zero _))
  have k3:=fS (r:=r) c (c+0) A (zd c a) s hr e0 (Nat.le_add_right _ _) aa rz h2 hA hs
  have gW:(s.aH.map cY).length=s.aH.length:=List.length_map _
  rcases(show r=1∨r=2∨r=3∨r=4∨r=5∨r=6 by omega)with e1|e1|e1|e1|e1|e1
  all_goals
   rw[e1]at k2 k3 k4
   rw[e1]
   refine eh hE 3 ?_
   conv=>whnf
   (repeat((first|refine ah Q5 ?_|refine⟨[],_,_,[],k2,aM,Cj,ar, ?_⟩|refine⟨H4 _ _ _ _,_,_,_,k3,NB,Cj,dm rfl rfl, ?_⟩|rw[Nat.zero_add]);conv=>whnf))
   refine⟨_,_,jU (M:=aR _ s.w) 12 [1,2,3] [] (fun _ h=>h) rfl rfl rfl rfl (by intro j hj;rcases(show j=0∨j=1∨j=2∨j=3∨j=4∨j=5 by omega)with e|e|e|e|e|e<;>first|omega|(subst e;exact⟨rfl,(bC _ _).symm⟩)) gW.symm av av av rfl aI hE, ?_⟩
   conv=>whnf
   (repeat(first|(refine aS (by assumption) ?_;conv=>whnf)));exact Q4
theorem At {r c:Nat} {a b:List Rat} (ha:dV r c a) (hb:b.length=r):ab Tryz.prog 232 [mA r c a,aN b] [] (iv 0) [] []:=by
 have k1:=er ha
 have hr:=ha.r
 have t1:decide ((r:Int)>2048)=false:=decide_eq_false aa
 have t2:((r:Int) != (r:Int))=false:=bne_self_eq_false _
 refine bT [2] Tryz.func232 ?_
 intro W0 w0 ρ0 hE
 conv=>whnf
 (repeat((first|refine ae rfl rfl ?_|refine aS (by assumption) ?_|rw[bne_self_eq_false]|refine ay t1 ?_|refine ah Q8 ?_|refine ah Q5 ?_|refine ah Q7 ?_|rw[hb]);conv=>whnf));exact Q4
theorem yr {b:List Rat} (i k:Nat) (hi:i<b.length):ab Tryz.prog 233 ([]++([iv (i:Nat),iv (k:Nat)]++[bE [aN b]])) [] (.frac (b.getD i 0)) [] []:=by
 refine bT [] Tryz.func233 ?_
 intro W0 w0 ρ0 hE
 conv=>whnf
 (repeat(first|(refine ah og ?_;conv=>whnf)|(refine ah Q5 ?_;conv=>whnf)));exact Q4
def xS (M:Nat→List Rat) (sp:List Nat) (c m:Nat):Nat→List Rat
 |0=>List.replicate m 0
 |i+1=>(xS M sp c m i).set (sp.getD i 0) ((M i).getD c 0)
theorem ph (M:Nat→List Rat) (sp:List Nat) (c m:Nat):∀i,(xS M sp c m i).length=m
 |0=>by simp[xS]
 |i+1=>by rw[xS,List.length_set,ph M sp c m i]
theorem L2 {r c:Nat} {w:Mx} {sp:List Nat} {M:Nat→List Rat} (h:RE r c w sp) (hM:∀j,j<sp.length→(M j).getD c 0=w j c):
  ∀i,i≤sp.length→∀q,q<c→(xS M sp c c i).getD q 0=aD i fun j=>delta q (sp.getD j 0)*w j c
 |0,_,q,hq=>by simp[xS,aD,List.getD_eq_getElem?_getD,hq]
 |i+1,hi,q,hq=>by
  rw[xS,aD]
  have ih:=L2 h hM i aa q hq
  by_cases e:sp.getD i 0=q
  ·have hz:aD i (fun j=>delta q (sp.getD j 0)*w j c)=0:=cv fun j hj=>by
    rw[delta,if_neg fun g=>by have:=wi h (i:=j) (j:=i) aa aa (by rw[←g,e]);omega];grind
   rw[hz,←e,List.getD_eq_getElem?_getD,List.getElem?_set_self (by rw[ph,e];exact hq),hM i aa,delta,if_pos rfl]
   simp only[Option.getD_some];grind
  ·rw[List.getD_eq_getElem?_getD,List.getElem?_set_ne e,←List.getD_eq_getElem?_getD,ih,show delta q (sp.getD i 0)=0 from if_neg (Ne.symm e)];grind
abbrev jV (c:Nat) (a b:List Rat):Mx:=dN a c fun i _=>b.getD i 0
abbrev FB:aF:=⟨172,true,.one [.val (.slice none 0 0),.val (.slice none 0 0)]⟩
theorem B0 {r c A:Nat} {a b:List Rat} (ha:dV r c a) (sa:Sm A a) (hb:b.length=r) (sb:Sm A b):∀i q,i<r→q<c+1→fs (jV c a b i q)≤A:=yp ha sa fun i _ hi _=>sb i aa
theorem nk {r p i:Nat} {M:Nat→List Rat} (h:p+i<r):(List.take (r - p) (List.drop p ((List.range r).map M))).getD i []=M (p+i):=by
 rw[List.take_of_length_le (by simp),List.getD_eq_getElem?_getD,List.getElem?_drop,List.getElem?_map,List.getElem?_range h];rfl
theorem nm {r p:Nat} {M:Nat→List Rat}:(List.take (r - p) (List.drop p ((List.range r).map M))).length=r - p:=by simp
theorem Au {r c A:Nat} {a b:List Rat} (ha:dV r c a) (hb:b.length=r) (hr:r≤6) (hc:c≤40) (sa:Sm A a) (sb:Sm A b) (h2:2≤A) (hA:4096*A≤4398046511104) {s:St} (hs:dR r c (jV c a b)=s)
  {j:Nat} (hj1:s.aH.length≤j) (hj2:j<r) (hj3:s.w j c≠0) (hj4:∀i,s.aH.length≤i→i<j→s.w i c=0):
  ab Tryz.prog 126 [mA r c a,aN b] [] (.ck [.agg [aN [],bF 1 aN []],iv 6]) [] []:=by
 have k1:=At ha hb
 have rz:=B0 ha sa hb sb
 have yO:=jC r (aR (c+1) s.w)
 have gW:(s.aH.map cY).length=s.aH.length:=List.length_map _
 obtain⟨eR,iC⟩:=pg r c _ hs
 refine fZ [2,3,100004,100017] Tryz.func126 ?_
 intro w0 ρ0 hE
 conv=>whnf
 (repeat((first|refine ae rfl rfl ?_|refine aS (by assumption) ?_|rw[bne_self_eq_false]|refine ah Q5 ?_);conv=>whnf))
 refine cB (fr1:=[(7,nU r c (c+1) (aR (c+1) s.w) (s.aH.map cY) s.d),(2,bE (mC r c a)),(3,bE [aN b]),(4,.ptr 4 0 0 0),(5,iv 0)]) (hp1:=[(4,FB)]) (fun K hK=> ?_) ?_
 case refine_2=>
  clear rz hs
  conv=>whnf
  (repeat((first|refine aq av ?_|refine ah Q8 ?_|refine ah Q5 ?_|refine ah Q7 ?_|refine ah Ga ?_|refine ah uq ?_|rw[yO]|rw[gW]|rw[Int.toNat_natCast]);conv=>whnf))
  generalize hTL:List.take (r - s.aH.length) (List.drop s.aH.length ((List.range r).map (aR (c+1) s.w)))=TL
  have L3:TL.length=r - s.aH.length:=by rw[←hTL];exact nm
  have IL:∀i,s.aH.length+i<r→TL.getD i []=aR (c+1) s.w (s.aH.length+i):=fun i hi=>by rw[←hTL];exact nk hi
  refine aj hE (fun k=>k) [2,4,7,33,34,35] [4] (fun m fr hp=>∃i:Nat,m=r - i∧s.aH.length+i≤j∧fr=[(2,bE (mC r c a)),(4,.ptr 4 0 0 0),(7,nU r c (c+1) (aR (c+1) s.w) (s.aH.map cY) s.d),(33,bF 1 aN TL),(34,iv (r - s.aH.length:Nat)),(35,iv i)]∧hp=[(4,FB)]) r ?_ ?_ ?_
  ·kernel_rfl
  ·exact⟨0,rfl,hj1,by rw[←L3];rfl,rfl⟩
  rintro m _ _ ⟨i,rfl,hi,rfl,rfl⟩
  conv=>whnf
  have t1:=dx (show i<r - s.aH.length by omega)
  have t2:=br (i:=i) aa
  have g1:=IL i aa
  have g2:(aR (c+1) s.w (s.aH.length+i)).length=c+1:=bC _ _
  have g3:(aR (c+1) s.w (s.aH.length+i)).getD c 0=s.w (s.aH.length+i) c:=dn (Nat.lt_succ_self c)
  have k2:=fM (s.w (s.aH.length+i) c)
  by_cases e:s.aH.length+i=j
  ·have t3:((s.w (s.aH.length+i) c).num.sign != 0)=true:=by rw[e];exact bne_iff_ne.2 fun g=>hj3 (Rat.num_eq_zero.1 (Int.sign_eq_zero_iff_zero.1 g))
   (repeat((first|refine aS (by assumption) ?_|refine ao t1 ?_|refine ao t3 ?_|refine ah og ?_|refine ah Q5 ?_|refine ah mP ?_|refine ah Q7 ?_|rw[t1]|rw[g1]|rw[g3]);conv=>whnf));exact Zs
  ·have t3:((s.w (s.aH.length+i) c).num.sign != 0)=false:=by rw[hj4 _ aa aa];rfl
   (repeat((first|refine aS (by assumption) ?_|refine ao t1 ?_|refine ay t3 ?_|refine ah og ?_|refine ah Q5 ?_|refine ah mP ?_|refine ah Q7 ?_|rw[t1]|rw[t2]|rw[g1]|rw[g3]|rw[t3]);conv=>whnf))
   exact⟨r - (i+1),fun k=>k,[2,4,7,33,34,35],[4],aa,av,i+1,rfl,aa,rfl,rfl⟩
 rcases(show r=0∨1≤r by omega)with e0|e0
 ·subst e0
  obtain⟨n7,p8⟩:=gU hs
  have kz:=pU (c:=c) 1 a 233 (gX [aN b]) ha
  have k3:=fT c aa
  rw[n7,p8]at hK
  refine eh hE 100 ?_
  conv=>whnf
  (repeat((first|refine lG (by assumption) rfl ?_|refine ah Q5 ?_|refine ah yN ?_|refine qe k3 EG ar ?_);conv=>whnf))
  exact⟨_,_,mh 7 [2,3,4,5] [4] (fun _ h=>h) rfl rfl av av av rfl hE,hK⟩
 ·have k2:=sL (r:=r) 1 a (fun i _=>b.getD i 0) 233 (gX [aN b]) hr e0 ha hc aa (fun i k hi _=>yr i k (by rw[hb];exact hi))
  have k3:=fS (r:=r) c (c+1) A (jV c a b) s hr e0 (Nat.le_add_right _ _) aa rz h2 hA hs
  have gW:(s.aH.map cY).length=s.aH.length:=List.length_map _
  rcases(show r=1∨r=2∨r=3∨r=4∨r=5∨r=6 by omega)with e1|e1|e1|e1|e1|e1
  all_goals
   rw[e1]at k2 k3 hK
   rw[e1]
   refine eh hE 100 ?_
   conv=>whnf
   (repeat((first|refine ah Q5 ?_|refine ah yN ?_|refine⟨[],_,_,[],k2,aM,Cj,ar, ?_⟩|refine⟨H4 _ _ _ _,_,_,_,k3,NB,Cj,dm rfl rfl, ?_⟩|rw[Nat.zero_add]);conv=>whnf))
   exact⟨_,_,jU (M:=aR _ s.w) 7 [2,3,4,5] [4] (fun _ h=>h) rfl rfl rfl rfl (by intro j hj;rcases(show j=0∨j=1∨j=2∨j=3∨j=4∨j=5 by omega)with e|e|e|e|e|e<;>first|omega|(subst e;exact⟨rfl,(bC _ _).symm⟩)) gW.symm av av av rfl aI hE,hK⟩
theorem Av {r c A:Nat} {a b:List Rat} (ha:dV r c a) (hb:b.length=r) (hr:r≤6) (hc:c≤40) (sa:Sm A a) (sb:Sm A b) (h2:2≤A) (hA:4096*A≤4398046511104) {s:St} (hs:dR r c (jV c a b)=s)
  (hz:∀i,s.aH.length≤i→i<r→s.w i c=0):
  ab Tryz.prog 126 [mA r c a,aN b] [] (.ck [.agg [aN (xS (aR (c+1) s.w) s.aH c c s.aH.length),bF 1 aN ((aU s.aH c).map (yP (aR (c+1) s.w) s.aH c))],iv 0]) [] []:=by
 have k1:=At ha hb
 have rz:=B0 ha sa hb sb
 have yO:=jC r (aR (c+1) s.w)
 have gW:(s.aH.map cY).length=s.aH.length:=List.length_map _
 obtain⟨eR,iC⟩:=pg r c _ hs
 refine fZ [2,3,100004,100017] Tryz.func126 ?_
 intro w0 ρ0 hE
 conv=>whnf
 (repeat((first|refine ae rfl rfl ?_|refine aS (by assumption) ?_|rw[bne_self_eq_false]|refine ah Q5 ?_);conv=>whnf))
 refine cB (fr1:=[(7,nU r c (c+1) (aR (c+1) s.w) (s.aH.map cY) s.d),(2,bE (mC r c a)),(3,bE [aN b]),(4,.ptr 4 0 0 0),(5,iv 0)]) (hp1:=[(4,FB)]) (fun K hK=> ?_) ?_
 case refine_2=>
  have k4:=sR (r:=r) (m:=c) (c:=c+1) (M:=aR (c+1) s.w) (sp:=s.aH) (d:=s.d) (fun i _=>bC _ _) aa aa aa eR iC
  clear rz hs
  conv=>whnf
  (repeat((first|refine aq av ?_|refine ah Q8 ?_|refine ah Q5 ?_|refine ah Q7 ?_|refine ah Ga ?_|refine ah uq ?_|rw[yO]|rw[gW]|rw[Int.toNat_natCast]);conv=>whnf))
  generalize hTL:List.take (r - s.aH.length) (List.drop s.aH.length ((List.range r).map (aR (c+1) s.w)))=TL
  have L3:TL.length=r - s.aH.length:=by rw[←hTL];exact nm
  have IL:∀i,s.aH.length+i<r→TL.getD i []=aR (c+1) s.w (s.aH.length+i):=fun i hi=>by rw[←hTL];exact nk hi
  refine aj hE (fun k=>k) [2,4,7,33,34,35] [4] (fun m fr hp=>∃i:Nat,m=r - i∧s.aH.length+i≤r∧fr=[(2,bE (mC r c a)),(4,.ptr 4 0 0 0),(7,nU r c (c+1) (aR (c+1) s.w) (s.aH.map cY) s.d),(33,bF 1 aN TL),(34,iv (r - s.aH.length:Nat)),(35,iv i)]∧hp=[(4,FB)]) r ?_ ?_ ?_
  ·kernel_rfl
  ·exact⟨0,rfl,aa,by rw[←L3];rfl,rfl⟩
  rintro m _ _ ⟨i,rfl,hi,rfl,rfl⟩
  conv=>whnf
  by_cases aE:i<r - s.aH.length
  ·have t1:=dx aE
   have t2:=br (i:=i) aa
   have g1:=IL i aa
   have g2:(aR (c+1) s.w (s.aH.length+i)).length=c+1:=bC _ _
   have g3:(aR (c+1) s.w (s.aH.length+i)).getD c 0=s.w (s.aH.length+i) c:=dn (Nat.lt_succ_self c)
   have k2:=fM (s.w (s.aH.length+i) c)
   have t3:((s.w (s.aH.length+i) c).num.sign != 0)=false:=by rw[hz _ aa aa];rfl
   (repeat((first|refine aS (by assumption) ?_|refine ao t1 ?_|refine ay t3 ?_|refine ah og ?_|refine ah Q5 ?_|refine ah mP ?_|refine ah Q7 ?_|rw[t1]|rw[t2]|rw[g1]|rw[g3]|rw[t3]);conv=>whnf))
   exact⟨r - (i+1),fun k=>k,[2,4,7,33,34,35],[4],aa,av,i+1,rfl,aa,rfl,rfl⟩
  ·have t1:=dA aE
   (repeat((first|refine aC Q3 ?_|refine ay t1 ?_|refine ah Q8 ?_|refine ah Q5 ?_|refine ah Q7 ?_|refine ah uq ?_|rw[t1]|rw[gW]|rw[Int.toNat_natCast]);conv=>whnf))
   generalize hM:aR (c+1) s.w=M at*
   refine aj hE (fun k=>k) [2,4,7,10,54,55,56] [4,50] (fun m fr hp=>∃i:Nat,m=s.aH.length - i∧i≤s.aH.length∧fr=[(2,bE (mC r c a)),(4,.ptr 4 0 0 0),(7,nU r c (c+1) M (s.aH.map cY) s.d),(10,.aO 50 5 0 c),(54,cO .i64 (s.aH.map cY)),(55,iv s.aH.length),(56,iv i)]∧hp=[(4,FB),(50,cP (xS M s.aH c c i))]) s.aH.length ?_ ?_ ?_
   ·kernel_rfl
   ·exact⟨0,rfl,Nat.zero_le _,rfl,rfl⟩
   rintro m _ _ ⟨j,rfl,hj,rfl,rfl⟩
   conv=>whnf
   by_cases hjt:j<s.aH.length
   ·have t4:=dx hjt
    have t5:=br (i:=j) aa
    have g1:(s.aH.map cY).getD j 0=((s.aH.getD j 0:Nat):Int):=by simp[List.getD_eq_getElem?_getD,hjt]
    have g2:=yn (M:=M) (show j<r by omega)
    have g3:(M j).length=c+1:=by rw[←hM];exact bC _ _
    have g4:=iC j hjt
    have g5:=ph M s.aH c c j
    clear k4 k1
    (repeat((first|refine aq av ?_|refine bg Q3 ?_|refine aC Q3 ?_|refine ao t4 ?_|refine ah og ?_|refine ah Q5 ?_|refine ah jw ?_|refine ah mP ?_|refine ah Q7 ?_|refine ah uq ?_|rw[t4]|rw[t5]|rw[g1]|rw[g2]|rw[Int.toNat_natCast]|rw[Nat.zero_add]);conv=>whnf))
    exact⟨s.aH.length - (j+1),fun k=>k,[2,4,7,10,54,55,56],[4,50],aa,av,j+1,rfl,hjt,rfl,rfl⟩
   ·have t4:=dA hjt
    obtain rfl:j=s.aH.length:=aa
    (repeat(first|(refine ay t4 ?_;conv=>whnf)|(rw[t4];conv=>whnf)))
    refine fv 10 50 (fun _ h=>h) rfl rfl (ph M s.aH c c _).symm ?_
    refine bA hE ?_
    conv=>whnf
    (repeat(first|(refine aS (by assumption) ?_;conv=>whnf)));exact Q4
 rcases(show r=0∨1≤r by omega)with e0|e0
 ·subst e0
  obtain⟨n7,p8⟩:=gU hs
  have kz:=pU (c:=c) 1 a 233 (gX [aN b]) ha
  have k3:=fT c aa
  rw[n7,p8]at hK
  refine eh hE 100 ?_
  conv=>whnf
  (repeat((first|refine lG (by assumption) rfl ?_|refine ah Q5 ?_|refine ah yN ?_|refine qe k3 EG ar ?_);conv=>whnf))
  exact⟨_,_,mh 7 [2,3,4,5] [4] (fun _ h=>h) rfl rfl av av av rfl hE,hK⟩
 ·have k2:=sL (r:=r) 1 a (fun i _=>b.getD i 0) 233 (gX [aN b]) hr e0 ha hc aa (fun i k hi _=>yr i k (by rw[hb];exact hi))
  have k3:=fS (r:=r) c (c+1) A (jV c a b) s hr e0 (Nat.le_add_right _ _) aa rz h2 hA hs
  have gW:(s.aH.map cY).length=s.aH.length:=List.length_map _
  rcases(show r=1∨r=2∨r=3∨r=4∨r=5∨r=6 by omega)with e1|e1|e1|e1|e1|e1
  all_goals
   rw[e1]at k2 k3 hK
   rw[e1]
   refine eh hE 100 ?_
   conv=>whnf
   (repeat((first|refine ah Q5 ?_|refine ah yN ?_|refine⟨[],_,_,[],k2,aM,Cj,ar, ?_⟩|refine⟨H4 _ _ _ _,_,_,_,k3,NB,Cj,dm rfl rfl, ?_⟩|rw[Nat.zero_add]);conv=>whnf))
   exact⟨_,_,jU (M:=aR _ s.w) 7 [2,3,4,5] [4] (fun _ h=>h) rfl rfl rfl rfl (by intro j hj;rcases(show j=0∨j=1∨j=2∨j=3∨j=4∨j=5 by omega)with e|e|e|e|e|e<;>first|omega|(subst e;exact⟨rfl,(bC _ _).symm⟩)) gW.symm av av av rfl aI hE,hK⟩
theorem Inv.qO {r c:Nat} {W:Mx} {s:St} (h:Inv r W c s):s.aH.length=qO r c W:=
 congrArg List.length (RE.unique h.re (Inv.red (r:=r) (W:=W) c).re fun x=>(h.Lx x).trans ((Inv.red (r:=r) (W:=W) c).Lx x).symm).1
theorem Aw {r c:Nat} {W V:Mx} (h:∀i q,i<r→q<c→W i q=V i q):qO r c W=qO r c V:=congrArg List.length (LI h).1
theorem Inv.full {n:Nat} {W:Mx} {s:St} (h:Inv n W n s):s.aH.length=n↔bL n W≠0:=by rw[h.qO];exact DJ n W
theorem L4 {r c:Nat} {W V:Mx} {s t:St} (hs:Inv r W c s) (ht:Inv r V c t) (h:∀x,mf r c V x↔mf r c W x):t.aH=s.aH∧mk r c t.w=mk r c s.w:=by
 obtain⟨h1,h2⟩:=RE.unique ht.re hs.re fun x=>(ht.Lx x).trans ((h x).trans (hs.Lx x).symm)
 exact⟨h1,mk_congr h2⟩
theorem L5 {r c:Nat} {w:Mx} {f g:Nat→Rat} (x:Rat) (hf:mf r c w f) (hg:mf r c w g):mf r c w fun q=>x*f q+g q:=by
 intro i hi
 have e:aD c (fun q=>w i q*(x*f q+g q))=x*aD c (fun q=>w i q*f q)+aD c (fun q=>w i q*g q):=by
  rw[←sum_smul,←sum_add];exact ai c fun q _=>by grind
 rw[e,hf i hi,hg i hi];grind
theorem Pc {r c:Nat} {w:Mx}:mf r c w fun _=>0:=fun i _=>cv fun q _=>by grind
theorem B1 {r c:Nat} {w:Mx} {f g:Nat→Rat} (h:∀q,q<c→f q=g q):mf r c w f↔mf r c w g:=by
 unfold mf
 constructor
 ·intro k i hi;rw[←k i hi];exact ai c fun q hq=>by rw[h q hq]
 ·intro k i hi;rw[←k i hi];exact ai c fun q hq=>by rw[h q hq]
theorem qW {r c:Nat} {a v:List Rat} (h:mf r c (el a c) fun q=>v.getD q 0):cD r c a v=List.replicate r 0:=by
 refine pG (n:=r) dK (by simp) fun i hi=> ?_
 rw[eG hi,De hi];exact h i hi
theorem DQ {r c:Nat} {a v b:List Rat} (hb:b.length=r) (h:∀i,i<r→aD c (fun q=>el a c i q*v.getD q 0)=b.getD i 0):cD r c a v=b:=
 pG (n:=r) dK hb fun i hi=>by rw[eG hi];exact h i hi
theorem pj {sp:List Nat} {c i:Nat} (hi:i<(aU sp c).length):(aU sp c).getD i 0<c∧(aU sp c).getD i 0∉sp:=by
 rw[List.getD_eq_getElem?_getD,List.getElem?_eq_getElem hi]
 exact DH.1 (List.getElem_mem hi)
theorem DR (sp:List Nat) (c:Nat) {i j:Nat} (ID:i<j) (hj:j<(aU sp c).length):(aU sp c).getD i 0<(aU sp c).getD j 0:=by
 have h:(aU sp c).Pairwise (·<·):=List.Pairwise.filter _ List.pairwise_lt_range
 rw[List.getD_eq_getElem?_getD,List.getD_eq_getElem?_getD,List.getElem?_eq_getElem hj,List.getElem?_eq_getElem (Nat.lt_trans ID hj)]
 exact List.pairwise_iff_getElem.1 h i j (Nat.lt_trans ID hj) hj ID
theorem Pd (M:Nat→List Rat) (sp:List Nat) (m k:Nat):(yP M sp m k).length=m:=sO M sp m k _
section
variable {r c:Nat} {w:Mx} {sp:List Nat} {M:Nat→List Rat}
theorem Pe (h:RE r c w sp) (hM:∀j,j<sp.length→∀k,k<c→(M j).getD k 0=w j k) {k:Nat} (hk:k<c) (hn:k∉sp):mf r c w fun q=>(yP M sp c k).getD q 0:=
 (B1 fun q hq=>wq h hk hn (Nat.le_refl c) (fun j hj=>hM j hj k hk) hq).2 (Fs h hk)
theorem L6 (h:RE r c w sp) (hM:∀j,j<sp.length→∀k,k<c→(M j).getD k 0=w j k) {i k:Nat} (hi:i<(aU sp c).length) (hk:k<(aU sp c).length):(yP M sp c ((aU sp c).getD i 0)).getD ((aU sp c).getD k 0) 0=if k=i then 1 else 0:=by
 obtain⟨h1,h2⟩:=pj hi
 obtain⟨h3,h4⟩:=pj hk
 rw[wq h h1 h2 (Nat.le_refl c) (fun j hj=>hM j hj _ h1) h3]
 by_cases e:k=i
 ·subst e;rw[if_pos rfl];exact wm h h2
 ·rw[if_neg e]
  refine sI h4 fun g=>e ?_
  rcases Nat.lt_trichotomy k i with l|l|l
  ·have:=DR sp c l hi;omega
  ·exact l
  ·have:=DR sp c l hk;omega
end
theorem wx {n:Nat} {a b:List Rat} {i k:Nat} (hi:i<n) (hk:k<n):el (fA n n n a b) n i k=pr n (el a n) (el b n) i k:=ec hi hk
theorem wy {n i k:Nat} (hi:i<n) (hk:k<n):el (gk n) n i k=delta i k:=ec hi hk
theorem gA {n:Nat} {a b:List Rat}:fA n n n b a=gk n↔∀i k,i<n→k<n→pr n (el b n) (el a n) i k=delta i k:=by
 constructor
 ·intro h i k hi hk;rw[←wx hi hk,h,wy hi hk]
 ·exact fun h=>mk_congr h
theorem FC {n:Nat} {a b:List Rat} (h:fA n n n b a=gk n):fA n n n a b=gk n:=gA.2 (qU (gA.1 h))
theorem vw {n:Nat} {a b c:List Rat} (hb:b.length=n*n) (hc:c.length=n*n) (h1:fA n n n b a=gk n) (h2:fA n n n c a=gk n):b=c:=Gt hb hc (Fy (gA.1 h1) (gA.1 h2))
theorem H9 {n:Nat} {a b x y:List Rat} (h1:fA n n n x a=gk n) (h2:fA n n n y b=gk n):fA n n n (fA n n n y x) (fA n n n a b)=gk n:=by
 refine gA.2 fun i k hi hk=> ?_
 rw[←LP (gA.1 h1) (gA.1 h2) i k hi hk]
 exact ni (fun j hj=>wx hi hj) (fun j hj=>wx hj hk)
theorem sZ {r c:Nat} {a:List Rat} {i k:Nat} (hi:i<c) (hk:k<r):el (iG r c a) r i k=el a c k i:=ec hi hk
theorem Ia {n:Nat} {a x:List Rat} (h:fA n n n x a=gk n):fA n n n (iG n n x) (iG n n a)=gk n:=by
 refine gA.2 fun i k hi hk=> ?_
 rw[←LQ (gA.1 h) i k hi hk]
 exact ni (fun j hj=>sZ hi hj) (fun j hj=>sZ hj hk)
theorem L7 {n:Nat} {a x:List Rat} (h:fA n n n x a=gk n):bL n (el a n)*bL n (el x n)=1:=by
 rw[Rat.mul_comm,←sD,aW (gA.1 h),ja]
theorem yu {n:Nat} {a b:List Rat}:bL n (el (fA n n n a b) n)=bL n (el a n)*bL n (el b n):=by
 rw[←sD];exact aW fun i k hi hk=>wx hi hk
theorem Ax {n:Nat} {a:List Rat}:bL n (el (iG n n a) n)=bL n (el a n):=
 (aW (B:=tr (el a n)) fun _ _ hi hk=>sZ hi hk).trans (ld n _)
def L8 (n:Nat) (s:St):List Rat:=mk n n fun i k=>s.w i (n+k)
theorem Ib {n:Nat} {a:List Rat} {W:Mx} {s:St} (hi:Inv n W n s) (hp:s.aH.length=n) (hI:∀i k,i<n→k<n→W i (n+k)=delta i k) (hA:∀i q,i<n→q<n→W i q=el a n i q):fA n n n (L8 n s) a=gk n:=by
 refine gA.2 fun i k jx hk=> ?_
 rw[←LM hi hp hI i k jx hk]
 exact ai n fun j hj=>by rw[show el (L8 n s) n i j=s.w i (n+j)from ec jx hj,hA j k hj hk]
theorem L9 {n:Nat} {a b x y:List Rat} (hx:x.length=n) (h:fA n n n b a=gk n) (hs:∀i,i<n→aD n (fun q=>el a n i q*x.getD q 0)=y.getD i 0):x=cD n n b y:=
 pG (n:=n) hx dK fun i hi=>by rw[eG hi];exact O6 (x:=fun q=>x.getD q 0) (y:=fun q=>y.getD q 0) (gA.1 h) hs i hi
def bV (r c:Nat) (a:List Rat):List Nat:=(iz r c ⟨el a c,[],1⟩).aH
def RW (r c:Nat) (a:List Rat):Mx:=(iz r c ⟨el a c,[],1⟩).w
def RL (r c:Nat) (a:List Rat):List Rat:=mk r c (RW r c a)
theorem Zd (r c:Nat) (a:List Rat):(RL r c a).length=r*c:=dJ ..
theorem vx (r c:Nat) (a:List Rat):RE r c (RW r c a) (bV r c a):=(Inv.red (r:=r) (W:=el a c) c).re
theorem B3 (r c:Nat) (a:List Rat) (x:Nat→Rat):mf r c (RW r c a) x↔mf r c (el a c) x:=(Inv.red (r:=r) (W:=el a c) c).Lx x
theorem gq (r c:Nat) (a:List Rat):(bV r c a).length=qO r c (el a c):=rfl
theorem Inv.bV {r c:Nat} {W:Mx} {s:St} {a:List Rat} (h:Inv r W c s) (hW:∀i q,i<r→q<c→W i q=el a c i q):s.aH=bV r c a∧∀i q,i<r→q<c→s.w i q=RW r c a i q:=
 RE.unique h.re (vx r c a) fun x=>(h.Lx x).trans ((pV hW x).trans (B3 r c a x).symm)
theorem wz {r c:Nat} {a b:List Rat} (h:∀x,mf r c (el b c) x↔mf r c (el a c) x):bV r c b=bV r c a∧RL r c b=RL r c a:=
 L4 (Inv.red (r:=r) (W:=el a c) c) (Inv.red (r:=r) (W:=el b c) c) h
theorem DS (r c:Nat) (a:List Rat):bV r c (RL r c a)=bV r c a∧RL r c (RL r c a)=RL r c a:=
 wz fun x=>(pV (fun _ _ hi hq=>ec hi hq) x).trans (B3 r c a x)
def rwM (r c:Nat) (a:List Rat) (i:Nat):List Rat:=(List.range c).map (RW r c a i)
theorem s7 {r c:Nat} {a:List Rat} {i k:Nat} (hk:k<c):(rwM r c a i).getD k 0=RW r c a i k:=by simp[rwM,List.getD_eq_getElem?_getD,hk]
def KL (r c:Nat) (a:List Rat):List (List Rat):=(aU (bV r c a) c).map (yP (rwM r c a) (bV r c a) c)
theorem Ay {M N:Nat→List Rat} {sp:List Nat} {m k:Nat}:∀i,(∀j,j<i→(M j).getD k 0=(N j).getD k 0)→H6 M sp m k i=H6 N sp m k i
 |0,_=>rfl
 |i+1,h=>by rw[H6,H6,Ay i fun j hj=>h j aa,h i aa]
theorem Q0 {r c:Nat} {W:Mx} {s:St} {a:List Rat} {M:Nat→List Rat} (h:Inv r W c s) (hW:∀i q,i<r→q<c→W i q=el a c i q) (hM:∀j,j<r→∀k,k<c→(M j).getD k 0=s.w j k):(aU s.aH c).map (yP M s.aH c)=KL r c a:=by
 obtain⟨h1,h2⟩:=h.bV hW
 have hl:=h.len
 rw[h1]at hl ⊢
 refine List.map_congr_left fun k hk=> ?_
 obtain⟨hk,_⟩:=DH.1 hk
 exact Ay _ fun j hj=>by rw[hM j aa k hk,h2 j k aa hk,s7 hk]
theorem nW (r c:Nat) (a:List Rat):(KL r c a).length=(aU (bV r c a) c).length:=List.length_map _
theorem yv (r c:Nat) (a:List Rat):(KL r c a).length+(bV r c a).length=c:=by rw[nW];exact(vx r c a).free
section
variable {r c:Nat} {a:List Rat} {i k:Nat}
theorem yw (hi:i<(KL r c a).length):(KL r c a).getD i []=yP (rwM r c a) (bV r c a) c ((aU (bV r c a) c).getD i 0):=by
 rw[nW]at hi
 simp[KL,List.getD_eq_getElem?_getD,hi]
theorem wA (hi:i<(KL r c a).length):((KL r c a).getD i []).length=c:=by rw[yw hi];exact Pd ..
theorem FD (hi:i<(KL r c a).length):mf r c (el a c) fun q=>((KL r c a).getD i []).getD q 0:=by
 rw[yw hi]
 rw[nW]at hi
 obtain⟨h1,h2⟩:=pj hi
 exact(B3 r c a _).1 (Pe (vx r c a) (fun j _ k hk=>s7 hk) h1 h2)
theorem Pf (hi:i<(KL r c a).length) (hk:k<(KL r c a).length):((KL r c a).getD i []).getD ((aU (bV r c a) c).getD k 0) 0=if k=i then 1 else 0:=by
 rw[yw hi]
 rw[nW]at hi hk
 exact L6 (vx r c a) (fun j _ k hk=>s7 hk) hi hk
theorem Ze (hi:i<(KL r c a).length) {q:Nat} (hq:q<c):((KL r c a).getD i []).getD q 0=0∨((KL r c a).getD i []).getD q 0=1∨∃j k,j<r∧k<c∧((KL r c a).getD i []).getD q 0= - RW r c a j k:=by
 rw[yw hi]
 rw[nW]at hi
 obtain⟨h1,h2⟩:=pj hi
 have h:=vx r c a
 rw[wq h h1 h2 (Nat.le_refl c) (fun j _=>s7 h1) hq]
 by_cases hm:q∈bV r c a
 ·obtain⟨j,hj,rfl⟩:=cL.1 hm
  exact .inr (.inr ⟨j,_,by have:=h.len;omega,h1,Lz h h2 hj⟩)
 ·by_cases e:q=(aU (bV r c a) c).getD i 0
  ·subst e;exact .inr (.inl (wm h h2))
  ·exact .inl (sI hm e)
end
def oj (r c:Nat) (a b:List Rat) (x:Nat→Rat):Prop:=∀i,i<r→aD c (fun q=>el a c i q*x q)=b.getD i 0
theorem oj.ext {r c:Nat} {a b:List Rat} {x y:Nat→Rat} (h:oj r c a b x) (he:∀q,q<c→x q=y q):oj r c a b y:=fun i hi=>by rw[←h i hi];exact ai c fun q hq=>by rw[he q hq]
theorem oj.app {r c:Nat} {a b v:List Rat} (hb:b.length=r) (h:oj r c a b fun q=>v.getD q 0):cD r c a v=b:=DQ hb h
theorem oj.of {r c:Nat} {a v:List Rat}:oj r c a (cD r c a v) fun q=>v.getD q 0:=fun i hi=>by rw[eG hi]
theorem oj.add {r c:Nat} {a b:List Rat} {x y:Nat→Rat} (t:Rat) (h:oj r c a b x) (hk:mf r c (el a c) y):oj r c a b fun q=>t*y q+x q:=by
 intro i hi
 have e:aD c (fun q=>el a c i q*(t*y q+x q))=t*aD c (fun q=>el a c i q*y q)+aD c (fun q=>el a c i q*x q):=by
  rw[←sum_smul,←sum_add];exact ai c fun q _=>by grind
 rw[e,h i hi,hk i hi];grind
theorem oj.sub {r c:Nat} {a b:List Rat} {x y:Nat→Rat} (h:oj r c a b x) (h':oj r c a b y):mf r c (el a c) fun q=>x q - y q:=by
 intro i hi
 have e:aD c (fun q=>el a c i q*(x q - y q))=aD c (fun q=>el a c i q*x q)+(-1)*aD c (fun q=>el a c i q*y q):=by
  rw[←sum_smul,←sum_add];exact ai c fun q _=>by grind
 rw[e,h i hi,h' i hi];grind
theorem oj.eq {r c:Nat} {a b:List Rat} {x y:Nat→Rat} (h:oj r c a b x) (h':oj r c a b y) (hf:∀q,q<c→q∉bV r c a→x q=y q):∀q,q<c→x q=y q:=by
 intro q hq
 have:=LL (vx r c a) ((B3 r c a _).2 (h.sub h')) (fun q hq hn=>by rw[hf q hq hn];grind) q hq
 grind
section
variable {r c:Nat} {W:Mx} {s:St} {a b:List Rat} (hi:Inv r W c s) (hW:∀i q,i<r→q<c→W i q=el a c i q) (hb:∀i,i<r→W i c=b.getD i 0)
include hi hW hb
theorem B4:(∀i,s.aH.length≤i→i<r→s.w i c=0)↔∃x,oj r c a b x:=by
 constructor
 ·intro hz
  refine⟨vI s.w s.aH c,fun i h=> ?_⟩
  have:=GZ hi hz i h
  rw[hb i h]at this
  rw[←this]
  exact ai c fun q hq=>by rw[hW i q h hq]
 ·rintro⟨x,hx⟩
  exact LJ hi (x:=x) fun i h=>by rw[hb i h,←hx i h];exact ai c fun q hq=>by rw[hW i q h hq]
theorem acB (hz:∀i,s.aH.length≤i→i<r→s.w i c=0) {x:Nat→Rat} (hx:∀q,q<c→x q=vI s.w s.aH c q):oj r c a b x∧∀q,q<c→q∉bV r c a→x q=0:=by
 constructor
 ·intro i h
  have:=GZ hi hz i h
  rw[hb i h]at this
  rw[←this]
  exact ai c fun q hq=>by rw[hW i q h hq,hx q hq]
 ·intro q hq hn
  rw[hx q hq]
  rw[←(hi.bV hW).1]at hn
  exact As hn
theorem Az (DE:¬∃x,oj r c a b x):∃j,s.aH.length≤j∧j<r∧s.w j c≠0∧∀i,s.aH.length≤i→i<j→s.w i c=0:=by
 have h0:¬∀i,s.aH.length≤i→i<r→s.w i c=0:=fun h=>DE ((B4 hi hW hb).1 h)
 have h1:∃j,s.aH.length≤j∧j<r∧s.w j c≠0:=Classical.byContradiction fun hn=>h0 fun i h2 h3=>Classical.byContradiction fun h4=>hn ⟨i,h2,h3,h4⟩
 clear h0 DE
 obtain⟨j,h⟩:=h1
 induction j using Nat.strongRecOn with
 |ind j ih=>
  by_cases hq:∃i,s.aH.length≤i∧i<j∧s.w i c≠0
  ·obtain⟨i,h2,h3,h4⟩:=hq
   exact ih i h3 ⟨h2,aa,h4⟩
  ·exact⟨j,h.1,h.2.1,h.2.2,fun i h2 h3=>Classical.byContradiction fun h4=>hq ⟨i,h2,h3,h4⟩⟩
end
theorem Ma {r c:Nat} {w:Mx} {sp:List Nat} (h:RE r c w sp) (q:Nat):vI w sp c q=0∨∃j,j<r∧vI w sp c q=w j c:=by
 by_cases hm:q∈sp
 ·obtain⟨j,hj,rfl⟩:=cL.1 hm
  refine .inr ⟨j,by have:=h.len;omega, ?_⟩
  unfold vI
  rw[iZ (j:=j) _ hj fun i hi bW=>by rw[delta,if_neg fun g=>bW (wi h hi hj g.symm)];grind,delta,if_pos rfl];grind
 ·exact .inl (As hm)
theorem Inv.agree {r c:Nat} {W:Mx} {s t:St} (h:Inv r W c t) (ha:GX r s t):Inv r W c s:=by
 obtain⟨sw,sp,sd⟩:=s
 obtain⟨tw,tp,td⟩:=t
 obtain⟨rfl,rfl,hw,hl⟩:=ha
 simp only at hw hl
 obtain⟨P,hP,hP2⟩:=h.uf
 exact⟨h.len,h.lt,h.inc,fun j hj i hi=>by show sw i _=_;rw[hw i hi];exact h.unit j hj i hi,fun i hi q hq=>by show sw i q=0;rw[hw i (Nat.lt_of_lt_of_le hi h.len)];exact h.left i hi q hq,
  fun i h1 h2 q hq=>by show sw i q=0;rw[hw i h2];exact h.low i h1 h2 q hq,P,hP,fun i hi q=>by show sw i q=_;rw[hw i hi];exact hP2 i hi q⟩
theorem gr (r c:Nat) (W:Mx):Inv r W c (dR r c W):=(Inv.red (r:=r) (W:=W) c).agree (gS r W c)
theorem Mb {r c A k:Nat} {s:St} (h:QU r c A s) (hl:s.aH.length≤r) (hk:k<c):QU r c A (gp r s k):=by
 obtain⟨sw,sp,sd⟩:=s
 replace hl:sp.length≤r:=hl
 unfold gp
 simp only
 cases hq:iH sw k (r - sp.length) sp.length with
 |none=>exact h
 |some i=>have hs:=pO hq;exact h.step hk aa aa
theorem G7 {r c A:Nat} {W:Mx} (hA:∀i q,i<r→q<c→fs (W i q)≤A) (h2:2≤A):∀m,m≤c→QU r c A (dR r m W)
 |0,_=>⟨fun i q hi hq=>by show fs (W i q)≤4^0*A;rw[Nat.pow_zero,Nat.one_mul];exact hA i q hi hq,by show fs 1≤4^0*A;rw[Nat.pow_zero,Nat.one_mul,uy];exact h2⟩
 |m+1,hm=>by
  show QU r c A (lg r (m+1) ⟨W,[],1⟩)
  rw[nS]
  exact Mb (G7 hA h2 m aa) (gS r W m).le hm
theorem G8 {p r:Nat} (A:Nat) (h:p≤r) (hr:r≤6):4^p*A≤4096*A:=Nat.mul_le_mul_right A (Nat.pow_le_pow_right (n:=4) aI (show p≤6 by omega))
theorem nn {r m c A:Nat} {W:Mx} (hA:∀i q,i<r→q<c→fs (W i q)≤A) (h2:2≤A) (hr:r≤6) (hm:m≤c):(∀i q,i<r→q<c→fs ((dR r m W).w i q)≤4096*A)∧fs (dR r m W).d≤4096*A:=by
 have h:=G7 hA h2 m hm
 have hl:=G8 A (gS r W m).le hr
 exact⟨fun i q hi hq=>Nat.le_trans (h.w i q hi hq) hl,Nat.le_trans h.d hl⟩
theorem gH {r c:Nat} {a:List Rat} {b:Mx}:∀i q,i<r→q<c→dN a c b i q=el a c i q:=fun i q _ hq=>by unfold dN;rw[if_pos hq]
theorem uO {c i k:Nat} {a:List Rat} {b:Mx}:dN a c b i (c+k)=b i k:=by unfold dN;rw[if_neg aa,Nat.add_sub_cancel_left]
theorem Mc {c i:Nat} {a b:List Rat}:jV c a b i c=b.getD i 0:=uO (k:=0)
section
variable {r c A:Nat} {a:List Rat} (ha:dV r c a) (hr:r≤6) (hc:c≤40) (sa:Sm A a) (h2:2≤A) (hA:4096*A≤4398046511104)
include ha hr sa h2
theorem Md:∀i q,i<r→q<c→fs (RW r c a i q)≤4096*A:=fun i q hi hq=>by
 have h:=(nn (r:=r) (m:=c) (wv ha sa) h2 hr (Nat.le_refl c)).1 i q hi hq
 rwa [((gr r c (zd c a)).bV gH).2 i q hi hq]at h
theorem Ra:Sm (4096*A) (RL r c a):=zX fun _ _ hi hk=>Md ha hr sa h2 _ _ hi hk
theorem Me {i:Nat} (hi:i<(KL r c a).length):Sm (4096*A) ((KL r c a).getD i []):=by
 intro q hq
 rw[wA hi]at hq
 rcases Ze hi hq with h|h|⟨j,k,hj,hk,h⟩
 ·rw[h,fO];omega
 ·rw[h,uy];omega
 ·rw[h,qF];exact Md ha hr sa h2 j k hj hk
omit sa h2
set_option linter.unusedSectionVars false in
theorem Mf:dV r c (RL r c a):=oV ha.r ha.c
include hc sa h2 hA
theorem eO:ab Tryz.prog 113 [mA r c a] [] (.ck [mA r c (RL r c a),cO .i64 ((bV r c a).map cY),iv 0]) [] []:=by
 have k:=DO ha hr hc sa h2 hA rfl
 obtain⟨h1,h3⟩:=(gr r c (zd c a)).bV gH
 rw[h1,mk_congr h3]at k
 exact k
theorem pX:ab Tryz.prog 115 [mA r c a] [] (.ck [iv (bV r c a).length,iv 0]) [] []:=by
 have k:=Zc ha hr hc sa h2 hA rfl
 rwa [((gr r c (zd c a)).bV gH).1]at k
theorem pY:ab Tryz.prog 122 [mA r c a] [] (.ck [bF 1 aN (KL r c a),iv 0]) [] []:=by
 have k:=L1 ha hr hc sa h2 hA rfl
 rwa [Q0 (gr r c (zd c a)) gH fun j _ k hk=>dn aa]at k
section
variable {b:List Rat} (hb:b.length=r) (sb:Sm A b)
include hb sb
theorem yx (hx:∃x,oj r c a b x):∃X:List Rat,X.length=c∧Sm (4096*A) X∧oj r c a b (fun q=>X.getD q 0)∧(∀q,q<c→q∉bV r c a→X.getD q 0=0)∧
  ab Tryz.prog 126 [mA r c a,aN b] [] (.ck [.agg [aN X,bF 1 aN (KL r c a)],iv 0]) [] []:=by
 have hi:=gr r c (jV c a b)
 have QM:∀i,i<r→jV c a b i c=b.getD i 0:=fun i _=>Mc
 have hz:=(B4 hi gH QM).2 hx
 have k:=Av ha hb hr hc sa sb h2 hA rfl hz
 have hg:=fun q hq=>L2 (M:=aR (c+1) (dR r c (jV c a b)).w) hi.re (fun j _=>dn (Nat.lt_succ_self c)) _ (Nat.le_refl _) q hq
 obtain⟨h3,h4⟩:=acB hi gH QM hz (x:=fun q=>(xS (aR (c+1) (dR r c (jV c a b)).w) (dR r c (jV c a b)).aH c c (dR r c (jV c a b)).aH.length).getD q 0) hg
 have gV:=(nn (r:=r) (m:=c) (B0 ha sa hb sb) h2 hr (Nat.le_succ c)).1
 refine⟨_,ph _ _ _ _ _, ?_,h3,h4, ?_⟩
 ·intro q hq
  rw[ph]at hq
  have e:=hg q hq
  rw[e]
  rcases Ma hi.re q with h|⟨j,hj,h⟩
  ·rw[show aD _ _=(0:Rat)from h,fO];omega
  ·rw[show aD _ _=(dR r c (jV c a b)).w j c from h];exact gV j c hj (Nat.lt_succ_self c)
 ·rwa [Q0 hi gH fun j _ k hk=>dn aa]at k
theorem Mg (hx:¬∃x,oj r c a b x):ab Tryz.prog 126 [mA r c a,aN b] [] (.ck [.agg [aN [],bF 1 aN []],iv 6]) [] []:=by
 obtain⟨j,h1,h3,h4,h5⟩:=Az (gr r c (jV c a b)) gH (fun i _=>Mc) hx
 exact Au ha hb hr hc sa sb h2 hA rfl h1 h3 h4 h5
end
end
theorem G9 {c i k p q:Nat} (hp:p<c) (hq:q<c) (h:i*c+p=k*c+q):i=k∧p=q:=by
 have h1:=vW (i:=i) hp
 have h2:=vW (i:=k) hq
 have h3:=vX (i:=i) hp
 have h4:=vX (i:=k) hq
 rw[h]at h1 h3
 omega
theorem set_mk {r c i p:Nat} {f:Nat→Nat→Rat} {v:Rat} (hi:i<r) (hp:p<c):(mk r c f).set (i*c+p) v=mk r c fun a q=>if a=i∧q=p then v else f a q:=by
 refine(xJ (by rw[List.length_set,dJ]) fun a q ha hq=> ?_).symm
 unfold el
 by_cases e:a=i∧q=p
 ·obtain⟨rfl,rfl⟩:=e
  rw[if_pos ⟨rfl,rfl⟩,List.getD_eq_getElem?_getD,List.getElem?_set_self (by rw[dJ];exact gF ha hq)];rfl
 ·rw[if_neg e,List.getD_eq_getElem?_getD,List.getElem?_set_ne (fun g=>e ⟨(G9 hp hq g).1.symm,(G9 hp hq g).2.symm⟩),←List.getD_eq_getElem?_getD]
  exact(ec ha hq).symm
def yy (r c:Nat) (a:List Rat) (i k:Nat) (x:Rat):List Rat:=mk r c (qf (el a c) i k x)
def nX (W:Mx) (i k:Nat) (x:Rat) (p:Nat):Mx:=fun a q=>if q<p then qf W i k x a q else W a q
theorem Ic {r c i k:Nat} {x:Rat} {a:List Rat} (ha:a.length=r*c):mk r c (nX (el a c) i k x 0)=a:=xJ ha fun _ q _ _=>if_neg (Nat.not_lt_zero q)
theorem Mh {r c i k:Nat} {x:Rat} {a:List Rat}:mk r c (nX (el a c) i k x c)=yy r c a i k x:=mk_congr fun _ _ _ hq=>if_pos hq
theorem uQ {W:Mx} {i k p a q:Nat} {x:Rat}:nX W i k x (p+1) a q=if q=p then qf W i k x a q else nX W i k x p a q:=by
 unfold nX
 by_cases e:q=p
 ·rw[if_pos aa,if_pos e]
 ·rw[if_neg e]
  by_cases g:q<p
  ·rw[if_pos g,if_pos aa]
  ·rw[if_neg g,if_neg aa]
section
variable {r c i k p:Nat} {a:List Rat} (hi:i<r) (hk:k<r) (hp:p<c)
include hi hk hp
theorem Mi:((mk r c (nX (el a c) i k 0 p)).set (i*c+p) (el a c k p)).set (k*c+p) (el a c i p)=mk r c (nX (el a c) i k 0 (p+1)):=by
 rw[set_mk hi hp,set_mk hk hp]
 refine mk_congr fun b q _ _=> ?_
 rw[uQ]
 by_cases e:q=p
 ·subst e
  rw[if_pos rfl]
  unfold qf
  rw[if_pos rfl]
  by_cases g:b=k
  ·rw[if_pos ⟨g,rfl⟩,if_pos g]
  ·rw[if_neg (fun h=>g h.1),if_neg g]
   by_cases f:b=i
   ·rw[if_pos ⟨f,rfl⟩,if_pos f]
   ·rw[if_neg (fun h=>f h.1),if_neg f]
    unfold nX;rw[if_neg (Nat.lt_irrefl q)]
 ·rw[if_neg (fun h=>e h.2),if_neg (fun h=>e h.2),if_neg e]
omit hk in
theorem Ie {x:Rat} (hx:x≠0):(mk r c (nX (el a c) i i x p)).set (i*c+p) (x*el a c i p)=mk r c (nX (el a c) i i x (p+1)):=by
 rw[set_mk hi hp]
 refine mk_congr fun b q _ _=> ?_
 rw[uQ]
 by_cases e:q=p
 ·subst e
  rw[if_pos rfl]
  unfold qf
  rw[if_neg hx,if_pos rfl]
  by_cases f:b=i
  ·rw[if_pos ⟨f,rfl⟩,if_pos f]
  ·rw[if_neg (fun h=>f h.1),if_neg f]
   unfold nX;rw[if_neg (Nat.lt_irrefl q)]
 ·rw[if_neg (fun h=>e h.2),if_neg e]
omit hk in
theorem Mj {x:Rat} (hx:x≠0) (bW:i≠k):(mk r c (nX (el a c) i k x p)).set (i*c+p) (el a c i p+x*el a c k p)=mk r c (nX (el a c) i k x (p+1)):=by
 rw[set_mk hi hp]
 refine mk_congr fun b q _ _=> ?_
 rw[uQ]
 by_cases e:q=p
 ·subst e
  rw[if_pos rfl]
  unfold qf
  rw[if_neg hx,if_neg bW]
  by_cases f:b=i
  ·rw[if_pos ⟨f,rfl⟩,if_pos f]
  ·rw[if_neg (fun h=>f h.1),if_neg f]
   unfold nX;rw[if_neg (Nat.lt_irrefl q)]
 ·rw[if_neg (fun h=>e h.2),if_neg e]
end
theorem Mk {r c i k:Nat} {a:List Rat} {x:Rat} (hi:i<r) (hk:k<r) (z:Nat→Rat):mf r c (el (yy r c a i k x) c) z↔mf r c (el a c) z:=
 (pV (fun _ _ h1 h2=>ec h1 h2) z).trans (O2 hi hk z)
theorem DT {n p q:Nat} {a:List Rat} {w:Rat} (hp:p<n) (hq:q<n):bL n (el (yy n n a p q w) n)=if w=0 then(if p=q then bL n (el a n)else - bL n (el a n))else if p=q then w*bL n (el a n)else bL n (el a n):=
 (aW fun _ _ h1 h2=>ec h1 h2).trans (O5 (el a n) w hp hq)
def lj (n:Nat) (a:List Rat) (p q t:Nat):List Rat:=mk n n fun i k=>if i=p∧k<t then el a n q k else el a n i k
theorem yA {n p q:Nat} {a:List Rat} (ha:a.length=n*n):lj n a p q 0=a:=xJ ha fun _ k _ _=>if_neg fun h=>Nat.not_lt_zero k h.2
theorem yB {n p q t:Nat} {a:List Rat} (hp:p<n) (ht:t<n):(lj n a p q t).set (p*n+t) (el a n q t)=lj n a p q (t+1):=by
 unfold lj
 rw[set_mk hp ht]
 refine mk_congr fun i k _ _=> ?_
 by_cases e:i=p∧k=t
 ·obtain⟨rfl,rfl⟩:=e
  rw[if_pos ⟨rfl,rfl⟩,if_pos ⟨rfl,Nat.lt_succ_self k⟩]
 ·rw[if_neg e]
  by_cases g:i=p∧k<t
  ·rw[if_pos g,if_pos ⟨g.1,aa⟩]
  ·rw[if_neg g,if_neg fun h=>by
    by_cases f:k=t
    ·exact e ⟨h.1,f⟩
    ·exact g ⟨h.1,aa⟩]
theorem Ig {n p q:Nat} {a:List Rat} (hp:p<n) (hq:q<n) (h:p≠q):bL n (el (lj n a p q n) n)=0:=by
 rw[←LN (el a n) hp hq h]
 refine aW fun i k hi hk=> ?_
 rw[lj,ec hi hk]
 unfold setRow
 by_cases e:i=p
 ·rw[if_pos e,if_pos ⟨e,hk⟩]
 ·rw[if_neg e,if_neg fun h=>e h.1]
theorem yC {r:Nat} {a one:List Rat} (h1:dV r r one) (i k:Nat) (hi:i<r) (hk:k<r):ab Tryz.prog 235 ([]++([iv (i:Nat),iv (k:Nat)]++[bE (mC r r one),bE (mC r r a)])) [] (.frac (el one r i k)) [] []:=by
 obtain⟨t1,t2⟩:=kK (i:=i) (k:=k) (c:=r) (by have:=h1.r;omega) h1.c (by have:=h1.c;omega)
 have aE:=gF hi hk
 rw[←h1.n]at aE
 refine bT [] Tryz.func235 ?_
 intro W0 w0 ρ0 hE
 conv=>whnf
 (repeat((first|refine ah Q5 ?_|refine ah IG ?_|refine ah Q7 ?_|rw[t1]|rw[t2]|rw[Int.toNat_natCast]);conv=>whnf));exact Q4
abbrev yD (r:Nat) (a:List Rat):Mx:=dN a r (el (gk r) r)
theorem B5 {r A:Nat} {a:List Rat} (ha:dV r r a) (sa:Sm A a) (h2:2≤A):∀i q,i<r→q<r+r→fs (yD r a i q)≤A:=yp ha sa fun i k hi hk=>by
 rw[wy hi hk,delta]
 split
 ·rw[uy];exact h2
 ·rw[fO];exact h2
theorem DU {r A:Nat} {a:List Rat} (ha:dV r r a) (hr:r≤6) (sa:Sm A a) (h2:2≤A) (hA:4096*A≤4398046511104) {s:St} (hs:dR r r (yD r a)=s) (hp:s.aH.length<r):
  ab Tryz.prog 129 [mA r r a] [] (.ck [mA 0 0 [],iv 6]) [] []:=by
 have k1:=yo ha
 have o1:=Ky r ha.r
 have ho:dV r r (gk r):=oV ha.r ha.r
 have rz:=B5 ha sa h2
 have hc:r≤40:=aa
 have yO:=jC r (aR (r+r) s.w)
 have gW:(s.aH.map cY).length=s.aH.length:=List.length_map _
 refine fZ [1,100005,100006] Tryz.func129 ?_
 intro w0 ρ0 hE
 conv=>whnf
 (repeat((first|refine ae rfl rfl ?_|refine aS (by assumption) ?_|rw[bne_self_eq_false]|refine ah Q5 ?_|refine ah Q7 ?_);conv=>whnf))
 refine vv 5 5 (fun _ h=>h) rfl rfl rfl ?_
 refine cB (fr1:=[(7,nU r r (r+r) (aR (r+r) s.w) (s.aH.map cY) s.d),(1,bE (mC r r a)),(2,.ptr 2 0 0 0),(3,iv 0),(5,bE (mC r r (gk r)))]) (hp1:=[(2,zM)]) (fun K hK=> ?_) ?_
 case refine_2=>
  have t1:decide ((s.aH.length:Int)<(r:Int))=true:=decide_eq_true aa
  clear rz hs
  conv=>whnf
  skip
  refine bA hE ?_
  conv=>whnf
  (repeat((first|refine aq av ?_|refine ao t1 ?_|refine ah Q8 ?_|refine ah Q5 ?_|refine ah Q7 ?_|refine ah uq ?_|rw[gW]);conv=>whnf));exact Zs
 rcases(show r=0∨1≤r by omega)with e0|e0
 ·subst e0
  obtain⟨n7,p8⟩:=gU hs
  have kz:=Ap (c:=0) 0 a 235 (gX (mC (0:Nat) (0:Nat) (gk 0))) (gX (mC (0:Nat) (0:Nat) a)) ha
  have k3:=fT 0 aa
  rw[n7,p8]at hK
  refine eh hE 100 ?_
  conv=>whnf
  (repeat((first|refine lG (by assumption) rfl ?_|refine ah Q5 ?_|refine ah Q7 ?_|refine ah yN ?_|refine qe k3 EG ar ?_);conv=>whnf))
  exact⟨_,_,mh 7 [1,2,3,5] [2] (fun _ h=>h) rfl rfl av av av rfl hE,hK⟩
 ·have k2:=DC (r:=r) r a (el (gk r) r) 235 (gX (mC r r (gk r))) (gX (mC r r a)) hr e0 ha aa aa (fun i k hi hk=>yC ho i k hi hk)
  have k3:=fS (r:=r) r (r+r) A (yD r a) s hr e0 (Nat.le_add_right _ _) aa rz h2 hA hs
  have gW:(s.aH.map cY).length=s.aH.length:=List.length_map _
  rcases(show r=1∨r=2∨r=3∨r=4∨r=5∨r=6 by omega)with e1|e1|e1|e1|e1|e1
  all_goals
   rw[e1]at k2 k3 hK
   rw[e1]
   refine eh hE 100 ?_
   conv=>whnf
   (repeat((first|refine ah Q5 ?_|refine ah Q7 ?_|refine ah yN ?_|refine⟨[],_,_,[],k2,aM,Cj,ar, ?_⟩|refine⟨H4 _ _ _ _,_,_,_,k3,NB,Cj,dm rfl rfl, ?_⟩|rw[Nat.zero_add]);conv=>whnf))
   exact⟨_,_,jU (M:=aR _ s.w) 7 [1,2,3,5] [2] (fun _ h=>h) rfl rfl rfl rfl (by intro j hj;rcases(show j=0∨j=1∨j=2∨j=3∨j=4∨j=5 by omega)with e|e|e|e|e|e<;>first|omega|(subst e;exact⟨rfl,(bC _ _).symm⟩)) gW.symm av av av rfl aI hE,hK⟩
theorem vy {r A:Nat} {a:List Rat} (ha:dV r r a) (hr:r≤6) (sa:Sm A a) (h2:2≤A) (hA:4096*A≤4398046511104) {s:St} (hs:dR r r (yD r a)=s) (hp:s.aH.length=r):
  ab Tryz.prog 129 [mA r r a] [] (.ck [mA r r (L8 r s),iv 0]) [] []:=by
 have k1:=yo ha
 have o1:=Ky r ha.r
 have ho:dV r r (gk r):=oV ha.r ha.r
 have rz:=B5 ha sa h2
 have hc:r≤40:=aa
 have yO:=jC r (aR (r+r) s.w)
 have gW:(s.aH.map cY).length=s.aH.length:=List.length_map _
 refine fZ [1,100005,100006] Tryz.func129 ?_
 intro w0 ρ0 hE
 conv=>whnf
 (repeat((first|refine ae rfl rfl ?_|refine aS (by assumption) ?_|rw[bne_self_eq_false]|refine ah Q5 ?_|refine ah Q7 ?_);conv=>whnf))
 refine vv 5 5 (fun _ h=>h) rfl rfl rfl ?_
 refine cB (fr1:=[(7,nU r r (r+r) (aR (r+r) s.w) (s.aH.map cY) s.d),(1,bE (mC r r a)),(2,.ptr 2 0 0 0),(3,iv 0),(5,bE (mC r r (gk r)))]) (hp1:=[(2,zM)]) (fun K hK=> ?_) ?_
 case refine_2=>
  have t1:decide ((s.aH.length:Int)<(r:Int))=false:=decide_eq_false aa
  have t2:IntKind.i64.wrap (2*(r:Int))=((r+r:Nat):Int):=by rw[wrap_i64 aa aa];omega
  have k4:=Fx (r:=r) (m:=r) (c:=r+r) (n:=r) (M:=aR (r+r) s.w) (pv:=s.aH.map cY) (d:=s.d) (fun i _=>bC _ _) r (Nat.le_refl _) aa aa
  rw[G6 r (Nat.le_refl _)]at k4
  replace k4:ab Tryz.prog 224 [nU r r (r+r) (aR (r+r) s.w) (s.aH.map cY) s.d,iv r,iv ((r+r:Nat):Int)] [] (mA r r (L8 r s)) [] []:=k4
  clear rz hs
  conv=>whnf
  skip
  refine bA hE ?_
  conv=>whnf
  (repeat((first|refine aq av ?_|refine aS (by assumption) ?_|refine ay t1 ?_|refine ah Q8 ?_|refine ah Q5 ?_|refine ah Q7 ?_|refine ah uq ?_|rw[gW]|rw[t1]|rw[t2]);conv=>whnf));exact Q4
 rcases(show r=0∨1≤r by omega)with e0|e0
 ·subst e0
  obtain⟨n7,p8⟩:=gU hs
  have kz:=Ap (c:=0) 0 a 235 (gX (mC (0:Nat) (0:Nat) (gk 0))) (gX (mC (0:Nat) (0:Nat) a)) ha
  have k3:=fT 0 aa
  rw[n7,p8]at hK
  refine eh hE 100 ?_
  conv=>whnf
  (repeat((first|refine lG (by assumption) rfl ?_|refine ah Q5 ?_|refine ah Q7 ?_|refine ah yN ?_|refine qe k3 EG ar ?_);conv=>whnf))
  exact⟨_,_,mh 7 [1,2,3,5] [2] (fun _ h=>h) rfl rfl av av av rfl hE,hK⟩
 ·have k2:=DC (r:=r) r a (el (gk r) r) 235 (gX (mC r r (gk r))) (gX (mC r r a)) hr e0 ha aa aa (fun i k hi hk=>yC ho i k hi hk)
  have k3:=fS (r:=r) r (r+r) A (yD r a) s hr e0 (Nat.le_add_right _ _) aa rz h2 hA hs
  have gW:(s.aH.map cY).length=s.aH.length:=List.length_map _
  rcases(show r=1∨r=2∨r=3∨r=4∨r=5∨r=6 by omega)with e1|e1|e1|e1|e1|e1
  all_goals
   rw[e1]at k2 k3 hK
   rw[e1]
   refine eh hE 100 ?_
   conv=>whnf
   (repeat((first|refine ah Q5 ?_|refine ah Q7 ?_|refine ah yN ?_|refine⟨[],_,_,[],k2,aM,Cj,ar, ?_⟩|refine⟨H4 _ _ _ _,_,_,_,k3,NB,Cj,dm rfl rfl, ?_⟩|rw[Nat.zero_add]);conv=>whnf))
   exact⟨_,_,jU (M:=aR _ s.w) 7 [1,2,3,5] [2] (fun _ h=>h) rfl rfl rfl rfl (by intro j hj;rcases(show j=0∨j=1∨j=2∨j=3∨j=4∨j=5 by omega)with e|e|e|e|e|e<;>first|omega|(subst e;exact⟨rfl,(bC _ _).symm⟩)) gW.symm av av av rfl aI hE,hK⟩
section
variable {r A:Nat} {a:List Rat} (ha:dV r r a) (hr:r≤6) (sa:Sm A a) (h2:2≤A) (hA:4096*A≤4398046511104)
include ha hr sa h2 hA
theorem nY (hd:bL r (el a r)=0):ab Tryz.prog 129 [mA r r a] [] (.ck [mA 0 0 [],iv 6]) [] []:=by
 have hi:=gr r r (yD r a)
 refine DU ha hr sa h2 hA rfl (Nat.lt_of_le_of_ne hi.len fun g=> ?_)
 exact(hi.full.1 g) ((aW fun i k _ hk=>gH (r:=r) i k aa hk).trans hd)
theorem ll (hd:bL r (el a r)≠0):∃B:List Rat,B.length=r*r∧Sm (4096*A) B∧fA r r r B a=gk r∧ab Tryz.prog 129 [mA r r a] [] (.ck [mA r r B,iv 0]) [] []:=by
 have hi:=gr r r (yD r a)
 have hp:(dR r r (yD r a)).aH.length=r:=hi.full.2 fun g=>hd ((aW fun i k _ hk=>gH (r:=r) i k aa hk).symm.trans g)
 refine⟨_,dJ ..,zX fun i k h1 h3=>(nn (c:=r+r) (B5 ha sa h2) h2 hr (Nat.le_add_right _ _)).1 i (r+k) h1 aa,Ib hi hp (fun i k h1 h3=> ?_) gH,vy ha hr sa h2 hA rfl hp⟩
 show dN a r (el (gk r) r) i (r+k)=_
 rw[uO,wy h1 h3]
end
theorem s9 {r c n A:Nat} {a:List Rat} (ha:dV r c a) (hn:n≤6) (ZW:n≤r) (hnc:n≤c) (sa:Sm A a) (h2:2≤A) (hA:4096*A≤4398046511104):
  ab Tryz.prog 131 [mA r c a,iv n] [] (.ck [.frac (bL n (el a c)),iv 0]) [] []:=by
 have k1:=er ha
 have hu:∀x∈iB n,0≤x∧x<n:=by intro x hx;simp only[iB,List.mem_map,List.mem_range]at hx;obtain⟨i,hi,rfl⟩:=hx;omega
 have lu:=mg n
 have hrr:=ha.r
 have hcc:=ha.c
 have k2:=KA ha (iB n) (iB n) aa aa (fun x hx=>by have:=hu x hx;omega) (fun x hx=>by have:=hu x hx;omega)
 have Ck:∀i k,i<n→k<n→el (oa c a (iB n) (iB n)) n i k=el a c i k:=fun i k hi hk=>by
  have e:=ec (r:=(iB n).length) (c:=(iB n).length) (f:=fun i k=>el a c ((iB n).getD i 0).toNat ((iB n).getD k 0).toNat) (i:=i) (k:=k) aa aa
  rw[BZ hi,BZ hk]at e
  rw[lu]at e
  show el (mk (iB n).length (iB n).length _) n i k=_
  rw[lu]
  simpa using e
 have hl:(oa c a (iB n) (iB n)).length=n*n:=by rw[dJ,lu]
 have sp:Sm A (oa c a (iB n) (iB n)):=by
  intro p hp
  rw[hl]at hp
  obtain⟨d1,d2,d3⟩:=iQ hp
  have:=Ck _ _ d1 d2
  unfold el at this
  rw[d3]at this
  rw[this]
  exact eS sa ha.n aa aa
 have k3:=iA (n:=n) (A:=A) (a:=oa c a (iB n) (iB n)) ⟨aa,aa,hl⟩ hn sp h2 hA
 rw[aW Ck]at k3
 rw[lu]at k2
 have t1:decide ((n:Int)<0)=false:=decide_eq_false aa
 have t2:decide ((n:Int)>(r:Int))=false:=decide_eq_false aa
 have t3:decide ((n:Int)>(c:Int))=false:=decide_eq_false aa
 clear Ck hl sp hu
 generalize oa c a (iB n) (iB n)=P at*
 refine fZ [2,100012] Tryz.func131 ?_
 intro w0 ρ0 hE
 conv=>whnf
 (repeat((first|refine ag rfl rfl ?_|refine ae rfl rfl ?_|refine aS (by assumption) ?_|refine ah dP ?_|rw[bne_self_eq_false]|refine ay t3 ?_|refine ah Q5 ?_|refine ah Q7 ?_|rw[t1]|rw[t2]|rw[t3]);conv=>whnf))
 refine ct (t:=7) (k:=2002) (s:=1) (blk:=fH []) rfl rfl rfl ?_
 refine aj hE (fun k=>k) [2,4,7,32,33] [4,2002] (fun m fr hp=>∃i:Nat,m=n - i∧i≤n∧fr=[(2,bE (mC r c a)),(4,.ptr 4 0 0 0),(7,.aO 2002 1 0 i),(32,iv n),(33,iv i)]∧hp=[(4,⟨52,true,.one [.frac 0]⟩),(2002,fH (iB i))]) n ?_ ?_ ?_
 ·kernel_rfl
 ·exact⟨0,rfl,Nat.zero_le _,rfl,rfl⟩
 rintro m _ _ ⟨i,rfl,hi,rfl,rfl⟩
 conv=>whnf
 by_cases aE:i<n
 ·have lq:=mg i
  have t4:=dx aE
  have t5:=br (i:=i) aa
  have e7:=nV (l:=iB i) (x:=(i:Int))
  rw[lq,←pe]at e7
  clear k1 k2 k3
  (repeat((first|refine aC Q3 ?_|refine ao t4 ?_|rw[t4]|rw[t5]);conv=>whnf))
  refine⟨n - (i+1),cE [(39,2002)],[2,4,7,32,33],[4,39],aa,av,i+1,rfl,aE,rfl, ?_⟩
  rw[e7];rfl
 ·have t4:=dA aE
  obtain rfl:i=n:=aa
  (repeat(first|(refine ay t4 ?_;conv=>whnf)|(rw[t4];conv=>whnf)))
  refine gT 7 2002 (fun _ h=>h) rfl rfl lu.symm ?_
  refine bA hE ?_
  conv=>whnf
  (repeat(first|(refine aS (by assumption) ?_;conv=>whnf)|(refine ah Q5 ?_;conv=>whnf)));exact Q4
theorem yE {n A:Nat} {a:List Rat} (ha:dV n n a) (hn:n≤6) (sa:Sm A a) (h2:2≤A):fs (bL n (el a n))≤4096*A:=by
 have hd:=DL (dN a n fun _ _=>0) (s:=lg n n ⟨dN a n fun _ _=>0,[],1⟩) rfl
 rw[G1 _ _ (Nat.le_refl _)]at hd
 rw[←hd]
 split
 ·rw[fO];omega
 ·exact(nn (c:=n) (wv ha sa) h2 hn (Nat.le_refl n)).2
theorem DV {r c:Nat} {a:List Rat} (ha:dV r c a) (n:Int) (h:n<0∨(r:Int)<n∨(c:Int)<n):ab Tryz.prog 131 [mA r c a,iv n] [] (.ck [.frac 0,iv 1]) [] []:=by
 have k1:=er ha
 by_cases h1:n<0
 ·have t1:decide (n<0)=true:=decide_eq_true h1
  refine fZ [2] Tryz.func131 ?_
  intro w0 ρ0 hE
  conv=>whnf
  (repeat((first|refine ag rfl rfl ?_|refine ae rfl rfl ?_|refine aS (by assumption) ?_|refine ah dO ?_|rw[bne_self_eq_false]|refine ah Q5 ?_|rw[t1]);conv=>whnf));exact Q4
 ·have t1:decide (n<0)=false:=decide_eq_false h1
  by_cases h3:(r:Int)<n
  ·have t2:decide (n>(r:Int))=true:=decide_eq_true h3
   refine fZ [2] Tryz.func131 ?_
   intro w0 ρ0 hE
   conv=>whnf
   (repeat((first|refine ag rfl rfl ?_|refine ae rfl rfl ?_|refine aS (by assumption) ?_|refine ah dO ?_|refine ah dP ?_|rw[bne_self_eq_false]|refine ah Q5 ?_|refine ah Q7 ?_|rw[t1]|rw[t2]);conv=>whnf));exact Q4
  ·have t2:decide (n>(r:Int))=false:=decide_eq_false h3
   have t3:decide (n>(c:Int))=true:=decide_eq_true aa
   refine fZ [2] Tryz.func131 ?_
   intro w0 ρ0 hE
   conv=>whnf
   (repeat((first|refine ag rfl rfl ?_|refine ae rfl rfl ?_|refine aS (by assumption) ?_|refine ah dP ?_|rw[bne_self_eq_false]|refine ao t3 ?_|refine ah Q5 ?_|refine ah Q7 ?_|rw[t1]|rw[t2]);conv=>whnf));exact Q4
theorem Ml {r c n:Int} {a:List Rat} (hn:a.length<1099511627776) (h:cp r c a.length≠0):ab Tryz.prog 131 [mA r c a,iv n] [] (.ck [.frac 0,iv (cp r c a.length)]) [] []:=by
 have k1:=ir r c a hn
 have t1:(cp r c a.length != 0)=true:=bne_iff_ne.2 h
 refine fZ [2] Tryz.func131 ?_
 intro w0 ρ0 hE
 conv=>whnf
 (repeat(first|(refine aS (by assumption) ?_;conv=>whnf)|(refine ao t1 ?_;conv=>whnf)|(refine ah Q5 ?_;conv=>whnf)));exact Q4
def IM (b:List Rat):Mx:=fun i k=>if k=0 then b.getD i 0 else if k=i+1 then 1 else 0
theorem qX {b:List Rat} (i k:Nat) (hi:i<b.length) (Qr:i≤2048):ab Tryz.prog 234 ([]++([iv (i:Nat),iv (k:Nat)]++[bE [aN b]])) [] (.frac (IM b i k)) [] []:=by
 have k1:ab Tryz.prog 18 [iv 1] [] (.frac 1) [] []:=dI 1 aI aI
 have t1:=br (i:=i) aa
 unfold IM
 by_cases h:k=0
 ·subst h
  rw[if_pos rfl]
  refine bT [] Tryz.func234 ?_
  intro W0 w0 ρ0 hE
  conv=>whnf
  (repeat(first|(refine ag rfl rfl ?_;conv=>whnf)|(refine ah og ?_;conv=>whnf)|(refine ah Q5 ?_;conv=>whnf)));exact Q4
 ·have t2:((k:Int)==0)=false:=beq_eq_false_iff_ne.2 aa
  rw[if_neg h]
  by_cases g:k=i+1
  ·subst g
   have t3:(((i+1:Nat):Int)==((i+1:Nat):Int))=true:=beq_self_eq_true _
   rw[if_pos rfl]
   refine bT [] Tryz.func234 ?_
   intro W0 w0 ρ0 hE
   conv=>whnf
   (repeat((first|refine ag rfl rfl ?_|refine ae rfl rfl ?_|refine aS (by assumption) ?_|rw[beq_self_eq_true]|rw[t1]);conv=>whnf));exact Q4
  ·have t3:((k:Int)==((i+1:Nat):Int))=false:=beq_eq_false_iff_ne.2 aa
   rw[if_neg g]
   refine bT [] Tryz.func234 ?_
   intro W0 w0 ρ0 hE
   conv=>whnf
   (repeat(first|(refine ay t2 ?_;conv=>whnf)|(refine ay t3 ?_;conv=>whnf)|(rw[t1];conv=>whnf)));exact Q4
abbrev lK (c:Nat) (a b:List Rat):Mx:=dN a c (IM b)
theorem wB {r c A:Nat} {a b:List Rat} (ha:dV r c a) (sa:Sm A a) (hb:b.length=r) (sb:Sm A b) (h2:2≤A):∀i q,i<r→q<c+(1+r)→fs (lK c a b i q)≤A:=yp ha sa fun i k hi hk=>by
 unfold IM
 split
 ·exact sb i aa
 ·split
  ·rw[uy];exact h2
  ·rw[fO];exact h2
theorem FE {c i:Nat} {a b:List Rat}:lK c a b i c=b.getD i 0:=(uO (k:=0)).trans (if_pos rfl)
theorem Zf {c i k:Nat} {a b:List Rat}:lK c a b i (c+1+k)=delta i k:=by
 rw[Nat.add_assoc,lK,uO]
 unfold IM delta
 rw[if_neg aa]
 by_cases h:i=k
 ·rw[if_pos h,if_pos aa]
 ·rw[if_neg h,if_neg aa]
theorem DW {r c A:Nat} {a b:List Rat} (ha:dV r c a) (hb:b.length=r) (hr:r≤6) (hc:c≤40) (sa:Sm A a) (sb:Sm A b) (h2:2≤A) (hA2:8192*A≤4398046511104) {s:St} (hs:dR r c (lK c a b)=s)
  (hz:∀i,s.aH.length≤i→i<r→s.w i c=0):
  ab Tryz.prog 127 [mA r c a,aN b] [] (.ck [aN [],iv 6]) [] []:=by
 have hA:4096*A≤4398046511104:=aa
 have k1:=At ha hb
 have rz:=wB ha sa hb sb h2
 have yO:=jC r (aR (c+(1+r)) s.w)
 have gW:(s.aH.map cY).length=s.aH.length:=List.length_map _
 have t0:IntKind.i64.wrap (1+(r:Int))=((1+r:Nat):Int):=by rw[wrap_i64 aa aa];omega
 obtain⟨eR,iC⟩:=pg r c _ hs
 refine fZ [2,3,100004,100016] Tryz.func127 ?_
 intro w0 ρ0 hE
 conv=>whnf
 (repeat((first|refine ae rfl rfl ?_|refine aS (by assumption) ?_|rw[bne_self_eq_false]|refine ah Q5 ?_);conv=>whnf))
 refine cB (fr1:=[(7,nU r c (c+(1+r)) (aR (c+(1+r)) s.w) (s.aH.map cY) s.d),(2,bE (mC r c a)),(3,bE [aN b]),(4,.val (.slice none 0 0)),(5,iv 0)]) (hp1:=[]) (fun K hK=> ?_) ?_
 case refine_2=>
  clear rz hs
  conv=>whnf
  (repeat((first|refine aq av ?_|refine ah Q8 ?_|refine ah Q5 ?_|refine ah Q7 ?_|refine ah Ga ?_|refine ah uq ?_|rw[yO]|rw[gW]|rw[Int.toNat_natCast]);conv=>whnf))
  generalize hTL:List.take (r - s.aH.length) (List.drop s.aH.length ((List.range r).map (aR (c+(1+r)) s.w)))=TL
  have L3:TL.length=r - s.aH.length:=by rw[←hTL];exact nm
  have IL:∀i,s.aH.length+i<r→TL.getD i []=aR (c+(1+r)) s.w (s.aH.length+i):=fun i hi=>by rw[←hTL];exact nk hi
  refine aj hE (fun k=>k) [2,35,36,37] [] (fun m fr hp=>∃i:Nat,m=r - i∧s.aH.length+i≤r∧fr=[(2,bE (mC r c a)),(35,bF 1 aN TL),(36,iv (r - s.aH.length:Nat)),(37,iv i)]∧hp=[]) r ?_ ?_ ?_
  ·kernel_rfl
  ·exact⟨0,rfl,aa,by rw[←L3];rfl,rfl⟩
  rintro m _ _ ⟨i,rfl,hi,rfl,rfl⟩
  conv=>whnf
  by_cases aE:i<r - s.aH.length
  ·have t1:=dx aE
   have t2:=br (i:=i) aa
   have g1:=IL i aa
   have g2:(aR (c+(1+r)) s.w (s.aH.length+i)).length=c+(1+r):=bC _ _
   have g3:(aR (c+(1+r)) s.w (s.aH.length+i)).getD c 0=s.w (s.aH.length+i) c:=dn aa
   have k2:=fM (s.w (s.aH.length+i) c)
   have t3:((s.w (s.aH.length+i) c).num.sign==0)=true:=by rw[hz _ aa aa];rfl
   (repeat((first|refine aS (by assumption) ?_|refine ao t1 ?_|refine ao t3 ?_|refine ah og ?_|refine ah Q5 ?_|refine ah mP ?_|refine ah Q7 ?_|rw[t1]|rw[t2]|rw[g1]|rw[g3]|rw[t3]);conv=>whnf))
   exact⟨r - (i+1),fun k=>k,[2,35,36,37],[],aa,av,i+1,rfl,aa,rfl,rfl⟩
  ·have t1:=dA aE
   (repeat(first|(refine ay t1 ?_;conv=>whnf)));exact Q21
 rcases(show r=0∨1≤r by omega)with e0|e0
 ·subst e0
  obtain⟨n7,p8⟩:=gU hs
  have kz:=pU (c:=c) (1+0) a 234 (gX [aN b]) ha
  have k3:=fT c aa
  rw[n7,p8]at hK
  refine eh hE 100 ?_
  conv=>whnf
  (repeat((first|refine lG (by assumption) rfl ?_|refine ah Q5 ?_|refine ah Q7 ?_|refine ah yN ?_|refine qe k3 EG ar ?_|rw[t0]);conv=>whnf))
  exact⟨_,_,mh 7 [2,3,4,5] [] (fun _ h=>h) rfl rfl av av av rfl hE,hK⟩
 ·have k2:=sL (r:=r) (1+r) a (IM b) 234 (gX [aN b]) hr e0 ha hc aa (fun i k hi _=>qX i k (by rw[hb];exact hi) aa)
  have k3:=fS (r:=r) c (c+(1+r)) A (lK c a b) s hr e0 (Nat.le_add_right _ _) aa rz h2 hA hs
  have gW:(s.aH.map cY).length=s.aH.length:=List.length_map _
  rcases(show r=1∨r=2∨r=3∨r=4∨r=5∨r=6 by omega)with e1|e1|e1|e1|e1|e1
  all_goals
   rw[e1]at k2 k3 hK t0
   rw[e1]
   refine eh hE 100 ?_
   conv=>whnf
   (repeat((first|refine ah Q5 ?_|refine ah Q7 ?_|refine ah yN ?_|refine⟨[],_,_,[],k2,aM,Cj,ar, ?_⟩|refine⟨H4 _ _ _ _,_,_,_,k3,NB,Cj,dm rfl rfl, ?_⟩|rw[t0]|rw[Nat.zero_add]);conv=>whnf))
   exact⟨_,_,jU (M:=aR _ s.w) 7 [2,3,4,5] [] (fun _ h=>h) rfl rfl rfl rfl (by intro j hj;rcases(show j=0∨j=1∨j=2∨j=3∨j=4∨j=5 by omega)with e|e|e|e|e|e<;>first|omega|(subst e;exact⟨rfl,(bC _ _).symm⟩)) gW.symm av av av rfl aI hE,hK⟩
theorem vz {r c A:Nat} {a b:List Rat} (ha:dV r c a) (hb:b.length=r) (hr:r≤6) (hc:c≤40) (sa:Sm A a) (sb:Sm A b) (h2:2≤A) (hA2:8192*A≤4398046511104) {s:St} (hs:dR r c (lK c a b)=s)
  {j:Nat} (hj1:s.aH.length≤j) (hj2:j<r) (hj3:s.w j c≠0) (hj4:∀i,s.aH.length≤i→i<j→s.w i c=0):
  ab Tryz.prog 127 [mA r c a,aN b] [] (.ck [aN ((List.range r).map fun k=>s.w j (c+1+k)/s.w j c),iv 0]) [] []:=by
 have gV:∀q,q<c+(1+r)→fs (s.w j q)≤4096*A:=fun q hq=>by
  have:=(nn (r:=r) (m:=c) (wB ha sa hb sb h2) h2 hr (Nat.le_add_right _ _)).1 j q hj2 hq
  rwa [hs]at this
 have hA:4096*A≤4398046511104:=aa
 have k1:=At ha hb
 have rz:=wB ha sa hb sb h2
 have yO:=jC r (aR (c+(1+r)) s.w)
 have gW:(s.aH.map cY).length=s.aH.length:=List.length_map _
 have t0:IntKind.i64.wrap (1+(r:Int))=((1+r:Nat):Int):=by rw[wrap_i64 aa aa];omega
 obtain⟨eR,iC⟩:=pg r c _ hs
 refine fZ [2,3,100004,100016] Tryz.func127 ?_
 intro w0 ρ0 hE
 conv=>whnf
 (repeat((first|refine ae rfl rfl ?_|refine aS (by assumption) ?_|rw[bne_self_eq_false]|refine ah Q5 ?_);conv=>whnf))
 refine cB (fr1:=[(7,nU r c (c+(1+r)) (aR (c+(1+r)) s.w) (s.aH.map cY) s.d),(2,bE (mC r c a)),(3,bE [aN b]),(4,.val (.slice none 0 0)),(5,iv 0)]) (hp1:=[]) (fun K hK=> ?_) ?_
 case refine_2=>
  clear rz hs
  conv=>whnf
  (repeat((first|refine aq av ?_|refine ah Q8 ?_|refine ah Q5 ?_|refine ah Q7 ?_|refine ah Ga ?_|refine ah uq ?_|rw[yO]|rw[gW]|rw[Int.toNat_natCast]);conv=>whnf))
  generalize hTL:List.take (r - s.aH.length) (List.drop s.aH.length ((List.range r).map (aR (c+(1+r)) s.w)))=TL
  have L3:TL.length=r - s.aH.length:=by rw[←hTL];exact nm
  have IL:∀i,s.aH.length+i<r→TL.getD i []=aR (c+(1+r)) s.w (s.aH.length+i):=fun i hi=>by rw[←hTL];exact nk hi
  refine aj hE (fun k=>k) [2,35,36,37] [] (fun m fr hp=>∃i:Nat,m=r - i∧s.aH.length+i≤j∧fr=[(2,bE (mC r c a)),(35,bF 1 aN TL),(36,iv (r - s.aH.length:Nat)),(37,iv i)]∧hp=[]) r ?_ ?_ ?_
  ·kernel_rfl
  ·exact⟨0,rfl,aa,by rw[←L3];rfl,rfl⟩
  rintro m _ _ ⟨i,rfl,hi,rfl,rfl⟩
  conv=>whnf
  have t1:=dx (show i<r - s.aH.length by omega)
  have t2:=br (i:=i) aa
  have g1:=IL i aa
  have g2:(aR (c+(1+r)) s.w (s.aH.length+i)).length=c+(1+r):=bC _ _
  have g3:(aR (c+(1+r)) s.w (s.aH.length+i)).getD c 0=s.w (s.aH.length+i) c:=dn aa
  have k2:=fM (s.w (s.aH.length+i) c)
  by_cases e:s.aH.length+i=j
  ·rw[e]at g1 g2 g3 k2
   have t3:((s.w j c).num.sign==0)=false:=beq_eq_false_iff_ne.2 fun g=>hj3 (Rat.num_eq_zero.1 (Int.sign_eq_zero_iff_zero.1 g))
   have hR:∀k,k<r→(aR (c+(1+r)) s.w j).getD (c+1+k) 0=s.w j (c+1+k):=fun k hk=>dn aa
   have hz:((List.range r).map fun k=>s.w j (c+1+k)/s.w j c).length=r:=by simp
   have hY:∀k,k<r→((List.range r).map fun k=>s.w j (c+1+k)/s.w j c).getD k 0=s.w j (c+1+k)/s.w j c:=fun k hk=>by simp[List.getD_eq_getElem?_getD,hk]
   have Ei:=gV c aa
   (repeat((first|refine aC Q3 ?_|refine aS (by assumption) ?_|refine ao t1 ?_|refine ay t3 ?_|refine ah og ?_|refine ah Q5 ?_|refine ah mP ?_|refine ah Q7 ?_|rw[t1]|rw[g1]|rw[g3]|rw[t3]|rw[Int.toNat_natCast]);conv=>whnf))
   generalize ((List.range r).map fun k=>s.w j (c+1+k)/s.w j c)=Y at*
   generalize aR (c+(1+r)) s.w j=R at*
   refine aj hE (fun k=>k) [2,9,10,11,53,54] [10,51] (fun m fr hp=>∃i:Nat,m=r - i∧i≤r∧fr=[(2,bE (mC r c a)),(9,aN R),(10,.ptr 10 0 0 0),(11,.aO 51 5 0 r),(53,iv r),(54,iv i)]∧hp=[(10,⟨52,true,.one [.frac (s.w j c)]⟩),(51,cP (Y.take i++List.replicate (r - i) 0))]) r ?_ ?_ ?_
   ·kernel_rfl
   ·exact⟨0,rfl,Nat.zero_le _,rfl,rfl⟩
   rintro m _ _ ⟨k,rfl,hk,rfl,rfl⟩
   conv=>whnf
   have Hf:=dG (d:=(0:Rat)) hk hz
   by_cases hkr:k<r
   ·have t4:=dx hkr
    have t5:=br (i:=k) aa
    have w1:=br (i:=c) aa
    have w2:IntKind.i64.wrap (((c+1:Nat):Int)+(k:Int))=((c+1+k:Nat):Int):=by rw[wrap_i64 aa aa];omega
    have EV:=hR k hkr
    have hsq:=gV (c+1+k) aa
    have k3:=QO (R.getD (c+1+k) 0) (s.w j c) hj3 (by rw[EV];omega)
    have hq:R.getD (c+1+k) 0/s.w j c=Y.getD k 0:=by rw[hY k hkr,EV]
    rw[hq]at k3
    have J8:c+1+k<R.length:=aa
    clear hR hY IL
    (repeat((first|refine aq av ?_|refine bg Q3 ?_|refine aC Q3 ?_|refine aS (by assumption) ?_|refine ao t4 ?_|refine ah Q5 ?_|refine ah IG ?_|refine ah Q7 ?_|rw[t4]|rw[t5]|rw[w1]|rw[w2]|rw[Int.toNat_natCast]|rw[Nat.zero_add]);conv=>whnf))
    exact⟨r - (k+1),fun k=>k,[2,9,10,11,53,54],[10,51],aa,av,k+1,rfl,hkr,rfl,by rw[cP,←fp (e:=0) hkr hz];rfl⟩
   ·have t4:=dA hkr
    obtain rfl:k=r:=aa
    rw[fu hz]at*
    (repeat(first|(refine ay t4 ?_;conv=>whnf)|(rw[t4];conv=>whnf)))
    refine fv 11 51 (fun _ h=>h) rfl rfl hz.symm ?_
    refine bA hE ?_
    conv=>whnf
    skip;exact Q4
  ·have t3:((s.w (s.aH.length+i) c).num.sign==0)=true:=by rw[hj4 _ aa aa];rfl
   (repeat((first|refine aS (by assumption) ?_|refine ao t1 ?_|refine ao t3 ?_|refine ah og ?_|refine ah Q5 ?_|refine ah mP ?_|refine ah Q7 ?_|rw[t1]|rw[t2]|rw[g1]|rw[g3]|rw[t3]);conv=>whnf))
   exact⟨r - (i+1),fun k=>k,[2,35,36,37],[],aa,av,i+1,rfl,aa,rfl,rfl⟩
 rcases(show r=0∨1≤r by omega)with e0|e0
 ·subst e0
  obtain⟨n7,p8⟩:=gU hs
  have kz:=pU (c:=c) (1+0) a 234 (gX [aN b]) ha
  have k3:=fT c aa
  rw[n7,p8]at hK
  refine eh hE 100 ?_
  conv=>whnf
  (repeat((first|refine lG (by assumption) rfl ?_|refine ah Q5 ?_|refine ah Q7 ?_|refine ah yN ?_|refine qe k3 EG ar ?_|rw[t0]);conv=>whnf))
  exact⟨_,_,mh 7 [2,3,4,5] [] (fun _ h=>h) rfl rfl av av av rfl hE,hK⟩
 ·have k2:=sL (r:=r) (1+r) a (IM b) 234 (gX [aN b]) hr e0 ha hc aa (fun i k hi _=>qX i k (by rw[hb];exact hi) aa)
  have k3:=fS (r:=r) c (c+(1+r)) A (lK c a b) s hr e0 (Nat.le_add_right _ _) aa rz h2 hA hs
  have gW:(s.aH.map cY).length=s.aH.length:=List.length_map _
  rcases(show r=1∨r=2∨r=3∨r=4∨r=5∨r=6 by omega)with e1|e1|e1|e1|e1|e1
  all_goals
   rw[e1]at k2 k3 hK t0
   rw[e1]
   refine eh hE 100 ?_
   conv=>whnf
   (repeat((first|refine ah Q5 ?_|refine ah Q7 ?_|refine ah yN ?_|refine⟨[],_,_,[],k2,aM,Cj,ar, ?_⟩|refine⟨H4 _ _ _ _,_,_,_,k3,NB,Cj,dm rfl rfl, ?_⟩|rw[t0]|rw[Nat.zero_add]);conv=>whnf))
   exact⟨_,_,jU (M:=aR _ s.w) 7 [2,3,4,5] [] (fun _ h=>h) rfl rfl rfl rfl (by intro j hj;rcases(show j=0∨j=1∨j=2∨j=3∨j=4∨j=5 by omega)with e|e|e|e|e|e<;>first|omega|(subst e;exact⟨rfl,(bC _ _).symm⟩)) gW.symm av av av rfl aI hE,hK⟩
section
variable {r c A:Nat} {a b:List Rat} (ha:dV r c a) (hb:b.length=r) (hr:r≤6) (hc:c≤40) (sa:Sm A a) (sb:Sm A b) (h2:2≤A) (hA:8192*A≤4398046511104)
include ha hb hr hc sa sb h2 hA
theorem FF (hx:∃x,oj r c a b x):ab Tryz.prog 127 [mA r c a,aN b] [] (.ck [aN [],iv 6]) [] []:=
 DW ha hb hr hc sa sb h2 hA rfl ((B4 (gr r c (lK c a b)) gH fun i _=>FE).2 hx)
theorem FG (hx:¬∃x,oj r c a b x):∃Y:List Rat,Y.length=r∧Sm (8192*A) Y∧(∀q,q<c→aD r (fun i=>el a c i q*Y.getD i 0)=0)∧aD r (fun i=>Y.getD i 0*b.getD i 0)=1∧
  ab Tryz.prog 127 [mA r c a,aN b] [] (.ck [aN Y,iv 0]) [] []:=by
 have hi:=gr r c (lK c a b)
 obtain⟨j,h1,h3,h4,h5⟩:=Az hi gH (fun i _=>FE) hx
 have gV:=(nn (r:=r) (m:=c) (wB ha sa hb sb h2) h2 hr (Nat.le_add_right _ _)).1
 obtain⟨c1,c2⟩:=O4 hi (fun i k _ _=>Zf) h1 h3 h4
 have k:=vz ha hb hr hc sa sb h2 hA rfl h1 h3 h4 h5
 have hY:∀k,k<r→((List.range r).map fun k=>(dR r c (lK c a b)).w j (c+1+k)/(dR r c (lK c a b)).w j c).getD k 0=(dR r c (lK c a b)).w j (c+1+k)/(dR r c (lK c a b)).w j c:=fun k hk=>by simp[List.getD_eq_getElem?_getD,hk]
 refine⟨_,by simp, ?_, ?_, ?_,k⟩
 ·intro q hq
  rw[List.length_map,List.length_range]at hq
  rw[hY q hq]
  have b1:=gV j (c+1+q) h3 aa
  have b2:=gV j c h3 aa
  have b3:=qG ((dR r c (lK c a b)).w j (c+1+q)) ((dR r c (lK c a b)).w j c)
  omega
 ·intro q hq
  exact(ai r fun i hi=>by rw[hY i hi];show _=dN a c (IM b) i q*_;rw[gH (r:=r) i q hi hq]).trans (c1 q hq)
 ·exact(ai r fun i hi=>by rw[hY i hi,FE]).trans c2
end
theorem Pg (ms:List MM) (h:ms.length<1000) (hl:∀m∈ms,m.2.2.length≤maxLen):ab Tryz.prog 112 [bF 3 mQ ms] [] (.val (.bool (ms.all fun m=>decide (m.2.2.length≤40)))) [] []:=by
 refine bT [] Tryz.func112 ?_
 intro W0 w0 ρ0 hE
 conv=>whnf
 skip
 refine aj hE (fun k=>k) [0,3] [] (fun m fr hp=>∃i:Nat,m=ms.length - i∧i≤ms.length∧(∀j,j<i→decide ((ms.getD j Dj).2.2.length≤40)=true)∧fr=[(0,bF 3 mQ ms),(3,iv (i:Nat))]∧hp=[]) ms.length ?_ ?_ ?_
 ·kernel_rfl
 ·exact⟨0,rfl,Nat.zero_le _,(fun j hj=>aa),rfl,rfl⟩
 rintro m _ _ ⟨i,rfl,hi,hs,rfl,rfl⟩
 conv=>whnf
 by_cases aE:i<ms.length
 ·have t1:=dx aE
  have t2:=br (i:=i) aa
  by_cases hL:(ms.getD i Dj).2.2.length≤40
  ·have t3:decide (((ms.getD i Dj).2.2.length:Int)>40)=false:=decide_eq_false aa
   (repeat((first|refine ao t1 ?_|refine ay t3 ?_|refine ah Q8 ?_|refine ah Q5 ?_|refine ah Q7 ?_|refine ah (gK (α:=MM) (d:=Dj) rfl (ak rfl) (ak rfl) (jz rfl) rfl (jz rfl) rfl aa) ?_|rw[t1]|rw[t3]|rw[t2]);conv=>whnf))
   refine⟨ms.length - (i+1),fun k=>k,[0,3],[],aa,av,i+1,rfl,aE, ?_,rfl,rfl⟩
   intro j hj
   by_cases hji:j=i
   ·rw[hji];exact decide_eq_true hL
   ·exact hs j aa
  ·have t3:decide (((ms.getD i Dj).2.2.length:Int)>40)=true:=decide_eq_true aa
   have e:(ms.all fun m=>decide (m.2.2.length≤40))=false:=JK (d:=Dj) aE (decide_eq_false hL)
   rw[e]
   (repeat((first|refine ao t1 ?_|refine ao t3 ?_|refine ah Q8 ?_|refine ah Q5 ?_|refine ah Q7 ?_|refine ah (gK (α:=MM) (d:=Dj) rfl (ak rfl) (ak rfl) (jz rfl) rfl (jz rfl) rfl aa) ?_);conv=>whnf));exact Q4
 ·have t1:=dA aE
  obtain rfl:i=ms.length:=aa
  have e:(ms.all fun m=>decide (m.2.2.length≤40))=true:=JJ Dj hs
  rw[e]
  (repeat(first|(refine ay t1 ?_;conv=>whnf)|(refine ah Q8 ?_;conv=>whnf)));exact Q4
theorem B6 (l:List (Int×Int)) (hl:l.length≤maxLen) (h:∀q∈l,ue q) {n:Nat} (hn:n≤2048):ab Tryz.prog 125 [bF 2 qA l,iv n] [] (aN (cM l n)) [] []:=by
 have hz:=eu l n
 refine fZ [] Tryz.func125 ?_
 intro w0 ρ0 hE
 conv=>whnf
 (repeat(first|(refine aC Q3 ?_;conv=>whnf)|(rw[Int.toNat_natCast];conv=>whnf)))
 refine aj hE (fun k=>k) [0,1,5,6] [8] (fun m fr hp=>∃i:Nat,m=n - i∧i≤n∧fr=[(0,bF 2 qA l),(1,iv n),(5,.aO 8 5 0 n),(6,iv (i:Nat))]∧hp=[(8,cP ((cM l n).take i++List.replicate (n - i) 0))]) n ?_ ?_ ?_
 ·kernel_rfl
 ·exact⟨0,rfl,Nat.zero_le _,rfl,rfl⟩
 rintro m _ _ ⟨i,rfl,hi,rfl,rfl⟩
 have hlen:=dG (d:=(0:Rat)) hi hz
 conv=>whnf
 by_cases aE:i<n
 ·have t1:=dx aE
  have t2:=br (i:=i) aa
  by_cases lJ:i<l.length
  ·have t3:=dx lJ
   have o1:=zV (l.getD i (0,0)) (kO h i)
   rw[show qV (l.getD i (0,0))=(cM l n).getD i 0 from(pJ aE).symm]at o1
   (repeat((first|refine bg Q3 ?_|refine aC Q3 ?_|refine aS (by assumption) ?_|refine ah dO ?_|refine ao t1 ?_|refine ao t3 ?_|refine ah Q8 ?_|refine ah Q5 ?_|refine ah X8 ?_|rw[t1]|rw[t3]|rw[t2]|rw[Int.toNat_natCast]|rw[Nat.zero_add]);conv=>whnf))
   refine⟨n - (i+1),fun k=>k,[0,1,5,6],[8],aa,av,i+1,rfl,aE,rfl, ?_⟩
   rw[cP,←fp (e:=0) aE hz]
   rfl
  ·have t3:=dA lJ
   rw[←E9 aa]at*
   (repeat((first|refine ah dO ?_|refine ao t1 ?_|refine ay t3 ?_|refine ah Q8 ?_|rw[t1]);conv=>whnf))
   exact Q27
 ·have t1:=dA aE
  obtain rfl:i=n:=aa
  rw[fu hz]at*
  (repeat((first|refine ae rfl rfl ?_|refine ah dP ?_|refine ay t1 ?_|rw[t1]);conv=>whnf))
  exact Q27
theorem yF (l m:List Int) (hl:l.length<1099511627776) (hm:m.length<1099511627776):ab Tryz.prog 117 [cO .i64 l,cO .i64 m] [] (.val (.bool (decide (l=m)))) [] []:=by
 by_cases hlen:l.length=m.length
 ·have t1:((l.length:Int) != (m.length:Int))=false:=by rw[hlen];exact bne_self_eq_false _
  refine bT [] Tryz.func117 ?_
  intro W0 w0 ρ0 hE
  conv=>whnf
  (repeat(first|(refine ay t1 ?_;conv=>whnf)|(refine ah Q8 ?_;conv=>whnf)|(rw[t1];conv=>whnf)))
  refine aj hE (fun k=>k) [0,1,5] [] (fun M fr hp=>∃i:Nat,M=l.length - i∧i≤l.length∧(∀j,j<i→l.getD j 0=m.getD j 0)∧fr=[(0,cO .i64 l),(1,cO .i64 m),(5,iv (i:Nat))]∧hp=[]) l.length ?_ ?_ ?_
  ·kernel_rfl
  ·exact⟨0,rfl,Nat.zero_le _,(fun j hj=>absurd hj (Nat.not_lt_zero j)),rfl,rfl⟩
  rintro M _ _ ⟨i,rfl,hi,hs,rfl,rfl⟩
  conv=>whnf
  by_cases aE:i<l.length
  ·have t2:=dx aE
   have t3:=br (i:=i) aa
   have hlm:i<m.length:=aa
   by_cases he:l.getD i 0=m.getD i 0
   ·have t4:(l.getD i 0 != m.getD i 0)=false:=by rw[he];exact bne_self_eq_false _
    (repeat((first|refine aq av ?_|refine ao t2 ?_|refine ay t4 ?_|refine ah Q8 ?_|refine ah Q5 ?_|refine ah jw ?_|rw[t2]|rw[t3]|rw[t4]);conv=>whnf))
    refine⟨l.length - (i+1),fun k=>k,[0,1,5],[],aa,av,i+1,rfl,aE, ?_,rfl,rfl⟩
    intro j hj
    by_cases hji:j=i
    ·rw[hji];exact he
    ·exact hs j aa
   ·have t4:(l.getD i 0 != m.getD i 0)=true:=bne_iff_ne.2 he
    rw[decide_eq_false fun e:l=m=>he (by rw[e])]
    (repeat((first|refine aq av ?_|refine ao t2 ?_|refine ao t4 ?_|refine ah Q8 ?_|refine ah Q5 ?_|refine ah jw ?_);conv=>whnf));exact Q4
  ·have t2:=dA aE
   obtain rfl:i=l.length:=aa
   have e:l=m:=List.ext_getElem hlen fun j h1 h2=>by
    have:=hs j h1
    rwa [List.getD_eq_getElem?_getD,List.getD_eq_getElem?_getD,List.getElem?_eq_getElem h1,List.getElem?_eq_getElem h2]at this
   rw[decide_eq_true e]
   (repeat(first|(refine ay t2 ?_;conv=>whnf)|(refine ah Q8 ?_;conv=>whnf)));exact Q4
 ·have t1:((l.length:Int) != (m.length:Int))=true:=bne_iff_ne.2 aa
  rw[decide_eq_false fun e:l=m=>hlen (by rw[e])]
  refine bT [] Tryz.func117 ?_
  intro W0 w0 ρ0 hE
  conv=>whnf
  (repeat(first|(refine ao t1 ?_;conv=>whnf)|(refine ah Q8 ?_;conv=>whnf)));exact Q4
abbrev X6:List Rat:=jA [1,2,3,2,4,7]
abbrev F4:List Rat:=jA [1,2,2,4]
abbrev P4:List Rat:=jA [1,2,3,4]
abbrev B2:List Rat:=jA [1,3]
theorem eP:ab Tryz.prog 30 [] [] (.val (.bool true)) [] []:=by
 have h6:dV 2 3 X6:=⟨aI,aI,rfl⟩
 have s6:Sm 20 X6:=by unfold Sm;decide+kernel
 have hf:dV 2 2 F4:=⟨aI,aI,rfl⟩
 have sf:Sm 20 F4:=by unfold Sm;decide+kernel
 have h4:dV 2 2 P4:=⟨aI,aI,rfl⟩
 have s4:Sm 20 P4:=by unfold Sm;decide+kernel
 have sb:Sm 20 B2:=by unfold Sm;decide+kernel
 have o1:=YI 2 3 [1,2,3,2,4,7] aI aI rfl aI
 have o2:=eO (A:=20) h6 aI aI s6 aI aI
 have o3:=pY (A:=20) h6 aI aI s6 aI aI
 rw[show RL 2 3 X6=[1,2,0,0,0,1]from by decide+kernel,show(bV 2 3 X6).map cY=[0,2]from by decide+kernel]at o2
 rw[show KL 2 3 X6=[[-2,1,0]]from by decide+kernel]at o3
 have v1:=abZ [1,3] aI aI
 have o4:=Av (A:=20) (b:=B2) h6 rfl aI aI s6 sb aI aI (s:=dR 2 3 (jV 3 X6 B2)) rfl (fun i h1 h2=>by
  have:(dR 2 3 (jV 3 X6 B2)).aH.length=2:=by decide+kernel
  omega)
 rw[show xS (aR (3+1) (dR 2 3 (jV 3 X6 B2)).w) (dR 2 3 (jV 3 X6 B2)).aH 3 3 (dR 2 3 (jV 3 X6 B2)).aH.length=[-2,0,1]from by decide+kernel,
  show(aU (dR 2 3 (jV 3 X6 B2)).aH 3).map (yP (aR (3+1) (dR 2 3 (jV 3 X6 B2)).w) (dR 2 3 (jV 3 X6 B2)).aH 3)=[[-2,1,0]]from by decide+kernel]at o4
 have o5:=YI 2 2 [1,2,2,4] aI aI rfl aI
 have p1:(dR 2 2 (jV 2 F4 B2)).aH.length=1:=by decide+kernel
 have o6:=Au (A:=20) (b:=B2) hf rfl aI aI sf sb aI aI (s:=dR 2 2 (jV 2 F4 B2)) rfl (j:=1) aa aI (by decide+kernel) (fun i h1 h2=>aa)
 have p2:(dR 2 2 (lK 2 F4 B2)).aH.length=1:=by decide+kernel
 have o7:=vz (A:=20) (b:=B2) hf rfl aI aI sf sb aI aI (s:=dR 2 2 (lK 2 F4 B2)) rfl (j:=1) aa aI (by decide+kernel) (fun i h1 h2=>aa)
 have lY:((List.range 2).map fun k=>(dR 2 2 (lK 2 F4 B2)).w 1 (2+1+k)/(dR 2 2 (lK 2 F4 B2)).w 1 2).length=2:=by simp
 generalize ((List.range 2).map fun k=>(dR 2 2 (lK 2 F4 B2)).w 1 (2+1+k)/(dR 2 2 (lK 2 F4 B2)).w 1 2)=Y at*
 have o8:=YI 2 2 [1,2,3,4] aI aI rfl aI
 have o9:=iA (A:=20) h4 aI s4 aI aI
 rw[show bL 2 (el P4 2)= -2 from by decide+kernel]at o9
 have p3:(dR 2 2 (yD 2 P4)).aH.length=2:=by decide+kernel
 have o10:=vy (A:=20) h4 aI s4 aI aI (s:=dR 2 2 (yD 2 P4)) rfl p3
 rw[show L8 2 (dR 2 2 (yD 2 P4))=[-2,1,3/2, -1/2]from by decide+kernel]at o10
 have o11:=s9 (A:=20) (n:=1) h4 aI aI aI s4 aI aI
 rw[show bL 1 (el P4 2)=1 from by decide+kernel]at o11
 have t1:=E8 (r:=2) (c:=3) (B:=20) (a:=[1,2,0,0,0,1]) ⟨aI,aI,rfl⟩ (by unfold Sm;decide+kernel) aI
 have t2:=E6 [-2,1,0] 20 aI (by decide+kernel) aI
 have t3:=E6 [-2,0,1] 20 aI (by decide+kernel) aI
 have t4:=E8 (r:=2) (c:=2) (B:=20) (a:=[-2,1,3/2, -1/2]) ⟨aI,aI,rfl⟩ (by unfold Sm;decide+kernel) aI
 have o12:=yF [0,2] [0,2] aI aI
 rw[decide_eq_true rfl]at o12
 have f1:ab Tryz.prog 18 [iv (-2)] [] (.frac (-2)) [] []:=dI (-2) aI aI
 have f2:ab Tryz.prog 18 [iv 1] [] (.frac 1) [] []:=dI 1 aI aI
 have q1:(!(tM 2 3 [1,2,0,0,0,1]).toList==(ByteArray.mk #[91,49,32,50,32,48,93,32,91,48,32,48,32,49,93]).toList)=false:=by decide+kernel
 have q2:(!(tV [-2,1,0]).toList==(ByteArray.mk #[91,45,50,32,49,32,48,93]).toList)=false:=by decide+kernel
 have q3:(!(tV [-2,0,1]).toList==(ByteArray.mk #[91,45,50,32,48,32,49,93]).toList)=false:=by decide+kernel
 have q4:((tM 2 2 [-2,1,3/2, -1/2]).toList==(ByteArray.mk #[91,45,50,32,49,93,32,91,51,47,50,32,45,49,47,50,93]).toList)=true:=by decide+kernel
 have q5:decide ((-2:Rat)= -2)=true:=decide_eq_true rfl
 have q6:decide ((1:Rat)=1)=true:=decide_eq_true rfl
 have lY2:((Y.length:Int)==2)=true:=by rw[lY];rfl
 clear p1 p2 p3
 refine bT [25,42,56,93,99,106,112] Tryz.func30 ?_
 intro W0 w0 ρ0 hE
 conv=>whnf
 (repeat((first|refine ag rfl rfl ?_|refine ae rfl rfl ?_|refine aq av ?_|refine aS (by assumption) ?_|refine ah dO ?_|refine ah dP ?_|rw[beq_self_eq_true]|rw[bne_self_eq_false]|refine ao q4 ?_|refine ao lY2 ?_|refine ah Q8 ?_|refine ah Q5 ?_|refine ah (zn rfl (ak rfl) (ak rfl) (jz rfl) rfl (jz rfl) rfl aa (by first|decide|(simp;done)|omega) rfl) ?_|refine⟨_,fh aJ cy rfl (ak rfl) (ak rfl) rfl rfl rfl rfl (oP _ _) cf, ?_⟩|rw[q1]|rw[q2]|rw[q3]|rw[q4]|rw[q6]|rw[lY2]);conv=>whnf));exact Q4
end Go.Proofs.YtfpagioknjjacaaGreatDoor
