/- The texts Kw, Ia, Fb, Oa, Ob, Of, Oc, Oe, Ok, Pb, Qr. -/
import Derived.Test.YtbopchpncgdaaaaGreatDoorQsA12
namespace Go.Proofs.YtbopchpncgdaaaaGreatDoor
open Go.Sx
set_option linter.unusedSimpArgs false
set_option linter.unusedVariables false
set_option maxRecDepth 100000
set_option maxHeartbeats 40000000
def plF (n:Nat) (p:Int):Int:=p % (n:Int)
def places (l:List Int) (n:Nat) (b:Bool):List Int:=(if b then(List.range n).map (fun i=>((i:Nat):Int))else[])++(if n=0 then[]else l.map (plF n))
abbrev iblkM (l:List Int):Blk:=⟨3,true,.ints .i64 l⟩
theorem app_int {l:List Int} {x:Int}:iblkM (l++[x])=⟨3,true,.ints .i64 (List.take l.length l++List.take 1 (List.drop 0 [x]))⟩:=by
 rw[iblkM,List.take_of_length_le (Nat.le_refl _)];rfl
end Go.Proofs.YtbopchpncgdaaaaGreatDoor
namespace Go.Proofs.YtbopchpncgdaaaaGreatDoor
open Go.Sx
set_option linter.unusedSimpArgs false
set_option linter.unusedVariables false
set_option maxRecDepth 100000
set_option maxHeartbeats 4000000
theorem SWx_freezeI {E:Env} (t k:Nat) {c:Code} {K:Post'} {fr:List (Nat×SV)} {hp:List (Nat×Blk)} {ty:TypeId} {n:Nat} {kd:IntKind} {xs:List Int} (hW:∀b,¬E.W0 b) (ht:lk fr t=some (.slc k 1 0 n)) (hk:find hp k=some ⟨ty,true,.ints kd xs⟩)
  (hn:n=xs.length) (hs:SWx E c K ((t,ivec kd xs)::fr) (setB hp k ⟨ty,true,.dead⟩)):SWx E c K fr hp:=by
 refine SWx_freeze t k (xs:=xs.map (iel kd)) hW ht hk rfl rfl (keylessL_map (fun _=>rfl) xs) (by simp;omega) ?_
 rw[cutL_all (by simp;omega)]
 exact hs
end Go.Proofs.YtbopchpncgdaaaaGreatDoor
namespace Go.Proofs.YtbopchpncgdaaaaGreatDoor
open Go.Sx
set_option linter.unusedSimpArgs false
set_option linter.unusedVariables false
set_option maxRecDepth 100000
set_option maxHeartbeats 4000000
variable {M:Nat}
structure Words (M:Nat) (xs:List Int):Prop where
 w32:W32 xs
 len:xs.length<1099511627776
 fit:32*xs.length+33≤M
end Go.Proofs.YtbopchpncgdaaaaGreatDoor
namespace Go.Proofs.YtbopchpncgdaaaaGreatDoor
open Go.Sx
set_option linter.unusedSimpArgs false
set_option linter.unusedVariables false
set_option maxRecDepth 100000
set_option maxHeartbeats 4000000
def zs (z:Int):Nat:=sz z.natAbs+1
theorem zs_add (a b:Int):zs (a+b)≤zs a+zs b:=by
 have:=sz_add (a:=a.natAbs) (b:=b.natAbs) (k:=max (sz a.natAbs) (sz b.natAbs)) (by omega) (by omega)
 have:=sz_mono (Int.natAbs_add_le a b)
 unfold zs;omega
theorem zs_neg (a:Int):zs (-a)=zs a:=by unfold zs;rw[Int.natAbs_neg]
theorem zs_sub (a b:Int):zs (a - b)≤zs a+zs b:=by rw[Int.sub_eq_add_neg,←zs_neg b];exact zs_add _ _
theorem zs_mul (a b:Int):zs (a*b)≤zs a+zs b:=by
 have:=sz_mul a.natAbs b.natAbs
 unfold zs;rw[Int.natAbs_mul];omega
theorem zs_div (a b:Int):zs (a/b)≤zs a:=by
 have:=sz_mono (Int.natAbs_ediv_le_natAbs a b)
 unfold zs;omega
theorem zs_1:zs 1=2:=by decide+kernel
def mkz (r c:Nat) (f:Mz):List Int:=(List.range (r*c)).map fun p=>f (p/c) (p % c)
abbrev elz (a:List Int) (c i k:Nat):Int:=a.getD (i*c+k) 0
theorem mkz_len (r c:Nat) (f:Mz):(mkz r c f).length=r*c:=by simp[mkz]
theorem mkz_at {r c:Nat} {f:Mz} {p:Nat} (hp:p<r*c):(mkz r c f).getD p 0=f (p/c) (p % c):=by
 simp[mkz,List.getD_eq_getElem?_getD,hp]
theorem mkz_el {r c i k:Nat} {f:Mz} (hi:i<r) (hk:k<c):elz (mkz r c f) c i k=f i k:=by
 rw[elz,mkz_at (idx_lt hi hk),idx_div hk,idx_mod hk]
theorem zec_ext {a b:List Int} {n:Nat} (ha:a.length=n) (hb:b.length=n) (h:∀p,p<n→a.getD p 0=b.getD p 0):a=b:=by
 refine List.ext_getElem (by omega) fun p h1 h2=> ?_
 have:=h p (by omega)
 rwa [List.getD_eq_getElem?_getD,List.getD_eq_getElem?_getD,List.getElem?_eq_getElem h1,List.getElem?_eq_getElem h2]at this
theorem maz_ext {a b:List Int} {r c:Nat} (ha:a.length=r*c) (hb:b.length=r*c) (h:∀i k,i<r→k<c→elz a c i k=elz b c i k):a=b:=by
 refine zec_ext ha hb fun p hp=> ?_
 obtain⟨h1,h2,h3⟩:=idx_split hp
 have:=h _ _ h1 h2
 rwa [elz,elz,h3]at this
theorem mkz_ext {a:List Int} {r c:Nat} {f:Mz} (ha:a.length=r*c) (h:∀i k,i<r→k<c→f i k=elz a c i k):mkz r c f=a:=
 maz_ext (mkz_len ..) ha fun i k hi hk=>by rw[mkz_el hi hk,h i k hi hk]
theorem mkz_congr {r c:Nat} {f g:Mz} (h:∀i k,i<r→k<c→f i k=g i k):mkz r c f=mkz r c g:=
 mkz_ext (mkz_len ..) fun i k hi hk=>by rw[mkz_el hi hk,h i k hi hk]
theorem mkz_self {a:List Int} {r c:Nat} (ha:a.length=r*c):mkz r c (elz a c)=a:=mkz_ext ha fun _ _ _ _=>rfl
def Zm (B:Nat) (l:List Int):Prop:=∀p,p<l.length→zs (l.getD p 0)≤B
theorem Zm_mk {r c B:Nat} {f:Mz} (h:∀i k,i<r→k<c→zs (f i k)≤B):Zm B (mkz r c f):=by
 intro p hp
 rw[mkz_len]at hp
 obtain⟨h1,h2,_⟩:=idx_split hp
 rw[mkz_at hp];exact h _ _ h1 h2
theorem elz_zm {a:List Int} {r c B i k:Nat} (h:Zm B a) (ha:a.length=r*c) (hi:i<r) (hk:k<c):zs (elz a c i k)≤B:=h _ (by rw[ha];exact idx_lt hi hk)
theorem Zm.mono {B C:Nat} {a:List Int} (h:Zm B a) (hBC:B≤C):Zm C a:=fun p hp=>Nat.le_trans (h p hp) hBC
structure OKZ (R C:Nat) (a:List Int):Prop where
 r:R≤2048
 c:C≤2048
 n:a.length=R*C
end Go.Proofs.YtbopchpncgdaaaaGreatDoor
namespace Go.Proofs.YtbopchpncgdaaaaGreatDoor
open Go.Sx
set_option linter.unusedSimpArgs false
set_option linter.unusedVariables false
set_option maxRecDepth 100000
set_option maxHeartbeats 4000000
abbrev bW (r c K:Nat):Blk:=⟨101,true,.one [iv r,iv c,.slc K 3 0 (r*c)]⟩
end Go.Proofs.YtbopchpncgdaaaaGreatDoor
namespace Go.Proofs.YtbopchpncgdaaaaGreatDoor
open Go.Sx
set_option linter.unusedSimpArgs false
set_option linter.unusedVariables false
set_option maxRecDepth 100000
set_option maxHeartbeats 4000000
def upN (n:Nat):List Int:=(List.range n).map fun i:Nat=>(i:Int)
theorem upN_succ (i:Nat):upN (i+1)=upN i++[(i:Int)]:=by simp[upN,List.range_succ]
theorem upN_len (i:Nat):(upN i).length=i:=by simp[upN]
end Go.Proofs.YtbopchpncgdaaaaGreatDoor
namespace Go.Sx
set_option linter.unusedSimpArgs false
set_option linter.unusedVariables false
theorem SWx_freezeP {E:Env} (t k:Nat) {c:Code} {K:Post'} {fr:List (Nat×SV)} {hp:List (Nat×Blk)} {ty:TypeId} {cs:List SV} (hW:∀b,¬E.W0 b) (ht:lk fr t=some (.ptr k 0 0 0)) (hk:find hp k=some ⟨ty,true,.one cs⟩)
  (hkl:keylessL cs=true) (hs:SWx E c K ((t,ptrA cs)::fr) (setB hp k ⟨ty,true,.dead⟩)):SWx E c K fr hp:=by
 refine⟨fun a W hR=>hs.run a W ?_⟩
 have hl:(Data.one cs).live=true:=rfl
 obtain⟨ρ,hext,hfx,hR⟩:=hR
 have hkb:(fn fr hp (.k k)).blk=some ⟨ty,true,.one cs⟩:=by simp only[fn,LV.blk];exact hk
 have hv:=hR.fr t _ (by simp only[fn,LV.sv];exact ht)
 obtain⟨x,hx,hxv⟩:=(Has_iff (c:=.ptr k 0 0 0) rfl).1 hv
 have hlayk:∀j b,(fn ((t,ptrA cs)::fr) (setB hp k ⟨ty,true,.dead⟩) (.k j)).blk=some b→(j=k∧b=⟨ty,true,.dead⟩)∨(j≠k∧(fn fr hp (.k j)).blk=some b):=by
  intro j b hb
  simp only[fn,LV.blk,find_setB]at hb ⊢
  by_cases hj:j=k
  ·rw[if_pos hj]at hb;exact .inl ⟨hj,(Option.some.inj hb).symm⟩
  ·rw[if_neg hj]at hb;exact .inr ⟨hj,hb⟩
 have fin:∀ρ':Rho,ρ'.key=ρ.key→(∀b o,ρ.imm b=some o→ρ'.imm b=some o)→(∀b o,ρ'.imm b=some o→ρ.imm b=some o∨E.w0.heap.size≤b)→(∀b o,ρ'.imm b=some o→W.heap[b]? =some o)→
   (∀j b x,j≠k→(fn fr hp (.k j)).blk=some b→b.wr=true→b.data.live=true→ρ.key j=some x→ρ'.imm x.1=none)→(∀D,W.heap[D]? =some (.deferred (some []))→ρ.imm D=none→ρ'.imm D=none)→Has ρ' (ptrA cs) (a.tmps.getD t undef)→
   RR E (fn ((t,ptrA cs)::fr) (setB hp k ⟨ty,true,.dead⟩)) a W:=by
  intro ρ' hkey himm hnew hheap hnone hmark hhas
  have hle:ρ.Le ρ':=⟨fun j y hy=>by rw[hkey];exact hy,himm⟩
  refine⟨ρ',⟨hext.le.trans hle,fun b o hb=>(hnew b o hb).elim (fun h=>hext.imm b o h) .inr,fun j hj=>by rw[hkey];exact hext.fix j hj⟩,fun j hj=> ?_,{defers:= ?_,size:=hR.size,fr:= ?_,pres:=hR.pres,hp:= ?_}⟩
  ·have:=hfx j hj
   simp only[fn,LV.blk,find_setB]at this ⊢
   split
   ·simp
   ·exact this
  ·obtain⟨Ds,d1,d2,d3⟩:=hR.defers
   refine⟨Ds,d1,d2,fun D hD=> ?_⟩
   obtain⟨e1,e2,e3⟩:=d3 D hD
   refine⟨e1,e2, ?_⟩
   exact hmark D e2 e3
  ·intro u sv hu
   simp only[fn,LV.sv,lk]at hu
   cases hb:Nat.beq t u with
   |true=>
    rw[hb]at hu
    simp only[Option.some.injEq]at hu
    subst hu
    rw[←Nat.eq_of_beq_eq_true hb]
    exact hhas
   |false=>rw[hb]at hu;exact Has.mono hle _ _ (hR.fr u sv (by simp only[fn,LV.sv];exact hu))
  ·constructor
   ·intro j b hb
    rcases hlayk j b hb with⟨rfl,rfl⟩|⟨hj,hb⟩
    ·exact .inl rfl
    ·rcases hR.hp.blk j b hb with g0|⟨b',t',vs,ex,g1,g2,g3,g4⟩|⟨g1,g2⟩
     ·exact .inl g0
     ·exact .inr (.inl ⟨b',t',vs,ex,by rw[hkey];exact g1,g2,g3.mono hle,g4⟩)
     ·exact .inr (.inr ⟨by rw[hkey];exact g1,g2⟩)
   ·intro j j' y y' b b' hy hy' hne hyy hb hb' hl1 hl2
    rw[hkey]at hy hy'
    rcases hlayk j b hb with⟨_,rfl⟩|⟨_,hb⟩
    ·cases hl1
    rcases hlayk j' b' hb' with⟨_,rfl⟩|⟨_,hb'⟩
    ·cases hl2
    exact hR.hp.sep j j' y y' b b' hy hy' hne hyy hb hb' hl1 hl2
   ·intro j b y hb hwr hl1 hy
    rw[hkey]at hy
    rcases hlayk j b hb with⟨_,rfl⟩|⟨_,hb⟩
    ·cases hl1
    exact hR.hp.own j b y hb hwr hl1 hy
   ·intro j y hy
    rw[hkey]at hy
    obtain⟨b,hb⟩:=hR.hp.dom j y hy
    simp only[fn,LV.blk,find_setB]at hb ⊢
    split
    ·exact⟨_,rfl⟩
    ·exact⟨b,hb⟩
   ·exact hheap
   ·intro j b y hb hwr hl1 hy
    rw[hkey]at hy
    rcases hlayk j b hb with⟨_,rfl⟩|⟨hj,hb⟩
    ·cases hl1
    exact hnone j b y hj hb hwr hl1 hy
 simp only[HasC]at hx
 obtain⟨b,t',h1,rfl⟩:=hx
 rcases hR.hp.blk k _ hkb with g0|⟨b',t'',vs,ex,g1,g2,g3,g4,g5⟩|⟨g1,_⟩
 ·cases g0
 ·rw[h1]at g1
  cases g1
  rw[Data.obj_cells rfl]at g2
  have h2:W.heap[b]? =some (.cells (vs++ex).toArray ty (0,0)):=g2
  simp only[DataC]at g3
  obtain⟨z,z1,rfl⟩:=g3
  have hB:E.w0.heap.size≤b:=(hR.hp.own k _ _ hkb rfl hl h1).resolve_right (hW _)
  obtain⟨u,hup⟩:=(Up.refl ρ W E.w0.heap.size).add hR.hp.imm hB h2
  refine fin ⟨ρ.key,_,u.glob⟩ rfl u.le (fun b o hb=>(u.new b o hb).imp id (fun h=>h.1)) (fun c p hc=> ?_) (fun j blk y hj hb hwr hl1 hy=> ?_) (fun D hD1 hD2=> ?_) ?_
  ·rcases u.new c p hc with h|h
   ·exact hR.hp.imm c p h
   ·exact h.2
  ·show(if y.1=b then some _ else ρ.imm y.1)=none
   rw[if_neg]
   ·exact hR.hp.immw j blk y hb hwr hl1 hy
   ·intro he2
    have:=hR.hp.sep k j (b,t') y _ _ h1 hy (fun h=>hj h.symm) he2.symm hkb hb hl hl1
    cases this
  ·show(if D=b then some _ else ρ.imm D)=none
   rw[if_neg,hD2]
   rintro rfl
   rw[hD1]at h2;cases h2
  ·rw[hxv]
   have hz:HasZ (bareR (fun x=>if x=b then some (.cells (z.flatten++ex).toArray ty (0,0))else ρ.imm x) u.glob) cs z:=keylessL_has (ρ:=ρ) u.le cs z hkl z1
   refine ptrA_has ⟨b,z,[],ex,ty,(0,0),if_pos rfl,hz, ?_⟩
   simp[mkV,SV.isOne]
 ·rw[h1]at g1;cases g1
end Go.Sx
namespace Go.Proofs.YtbopchpncgdaaaaGreatDoor
open Go.Sx
set_option linter.unusedSimpArgs false
set_option linter.unusedVariables false
set_option maxRecDepth 100000
set_option maxHeartbeats 4000000
def crZ (a:List Int) (c i k:Nat):Int:=elz a c 0 0*elz a c (i+1) (k+1) - elz a c (i+1) 0*elz a c 0 (k+1)
theorem crZ_zs {a:List Int} {r c i k B:Nat} (h:Zm B a) (ha:a.length=(r+1)*(c+1)) (hi:i<r) (hk:k<c):zs (crZ a (c+1) i k)≤4*B:=by
 have h1:=elz_zm h ha (i:=0) (k:=0) (by omega) (by omega)
 have h2:=elz_zm h ha (i:=i+1) (k:=k+1) (by omega) (by omega)
 have h3:=elz_zm h ha (i:=i+1) (k:=0) (by omega) (by omega)
 have h4:=elz_zm h ha (i:=0) (k:=k+1) (by omega) (by omega)
 have:=zs_sub (elz a (c+1) 0 0*elz a (c+1) (i+1) (k+1)) (elz a (c+1) (i+1) 0*elz a (c+1) 0 (k+1))
 have:=zs_mul (elz a (c+1) 0 0) (elz a (c+1) (i+1) (k+1))
 have:=zs_mul (elz a (c+1) (i+1) 0) (elz a (c+1) 0 (k+1))
 unfold crZ;omega
abbrev nxt (r c:Nat) (a:List Int) (b:Int):List Int:=mkz r c fun i k=>crZ a (c+1) i k/b
end Go.Proofs.YtbopchpncgdaaaaGreatDoor
namespace Go.Proofs.YtbopchpncgdaaaaGreatDoor
open Go.Sx
set_option linter.unusedSimpArgs false
set_option linter.unusedVariables false
set_option maxRecDepth 100000
set_option maxHeartbeats 4000000
structure StOK (n s B:Nat) (A0:Mz) (a:List Int) (b:Int) (w:Nat):Prop where
 le:s≤n
 ex:∃A:Mz,a=mkz (n - s) (n - s) (bmZ s A)∧b=detZ s A∧b≠0∧detZ n A0=sgZ w*detZ n A
 z:Zm (B*4^s) a
 zb:zs b≤B*4^s
 w:w≤s
theorem StOK.start {n B:Nat} {a:List Int} (ha:a.length=n*n) (hB:2≤B) (h:Zm B a):StOK n 0 B (elz a n) a 1 0 where
 le:=Nat.zero_le _
 ex:=⟨elz a n,by rw[←mkz_self ha,Nat.sub_zero];exact mkz_congr fun i k hi hk=>by rw[bmZ_zero,mkz_el hi hk],rfl,by decide,by rw[sgZ,Int.one_mul]⟩
 z:=by rw[Nat.pow_zero,Nat.mul_one];exact h
 zb:=by rw[zs_1];omega
 w:=Nat.le_refl _
theorem StOK.fin {n B:Nat} {A0:Mz} {a:List Int} {b:Int} {w:Nat} (h:StOK n n B A0 a b w):detZ n A0=if w % 2=1 then -b else b:=by
 obtain⟨A,_,rfl,_,e⟩:=h.ex
 rw[e,sgZ_mod]
 split<;>omega
theorem StOK.none {n s B:Nat} {A0:Mz} {a:List Int} {b:Int} {w:Nat} (h:StOK n s B A0 a b w) (hs:s<n) (h0:∀i,i<n - s→elz a (n - s) i 0=0):detZ n A0=0:=by
 obtain⟨A,rfl,rfl,hb,e⟩:=h.ex
 rw[e,bmZ_sing hb hs fun i hi=>by have:=h0 i (by omega);rwa [mkz_el (by omega) (by omega)]at this,Int.mul_zero]
theorem StOK.next {n s B:Nat} {A0:Mz} {a:List Int} {b:Int} {w:Nat} (hs:s<n) (hw:w≤s+1) (hz:Zm (B*4^s) a) (hx:∃A:Mz,a=mkz (n - s) (n - s) (bmZ s A)∧b=detZ s A∧b≠0∧detZ n A0=sgZ w*detZ n A) (h0:elz a (n - s) 0 0≠0):
  StOK n (s+1) B A0 (nxt (n - (s+1)) (n - (s+1)) a b) (elz a (n - s) 0 0) w:=by
 obtain⟨A,ha,hb,hb0,e⟩:=hx
 have hl:a.length=(n - s)*(n - s):=by rw[ha,mkz_len]
 have hn:n - s=n - (s+1)+1:=by omega
 have e2:∀p q,p<n - s→q<n - s→elz a (n - s) p q=bmZ s A p q:=fun p q hp hq=>by rw[ha,mkz_el hp hq]
 have hpow:B*4^(s+1)=4*(B*4^s):=by rw[Nat.pow_succ];rw[←Nat.mul_assoc,Nat.mul_comm]
 refine⟨hs,⟨A, ?_, ?_,h0,e⟩, ?_, ?_,hw⟩
 ·refine mkz_congr fun i k hi hk=> ?_
  rw[crZ,←hn,e2 0 0 (by omega) (by omega),e2 (i+1) (k+1) (by omega) (by omega),e2 (i+1) 0 (by omega) (by omega),e2 0 (k+1) (by omega) (by omega),hb]
  exact bmZ_div (by rwa [hb]at hb0) i k
 ·rw[e2 0 0 (by omega) (by omega),bmZ_first]
 ·rw[hpow]
  refine Zm_mk fun i k hi hk=>Nat.le_trans (zs_div _ _) ?_
  exact crZ_zs hz (by rw[hl,hn]) hi hk
 ·rw[hpow]
  have:=elz_zm hz hl (i:=0) (k:=0) (by omega) (by omega);omega
end Go.Proofs.YtbopchpncgdaaaaGreatDoor
namespace Go.Sx
set_option linter.unusedSimpArgs false
set_option linter.unusedVariables false
section
variable {P:Program} {o:Oper} {ft:List (Nat×SV)} {fk:List (Nat×Blk)}
end
end Go.Sx
namespace Go.Proofs.YtbopchpncgdaaaaGreatDoor
open Go.Sx
set_option linter.unusedSimpArgs false
set_option linter.unusedVariables false
set_option maxRecDepth 100000
set_option maxHeartbeats 40000000
theorem upN_at {n i:Nat} (hi:i<n):(upN n).getD i 0=i:=by simp[upN,List.getD_eq_getElem?_getD,hi]
end Go.Proofs.YtbopchpncgdaaaaGreatDoor
namespace Go.Sx
set_option linter.unusedSimpArgs false
set_option linter.unusedVariables false
theorem SWx_then {E:Env} {c:Code} {K:Post'} {fr fr1:List (Nat×SV)} {hp hp1:List (Nat×Blk)} (h:∀K':Post',K' .normal fr1 hp1→SWx E c K' fr hp) (hk:K .normal fr1 hp1):SWx E c K fr hp:=h K hk
end Go.Sx
namespace Go.Proofs.YtbopchpncgdaaaaGreatDoor
open Go.Sx
set_option linter.unusedSimpArgs false
set_option linter.unusedVariables false
set_option maxRecDepth 100000
set_option maxHeartbeats 40000000
end Go.Proofs.YtbopchpncgdaaaaGreatDoor
namespace Go.Proofs.YtbopchpncgdaaaaGreatDoor
open Go.Sx
set_option linter.unusedSimpArgs false
set_option linter.unusedVariables false
set_option maxRecDepth 100000
set_option maxHeartbeats 40000000
theorem freezeZ {E:Env} (t:Nat) (ts ks:List Nat) {fr:List (Nat×SV)} {hp:List (Nat×Blk)} {m:Nat} (hW:∀b,¬E.W0 b) (ht:lk fr t=some (.ptr 1001 0 0 0)) (h1:find hp 1001=some (wzB m))
  (hn1:normOKf ks fr ts=true) (hn2:normOKh ks hp ks=true) (hn3:(injOK (fun k=>k) ks&&fixOK (fun k=>k) ks E.fx)=true) (hb:bigN ks=true) (hE:E.OK):
  ∀a w,RR E (fn fr hp) a w→RR E (fn ((t,wkA 0 m 0 (fun _=>[]) [] 1)::normF (fun k=>k) ((t,wkA 0 m 0 (fun _=>[]) [] 1)::fr) ts) (pickH hp ks)) a w:=by
 intro a w hR
 have hbig:∀k∈ks,k<1000:=fun k hk=>by simpa [Nat.blt_eq]using List.all_eq_true.1 hb k hk
 have r4:=freezeP_RR t 1001 hW ht rfl rfl (retell_RR h1 (fun _ z hz=>has_wz z hz) hR)
 generalize hq:setB _ 1001 _=HH at r4
 have hfind:∀k∈ks,find HH k=find hp k:=fun k hk=>by
  have:=hbig k hk
  rw[←hq,find_setB,if_neg (by omega),find_ne (by omega)]
 have hno:normOK E.fx (fun k=>k) (t::ts) ks ((t,wkA 0 m 0 (fun _=>[]) [] 1)::fr) HH=true:=by
  refine normOK_of ?_ (by rw[normOKh_find hfind];exact hn2) hn3
  rw[normOKf]
  simp only[lk,Nat.beq_refl]
  rw[normOKf_put hn1];rfl
 have r5:=norm_RR hE hno r4
 rw[normH_id,pickH_find hfind]at r5
 rw[normF]at r5
 simp only[lk,Nat.beq_refl]at r5
 exact r5
theorem red0 (W:Mx):∀c,redF 0 c ⟨W,[],1⟩=⟨W,[],1⟩
 |0=>rfl
 |c+1=>by rw[redF_succ,red0 W c];rfl
abbrev redS (r c:Nat) (W:Mx):St:=red2F r c ⟨W,[],1⟩
abbrev aug0 (c:Nat) (a:List Rat):Mx:=augW a c fun _ _=>0
theorem redS_zero {c:Nat} {W:Mx} {s:St} (hs:redS 0 c W=s):s.piv=[]∧s.d=1:=by
 have h:=red_agree 0 W c
 rw[show red2F 0 c ⟨W,[],1⟩=s from hs,red0]at h
 exact⟨h.piv,h.d⟩
theorem part_mk {r n c:Nat} {w:Mx} (f:Nat) (h:f+n≤c):mk r n (fun i k=>(rowsM c w i).getD (f+k) 0)=mk r n fun i k=>w i (f+k):=mk_congr fun i k _ hk=>rwL_get (by omega)
theorem aug0_bd {r c A:Nat} {a:List Rat} (ha:OKM r c a) (sa:Sm A a):∀i q,i<r→q<c+0→fs (aug0 c a i q)≤A:=aug_bd ha sa fun i k _ hk=>absurd hk (Nat.not_lt_zero _)
end Go.Proofs.YtbopchpncgdaaaaGreatDoor
