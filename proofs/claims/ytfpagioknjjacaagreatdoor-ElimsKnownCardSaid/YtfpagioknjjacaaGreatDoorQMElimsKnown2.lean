/- The texts SxH, SxI, SxN, SxO, SxP, SxR, SxS, SxW, SxX, SxT, SxU, SxV, SxY, Tab. -/
import Derived.Tactics
import Derived.Scope
import Derived.KernelRfl
import Derived.Carry
import Derived.OpenShut
import Derived.Deep.Slices
import Derived.Lib.LaidTab
import Derived.Laws.CopyRow
import Derived.Test.YtfpagioknjjacaaGreatDoorRows
import Derived.Test.YtfpagioknjjacaaGreatDoorQMElimsKnown1
namespace Go.Sx
structure fW where
 rt:List Nat
 rk:List Nat
 wt:Option Nat
 wk:List Nat
def az:List (Nat×aF)→List Nat
 |[]=>[]
 |(k,_)::r=>k::az r
theorem aV {l:List (Nat×aF)} {k:Nat}:k∈az l↔∃b,(k,b)∈l:=by
 induction l with
 |nil=>simp[az]
 |cons x l ih=>
  obtain⟨j,b⟩:=x
  simp only[az,List.mem_cons,ih,Prod.mk.injEq]
  constructor
  ·rintro(rfl|⟨b',h⟩)
   ·exact⟨b,.inl ⟨rfl,rfl⟩⟩
   ·exact⟨b',.inr h⟩
  ·rintro⟨b',⟨rfl,rfl⟩|h⟩
   ·exact .inl rfl
   ·exact .inr ⟨b',h⟩
def CG (dst:Option Nat) (c:SV) (fr:List (Nat×SV)):List (Nat×SV):=
 match dst with
 |some d=>(d,c)::fr
 |none=>fr
def ff (hp:List (Nat×aF)) (k:Nat) (b:aF):List (Nat×aF):=
 match hp with
 |[]=>[(k,b)]
 |(j,c)::r=>match Nat.beq j k with
  |true=>(k,b)::r
  |false=>(j,c)::ff r k b
def wR (ks:List (Nat×aF)) (hp:List (Nat×aF)):List (Nat×aF):=
 match ks with
 |[]=>hp
 |(k,b)::r=>ff (wR r hp) k b
theorem cq {k:Nat} {b:aF}:∀(hp:List (Nat×aF)) (j:Nat),find (ff hp k b) j=if j=k then some b else find hp j
 |[],j=>by
  simp only[ff,find]
  cases h:Nat.beq k j with
  |true=>rw[if_pos (Nat.eq_of_beq_eq_true h).symm]
  |false=>rw[if_neg];rintro rfl;simp[Nat.beq_refl]at h
 |(i,c)::r,j=>by
  have ih:=cq (k:=k) (b:=b) r j
  simp only[ff]
  cases h:Nat.beq i k with
  |true=>
   have RM:=Nat.eq_of_beq_eq_true h
   subst RM
   simp only[find]
   cases h2:Nat.beq i j with
   |true=>rw[if_pos (Nat.eq_of_beq_eq_true h2).symm]
   |false=>rw[if_neg];rintro rfl;simp[Nat.beq_refl]at h2
  |false=>
   simp only[find]
   cases h2:Nat.beq i j with
   |true=>
    have ID:=Nat.eq_of_beq_eq_true h2
    subst ID
    rw[if_neg]
    rintro rfl
    simp[Nat.beq_refl]at h
   |false=>exact ih
theorem zp:∀(ks hp:List (Nat×aF)) (j:Nat),find (wR ks hp) j=match find ks j with
  |some b=>some b
  |none=>find hp j
 |[],hp,j=>by simp[wR,find]
 |(k,b)::r,hp,j=>by
  have ih:=zp r hp j
  simp only[wR,cq,find]
  cases h:Nat.beq k j with
  |true=>rw[if_pos (Nat.eq_of_beq_eq_true h).symm]
  |false=>rw[if_neg (by rintro rfl;simp[Nat.beq_refl]at h),ih]
def fn (fr:List (Nat×SV)) (hp:List (Nat×aF)):Loc→LV
 |.t n=>.t (lk fr n)
 |.k n=>.k (find hp n)
theorem wS (dst:Option Nat) (c:SV) (ks:List (Nat×aF)) (fr:List (Nat×SV)) (hp:List (Nat×aF)):lay dst c ks (fn fr hp)=fn (CG dst c fr) (wR ks hp):=by
 funext l
 cases l with
 |t n=>
  simp only[lay,fn]
  cases dst with
  |none=>simp[CG]
  |some d=>
   simp only[Option.some.injEq,CG,lk]
   cases h:Nat.beq d n with
   |true=>rw[if_pos (Nat.eq_of_beq_eq_true h)]
   |false=>rw[if_neg (by rintro rfl;simp[Nat.beq_refl]at h)]
 |k n=>
  simp only[lay,fn,zp]
  cases find ks n<;>rfl
structure Env where
 P:Program
 T:List (TypeId×TI)
 W0:Nat→Prop
 w0:World
 n:Nat
 ρ0:bU
 fx:List Nat
 Z:List Nat
 ro:Option Nat
structure Ext (E:Env) (ρ:bU):Prop where
 le:E.ρ0.Le ρ
 bf:∀b o,ρ.bf b=some o→E.ρ0.bf b=some o∨E.w0.heap.size≤b
 fix:∀k,k∈E.fx→ρ.key k=E.ρ0.key k
def RR (E:Env) (s:Loc→LV) (a:Act) (w:World):Prop:=∃ρ,Ext E ρ∧(∀k,k∈E.fx→(s (.k k)).blk≠none)∧R E.W0 E.w0 E.n ρ s a w
def wT (E:Env) (ops:Array Oper) (o:Oper) (fr:List (Nat×SV)) (hp:List (Nat×aF)) (f:fW) (c:SV) (ks:List (Nat×aF)):Prop:=
 f.wt=o.dst∧(∀k,k∈f.wk↔∃b,(k,b)∈ks)∧
  ∀s,(∀t,t∈f.rt→s (.t t)=fn fr hp (.t t))→(∀k,k∈f.rk∨k∈f.wk→s (.k k)=fn fr hp (.k k))→∀a w,RR E s a w→
   (if Region.wanted o (yielded ops a.tmps)then goes E.P o a w (fun a' w'=>RR E (lay o.dst c ks s) a' w')else RR E (lay o.dst c ks s) (a.put o.dst undef) w)
def zq (n:Nat):Option Nat→Bool
 |none=>true
 |some d=>Nat.blt d n
def wU (F:SV→(SV→Prop)→Prop) (l:List SV):(List SV→Prop)→Prop:=
 List.rec (motive:=fun _=>(List SV→Prop)→Prop) (fun K=>K []) (fun c _ ih K=>F c fun c'=>ih fun l'=>K (c'::l')) l
def pt (F:SV→(SV→Prop)→Prop) (c:SV) (K:SV→Prop):Prop:=match c with
  |.agg cs=>wU F cs fun l=>K (.agg l)
  |.ck cs=>wU F cs fun l=>K (.ck l)
  |.any=>K .any
  |.val v=>K (.val v)
  |.ptr k s i r=>K (.ptr k s i r)
  |.aO k s i n=>K (.aO k s i n)
  |.nat n=>K (.nat n)
  |.int z=>K (.int z)
  |.frac q=>K (.frac q)
  |.atom p=>K (.atom p)
  |.clo f a b=>K (.clo f a b)
  |.yld l rc ts a=>K (.yld l rc ts a)
def Ep (c:SV) (K:SV→Prop):Prop:=pt (pt (pt (pt fun c K=>K c))) c K
def rA (b:aF) (K:aF→Prop):Prop:=match b with
 |⟨ty,wr,d⟩=>match d with
  |.one cs=>wU Ep cs fun l=>K ⟨ty,wr,.one l⟩
  |.ints kd xs=>K ⟨ty,wr,.ints kd xs⟩
  |.cb xs=>K ⟨ty,wr,.cb xs⟩
  |.seq w xs=>K ⟨ty,wr,.seq w xs⟩
  |.dead=>K ⟨ty,wr,.dead⟩
  |.loop rc=>K ⟨ty,wr,.loop rc⟩
def AX (l:List (Nat×aF)):(List (Nat×aF)→Prop)→Prop:=
 List.rec (motive:=fun _=>(List (Nat×aF)→Prop)→Prop) (fun K=>K []) (fun x _ ih K=>match x with
  |(k,b)=>rA b fun b'=>ih fun r'=>K ((k,b')::r')) l
def wV (l:List Nat):(List Nat→Prop)→Prop:=
 List.rec (motive:=fun _=>(List Nat→Prop)→Prop) (fun K=>K []) (fun x _ ih K=>ih fun r'=>K (x::r')) l
def AY (l:List (Nat×SV)):(List (Nat×SV)→Prop)→Prop:=
 List.rec (motive:=fun _=>(List (Nat×SV)→Prop)→Prop) (fun K=>K []) (fun x _ ih K=>match x with
  |(t,c)=>ih fun r'=>K ((t,c)::r')) l
def I7 (d:Option Nat) (K:Option Nat→Prop):Prop:=match d with
 |none=>K none
 |some t=>K (some t)
def PB (dst:Option Nat) (c:SV) (fr:List (Nat×SV)) (K:List (Nat×SV)→Prop):Prop:=match dst with
 |some d=>K ((d,c)::fr)
 |none=>K fr
def F0 (hp:List (Nat×aF)) (k:Nat) (b:aF):(List (Nat×aF)→Prop)→Prop:=
 List.rec (motive:=fun _=>(List (Nat×aF)→Prop)→Prop) (fun K=>K [(k,b)]) (fun x r ih K=>match x with
  |(j,c)=>match Nat.beq j k with
   |true=>K ((k,b)::r)
   |false=>ih fun r'=>K ((j,c)::r')) hp
def I8 (ks hp:List (Nat×aF)):(List (Nat×aF)→Prop)→Prop:=
 List.rec (motive:=fun _=>(List (Nat×aF)→Prop)→Prop) (fun K=>K hp) (fun x _ ih K=>match x with
  |(k,b)=>ih fun cc=>F0 cc k b K) ks
theorem uj {F:SV→(SV→Prop)→Prop} (hF:∀c K,F c K=K c):∀(l:List SV) (K:List SV→Prop),wU F l K=K l
 |[],K=>rfl
 |c::l,K=>by
  show F c (fun c'=>wU F l fun l'=>K (c'::l'))=_
  rw[hF,uj hF l]
theorem nx {F:SV→(SV→Prop)→Prop} (hF:∀c K,F c K=K c) (c:SV) (K:SV→Prop):pt F c K=K c:=by
 cases c<;>simp only[pt,uj hF]
theorem zr (c:SV) (K:SV→Prop):Ep c K=K c:=nx (nx (nx (nx fun _ _=>rfl))) c K
theorem CH (b:aF) (K:aF→Prop):rA b K=K b:=by
 obtain⟨ty,wr,d⟩:=b
 cases d<;>simp only[rA,uj zr]
theorem zt:∀(l:List (Nat×aF)) (K:List (Nat×aF)→Prop),AX l K=K l
 |[],K=>rfl
 |(k,b)::l,K=>by
  show rA b (fun b'=>AX l fun r'=>K ((k,b')::r'))=_
  rw[CH,zt l]
theorem zu:∀(l:List Nat) (K:List Nat→Prop),wV l K=K l
 |[],K=>rfl
 |x::l,K=>by
  show wV l (fun r'=>K (x::r'))=_
  rw[zu l]
theorem zx:∀(l:List (Nat×SV)) (K:List (Nat×SV)→Prop),AY l K=K l
 |[],K=>rfl
 |(t,c)::l,K=>by
  show AY l (fun r'=>K ((t,c)::r'))=_
  rw[zx l]
theorem Hp (d:Option Nat) (K:Option Nat→Prop):I7 d K=K d:=by cases d<;>rfl
theorem I9 (dst:Option Nat) (c:SV) (fr:List (Nat×SV)) (K:List (Nat×SV)→Prop):PB dst c fr K=K (CG dst c fr):=by cases dst<;>rfl
theorem CI:∀(hp:List (Nat×aF)) (k:Nat) (b:aF) (K:List (Nat×aF)→Prop),F0 hp k b K=K (ff hp k b)
 |[],k,b,K=>rfl
 |(j,c)::r,k,b,K=>by
  show(match Nat.beq j k with
   |true=>K ((k,b)::r)
   |false=>F0 r k b fun r'=>K ((j,c)::r'))=_
  simp only[ff,CI r]
  cases Nat.beq j k<;>rfl
theorem CJ:∀(ks hp:List (Nat×aF)) (K:List (Nat×aF)→Prop),I8 ks hp K=K (wR ks hp)
 |[],hp,K=>rfl
 |(k,b)::r,hp,K=>by
  show I8 r hp (fun cc=>F0 cc k b K)=_
  rw[CJ r,CI,wR]
def zy (dst:Option Nat) (rt:List Nat) (fr:List (Nat×SV)) (hp:List (Nat×aF)) (fs:List fW) (c:SV) (fk new upd:List (Nat×aF)) (K:List (Nat×SV)→List (Nat×aF)→List fW→Prop):Prop:=
 I7 dst fun dst=>Ep c fun c=>AX new fun new=>AX upd fun upd=>PB dst c fr fun fr'=>I8 (upd++new) hp fun cc=>
  wV rt fun rt=>wV (az fk) fun rk=>wV (az (upd++new)) fun wk=>K fr' cc (⟨rt,rk,dst,wk⟩::fs)
theorem Ja (dst:Option Nat) (rt:List Nat) (fr:List (Nat×SV)) (hp:List (Nat×aF)) (fs:List fW) (c:SV) (fk new upd:List (Nat×aF)) (K:List (Nat×SV)→List (Nat×aF)→List fW→Prop):
  zy dst rt fr hp fs c fk new upd K=K (CG dst c fr) (wR (upd++new) hp) (⟨rt,az fk,dst,az (upd++new)⟩::fs):=by
 simp only[zy,Hp,zr,zt,I9,CJ,zu]
def AZ (E:Env) (ops:List Oper) (o:Oper) (_:List Oper) (ih:List (Nat×SV)→List (Nat×aF)→List fW→(List (Nat×SV)→List (Nat×aF)→List fW→Prop)→Prop)
  (fr:List (Nat×SV)) (hp:List (Nat×aF)) (fs:List fW) (K:List (Nat×SV)→List (Nat×aF)→List fW→Prop):Prop:=
  match zq E.n o.dst with
  |false=>False
  |true=>
   match o.guard with
   |none=>AY (pick fr (looks o)) fun p=>exec E.P E.T E.Z p hp o fun c fk new upd=>zy o.dst (looks o) fr hp fs c fk new upd fun fr' cc fs'=>ih fr' cc fs' K
   |some (j,want)=>
    match (ops[j]?).bind (·.dst)with
    |none=>False
    |some d=>match lk fr d with
     |some (.val (.bool b))=>
      (b=want→AY (pick fr (looks o)) fun p=>exec E.P E.T E.Z p hp o fun c fk new upd=>zy o.dst (d::looks o) fr hp fs c fk new upd fun fr' cc fs'=>ih fr' cc fs' K)∧
      (b= !want→zy o.dst [d] fr hp fs (.ck []) [] [] [] fun fr' cc fs'=>ih fr' cc fs' K)
     |some (.ck [])=>zy o.dst [d] fr hp fs (.ck []) [] [] [] fun fr' cc fs'=>ih fr' cc fs' K
     |_=>False
def RN (fr:List (Nat×SV)) (hp:List (Nat×aF)) (fs:List fW) (K:List (Nat×SV)→List (Nat×aF)→List fW→Prop):Prop:=K fr hp fs
def lex (E:Env) (ops:List Oper) (l:List Oper):List (Nat×SV)→List (Nat×aF)→List fW→(List (Nat×SV)→List (Nat×aF)→List fW→Prop)→Prop:=
 List.rec (motive:=fun _=>List (Nat×SV)→List (Nat×aF)→List fW→(List (Nat×SV)→List (Nat×aF)→List fW→Prop)→Prop) RN (AZ E ops) l
theorem lex_nil (E:Env) (ops:List Oper) (fr:List (Nat×SV)) (hp:List (Nat×aF)) (fs:List fW) (K:List (Nat×SV)→List (Nat×aF)→List fW→Prop):lex E ops [] fr hp fs K=K fr hp fs:=rfl
theorem Jb (E:Env) (ops:List Oper) (o:Oper) (r:List Oper) (fr:List (Nat×SV)) (hp:List (Nat×aF)) (fs:List fW) (K:List (Nat×SV)→List (Nat×aF)→List fW→Prop):
  lex E ops (o::r) fr hp fs K=AZ E ops o r (lex E ops r) fr hp fs K:=rfl
theorem A1 {E:Env} {s:Loc→LV} {a:Act} {w:World} {dst:Option Nat} (h:RR E s a w) (hd:zq E.n dst=true):RR E (lay dst (.ck []) [] s) (a.put dst undef) w:=by
 obtain⟨ρ,hle,hfx,h⟩:=h
 have hk:∀k,lay dst (.ck []) [] s (.k k)=s (.k k):=fun k=>by simp[lay,find]
 refine⟨ρ,hle,fun k hf=>by rw[hk];exact hfx k hf, ?_⟩
 refine {defers:= ?_,size:= ?_,fr:= ?_,bK:=h.bK,hp:= ?_}
 ·have:(a.put dst undef).defers=a.defers:=by cases dst<;>simp[Act.put]
  rw[this];exact h.defers
 ·cases dst<;>simp[Act.put,h.size]
 ·intro t sv ht
  simp only[lay]at ht
  by_cases hdt:dst=some t
  ·rw[if_pos hdt]at ht
   cases ht
   have:(a.put dst undef).tmps.getD t undef=undef:=by
    subst hdt
    simp only[zq]at hd
    have aE:t<E.n:=by simpa [Nat.blt_eq]using hd
    simp[Act.put,h.size,aE]
   rw[this]
   simp only[Has]
   exact⟨[],by simp[aw],by simp[undef]⟩
  ·rw[if_neg hdt]at ht
   have:(a.put dst undef).tmps.getD t undef=a.tmps.getD t undef:=by
    cases IT:dst with
    |none=>rfl
    |some d=>
     have bW:d≠t:=fun he=>hdt (by rw[IT,he])
     simp[Act.put,Array.getElem?_setIfInBounds_ne bW]
   rw[this];exact h.fr t sv ht
 ·exact {
   blk:=fun k b hb=>h.hp.blk k b (by rwa [hk]at hb)
   sep:=fun k k' x x' b b' h1 h2 h3 h4 hb gu=>h.hp.sep k k' x x' b b' h1 h2 h3 h4 (by rwa [hk]at hb) (by rwa [hk]at gu)
   own:=fun k b x hb=>h.hp.own k b x (by rwa [hk]at hb)
   ug:=fun k x hx=>by rw[hk];exact h.hp.ug k x hx
   bf:=h.hp.bf
   eV:=fun k b x hb=>h.hp.eV k b x (by rwa [hk]at hb)}
theorem F1 {E:Env} {ops:Array Oper} {o:Oper} {fr:List (Nat×SV)} {hp:List (Nat×aF)} {c:SV} {fk new upd:List (Nat×aF)} {rt:List Nat}
  (hd:zq E.n o.dst=true) (hop:bS E.P o (pick fr (looks o)) fk c new upd) (n0:∀j b,(j,b)∈fk→find hp j=some b) (eX:∀j b,(j,b)∈new→find hp j=none)
  (hupd:∀j b,(j,b)∈upd→∃b0,(j,b0)∈fk∧b0.wr=true∧b0.data.live=true∧b.wr=true) (hrt:∀t,t∈looks o→t∈rt)
  (hw:∀s,(∀t,t∈rt→s (.t t)=fn fr hp (.t t))→∀a w,RR E s a w→Region.wanted o (yielded ops a.tmps)=true):
  wT E ops o fr hp ⟨rt,az fk,o.dst,az (upd++new)⟩ c (upd++new):=by
 refine⟨rfl,fun k=>aV,fun s ht hk a w hR=> ?_⟩
 rw[if_pos (hw s ht a w hR)]
 obtain⟨ρ,hle,hfx,hR⟩:=hR
 have nu:∀k,(∃b,(k,b)∈fk)∨(∃b,(k,b)∈upd++new)→(s (.k k)).blk=find hp k:=by
  intro k h
  rw[hk k (h.imp aV.2 aV.2)]
  rfl
 have aE:∀d,o.dst=some d→d<E.n:=fun d h=>by rw[h]at hd;simpa [zq,Nat.blt_eq]using hd
 refine pn ?_ (IU hop hR (fun t sv h=>by rw[ht t (hrt t (mI h).2)];exact(mI h).1) (fun k b h=>by rw[nu k (.inl ⟨b,h⟩)];exact n0 k b h)
  (fun k b h=>by rw[nu k (.inr ⟨b,List.mem_append.2 (.inr h)⟩)];exact eX k b h) hupd aE)
 rintro a' w' ⟨ρ',h1,h4,h3,h2⟩
 refine⟨ρ',⟨hle.le.trans h1,fun b o hb=>(h3 b o hb).elim (hle.bf b o) .inr,fun k hf=>by rw[h4 k (hfx k hf)];exact hle.fix k hf⟩,fun k hf=> ?_,h2⟩
 simp only[lay]
 cases find (upd++new) k with
 |some b=>simp[LV.blk]
 |none=>exact hfx k hf
theorem wW {E:Env} {ops:Array Oper} {o:Oper} {fr:List (Nat×SV)} {hp:List (Nat×aF)} {rt:List Nat} (hd:zq E.n o.dst=true)
  (hw:∀s,(∀t,t∈rt→s (.t t)=fn fr hp (.t t))→∀a w,RR E s a w→Region.wanted o (yielded ops a.tmps)=false):
  wT E ops o fr hp ⟨rt,[],o.dst,[]⟩ (.ck []) []:=by
 refine⟨rfl,fun k=>by simp,fun s ht _ a w hR=> ?_⟩
 rw[hw s ht a w hR]
 simp only[Bool.false_eq_true,if_false]
 exact A1 hR hd
structure Rec where
 f:fW
 o:Oper
 c:SV
 ks:List (Nat×aF)
 fr:List (Nat×SV)
 hp:List (Nat×aF)
def Er (E:Env) (ops:Array Oper):List Oper→List (Nat×SV)→List (Nat×aF)→List Rec→List (Nat×SV)→List (Nat×aF)→Prop
 |[],fr,hp,recs,fr',cc=>recs=[]∧fr'=fr∧cc=hp
 |o::l,fr,hp,recs,fr',cc=>∃rc rest,recs=rc::rest∧rc.o=o∧rc.fr=fr∧rc.hp=hp∧wT E ops o fr hp rc.f rc.c rc.ks∧Er E ops l (CG o.dst rc.c fr) (wR rc.ks hp) rest fr' cc
theorem wX {ops:Array Oper} {a:Act} {j d:Nat} (h:(ops[j]?).bind (·.dst)=some d) {b:Bool} (hv:a.tmps.getD d undef= .bool b):yielded ops a.tmps j=some b:=by
 unfold yielded
 rw[h]
 have:a.tmps[d]? =some (.bool b):=by
  rw[Array.getD_eq_getD_getElem?]at hv
  cases hx:a.tmps[d]? with
  |none=>rw[hx]at hv;simp[undef]at hv
  |some v=>rw[hx]at hv;simp at hv;rw[hv]
 simp[this]
theorem yY {ops:Array Oper} {a:Act} {j d:Nat} (h:(ops[j]?).bind (·.dst)=some d) (hv:a.tmps.getD d undef=undef):yielded ops a.tmps j=none:=by
 unfold yielded
 rw[h]
 rw[Array.getD_eq_getD_getElem?]at hv
 cases hx:a.tmps[d]? with
 |none=>simp[hx]
 |some v=>rw[hx]at hv;simp[undef]at hv;simp[hx,hv]
theorem rB {E:Env} (hT:ic E.P E.T) {ops:List Oper} {K:List (Nat×SV)→List (Nat×aF)→List fW→Prop}:∀(l:List Oper) (fr:List (Nat×SV)) (hp:List (Nat×aF)) (fs:List fW),lex E ops l fr hp fs K→
  ∃recs fr' cc,Er E ops.toArray l fr hp recs fr' cc∧K fr' cc ((recs.map (·.f)).reverse++fs)
 |[],fr,hp,fs,h=>⟨[],fr,hp,⟨rfl,rfl,rfl⟩,by simpa [lex_nil]using h⟩
 |o::l,fr,hp,fs,h=>by
  rw[Jb]at h
  unfold AZ at h
  simp only[Ja,zx]at h
  split at h
  ·exact h.elim
  ·rename_i hd
   have Nf:∀(f:fW) (c:SV) (ks:List (Nat×aF)),wT E ops.toArray o fr hp f c ks→lex E ops l (CG o.dst c fr) (wR ks hp) (f::fs) K→
     ∃recs fr' cc,Er E ops.toArray (o::l) fr hp recs fr' cc∧K fr' cc ((recs.map (·.f)).reverse++fs):=by
    intro f c ks hs hl
    obtain⟨recs,fr',cc,h1,h2⟩:=rB hT l _ _ _ hl
    exact⟨⟨f,o,c,ks,fr,hp⟩::recs,fr',cc,⟨_,_,rfl,rfl,rfl,rfl,hs,h1⟩,by simpa using h2⟩
   split at h
   ·rename_i hg
    obtain⟨c,fk,new,upd,h1,h2,h3,h4,h5⟩:=zo hT h
    exact Nf _ _ _ (F1 hd h1 h2 h3 h4 (fun t ht=>ht) (fun s _ a w _=>by simp[Region.wanted,hg])) h5
   ·rename_i j want hg
    split at h
    ·exact h.elim
    ·rename_i d hj
     have ou:((ops.toArray)[j]?).bind (·.dst)=some d:=by simpa using hj
     have bZ:∀(sv:SV) (rt:List Nat),lk fr d=some sv→d∈rt→∀s,(∀t,t∈rt→s (.t t)=fn fr hp (.t t))→∀a w,RR E s a w→∃ρ,Has ρ sv (a.tmps.getD d undef):=by
      intro sv rt hlk IT s hs a w hR
      obtain⟨ρ,_,_,hR⟩:=hR
      exact⟨ρ,hR.fr d sv (by rw[hs d IT];simp[fn,hlk,LV.sv])⟩
     split at h
     ·rename_i b hlk
      rcases(show b=want∨b= !want by cases b<;>cases want<;>simp)with hb|hb
      ·obtain⟨c,fk,new,upd,h1,h2,h3,h4,h5⟩:=zo hT (h.1 hb)
       refine Nf _ _ _ (F1 (rt:=d::looks o) hd h1 h2 h3 h4 (fun t ht=>List.mem_cons_of_mem _ ht) (fun s hs a w hR=> ?_)) h5
       obtain⟨ρ,hv⟩:=bZ _ _ hlk (List.mem_cons_self ..) s hs a w hR
       have:=wX ou (aK hv)
       simp[Region.wanted,hg,this,hb]
      ·refine Nf _ _ _ (wW (rt:=[d]) hd (fun s hs a w hR=> ?_)) (h.2 hb)
       obtain⟨ρ,hv⟩:=bZ _ _ hlk (List.mem_cons_self ..) s hs a w hR
       have:=wX ou (aK hv)
       simp[Region.wanted,hg,this,hb]
     ·rename_i hlk
      refine Nf _ _ _ (wW (rt:=[d]) hd (fun s hs a w hR=> ?_)) h
      obtain⟨ρ,hv⟩:=bZ _ _ hlk (List.mem_cons_self ..) s hs a w hR
      simp only[Has,aw]at hv
      obtain⟨z,rfl,hv⟩:=hv
      have:=yY ou (by rw[hv];rfl)
      simp[Region.wanted,hg,this]
     ·exact h.elim
theorem uk {E:Env} {ops:Array Oper} {Q:Exit→Act→World→Prop}:∀(l:List Oper) (fr:List (Nat×SV)) (hp:List (Nat×aF)) (recs:List Rec) (fr':List (Nat×SV)) (cc:List (Nat×aF)),Er E ops l fr hp recs fr' cc→
  (∀a w,RR E (fn fr' cc) a w→Q .normal a w)→∀a w,RR E (fn fr hp) a w→wpListIn (FT E.ro) 0 E.P ops Q l a w
 |[],fr,hp,recs,fr',cc,h,hQ,a,w,hR=>by
  obtain⟨_,rfl,rfl⟩:=h
  exact hQ a w hR
 |o::l,fr,hp,recs,fr',cc,h,hQ,a,w,hR=>by
  obtain⟨rc,rest,rfl,_,_,_,⟨_,_,hs⟩,h2⟩:=h
  have ih:=uk l _ _ _ _ _ h2 hQ
  have:=hs (fn fr hp) (fun _ _=>rfl) (fun _ _=>rfl) a w hR
  unfold wpListIn
  split
  ·rename_i hw
   rw[if_pos hw]at this
   refine uh (pn ?_ this)
   intro a' w' jD
   rw[wS]at jD
   exact ih a' w' jD
  ·rename_i hw
   rw[if_neg hw,wS]at this
   exact⟨fun _ _=>trivial,ih _ _ this⟩
def qx (acc:List Nat):List Edge→Nat
 |[]=>0
 |e::r=>match Region.binds .any e with
  |true=>2^e.on|||(acc.getD e.on 0|||qx acc r)
  |false=>qx acc r
def zz:List Oper→List Nat→List Nat
 |[],acc=>acc
 |o::r,acc=>zz r (acc++[qx acc o.after.toList])
def rD (i:Nat):List Edge→Bool
 |[]=>true
 |e::r=>match Region.binds .any e with
  |true=>Nat.blt e.on i&&rD i r
  |false=>rD i r
def rE:Nat→List Oper→Bool
 |_,[]=>true
 |i,o::r=>rD i o.after.toList&&rE (i+1) r
def vF (x:Nat):List Nat→Bool
 |[]=>false
 |y::r=>Nat.beq x y||vF x r
def meets:List Nat→List Nat→Bool
 |[],_=>false
 |x::r,l=>vF x l||meets r l
def PC:Option Nat→List Nat
 |none=>[]
 |some d=>[d]
def CK (f g:fW):Bool:=
 meets (PC f.wt) g.rt||(meets (PC f.wt) (PC g.wt)||(meets (PC g.wt) f.rt||(meets f.wk g.rk||(meets f.wk g.wk||meets g.wk f.rk))))
def CL (f:fW) (m:Nat):Nat→List fW→Bool
 |_,[]=>true
 |i,g::r=>(!CK g f||Nat.testBit m i)&&CL f m (i+1) r
def A2 (ms:List Nat) (done:List fW):Nat→List fW→Bool
 |_,[]=>true
 |j,f::r=>CL f (ms.getD j 0) 0 done&&A2 ms (done++[f]) (j+1) r
def indep (ops:List Oper) (fs:List fW):Bool:=rE 0 ops&&A2 (zz ops []) [] 0 fs
theorem jh {x:Nat}:∀{l:List Nat},vF x l=true↔x∈l
 |[]=>by simp[vF]
 |y::r=>by
  simp only[vF,Bool.or_eq_true,List.mem_cons,jh,Nat.beq_eq]
theorem zA:∀{l r:List Nat},meets l r=true↔∃x,x∈l∧x∈r
 |[],r=>by simp[meets]
 |y::l,r=>by
  simp only[meets,Bool.or_eq_true,jh,zA,List.mem_cons]
  constructor
  ·rintro(h|⟨x,h1,h2⟩)
   ·exact⟨y,.inl rfl,h⟩
   ·exact⟨x,.inr h1,h2⟩
  ·rintro⟨x,rfl|h1,h2⟩
   ·exact .inl h2
   ·exact .inr ⟨x,h1,h2⟩
theorem rF {ops:Array Oper} {o:Oper} {j:Nat} (ho:ops[j]? =some o) {acc:List Nat} (hacc:∀k m i,acc[k]? =some m→Nat.testBit m i=true→nZ ops k i):
  ∀(es:List Edge),(∀e∈es,e∈o.after)→∀i,Nat.testBit (qx acc es) i=true→nZ ops j i
 |[],_,i,h=>by simp[qx]at h
 |e::r,hes,i,h=>by
  have ih:=rF ho hacc r (fun x hx=>hes x (List.mem_cons_of_mem _ hx)) i
  unfold qx at h
  split at h
  ·rename_i hb
   rw[Nat.testBit_or,Nat.testBit_or,Nat.testBit_two_pow]at h
   have he:=hes e (List.mem_cons_self ..)
   simp only[Bool.or_eq_true,decide_eq_true_eq]at h
   rcases h with h|h|h
   ·rw[←h];exact .one ho he hb
   ·cases hg:acc[e.on]? with
    |none=>simp[hg]at h
    |some m=>
     have:acc.getD e.on 0=m:=by simp[hg]
     rw[this]at h
     exact .trans (.one ho he hb) (hacc _ _ _ hg h)
   ·exact ih h
  ·exact ih h
theorem u7 {ops:Array Oper}:∀(l:List Oper) (acc:List Nat),(∀j,l[j]? =ops[acc.length+j]?)→(∀k m i,acc[k]? =some m→Nat.testBit m i=true→nZ ops k i)→
  ∀k m i,(zz l acc)[k]? =some m→Nat.testBit m i=true→nZ ops k i
 |[],acc,_,h=>by simpa [zz]using h
 |o::r,acc,hl,h=>by
  have h0:ops[acc.length]? =some o:=by have:=hl 0;simpa using this.symm
  refine u7 r (acc++[qx acc o.after.toList]) (fun j=> ?_) (fun k m i hk hb=> ?_)
  ·have:=hl (j+1)
   simpa [Nat.add_assoc,Nat.add_comm 1 j]using this
  ·rcases Nat.lt_trichotomy k acc.length with aE|rfl|Px
   ·rw[List.getElem?_append_left aE]at hk
    exact h k m i hk hb
   ·simp at hk
    subst hk
    exact rF h0 h _ (fun e he=>by simpa using he) i hb
   ·rw[List.getElem?_eq_none (by simp;omega)]at hk
    cases hk
theorem ny {i:Nat}:∀{es:List Edge},rD i es=true→∀e∈es,Region.binds .any e=true→e.on<i
 |e::r,h,x,hx,hb=>by
  unfold rD at h
  rcases List.mem_cons.1 hx with rfl|hx
  ·rw[hb]at h
   simp only[Bool.and_eq_true,Nat.blt_eq]at h
   exact h.1
  ·split at h
   ·simp only[Bool.and_eq_true]at h
    exact ny h.2 x hx hb
   ·exact ny h x hx hb
theorem yZ (l:List Oper):∀i:Nat,rE i l=true→∀j o,l[j]? =some o→∀e∈o.after,Region.binds .any e=true→e.on<i+j:=by
 induction l with
 |nil=>intro i _ j o ho;simp at ho
 |cons o r ih=>
  intro i h j o' ho e he hb
  simp only[rE,Bool.and_eq_true]at h
  cases j with
  |zero=>
   simp only[List.getElem?_cons_zero,Option.some.injEq]at ho
   rw[←ho]at he
   exact ny h.1 e (by simpa using he) hb
  |succ j=>
   have:=ih (i+1) h.2 j o' (by simpa using ho) e he hb
   omega
theorem wY {f:fW} {m:Nat}:∀{l:List fW} {i:Nat},CL f m i l=true→∀j g,l[j]? =some g→CK g f=true→Nat.testBit m (i+j)=true
 |g::r,i,h,0,g',hg,hc=>by
  simp only[CL,Bool.and_eq_true]at h
  simp at hg
  subst hg
  simpa [hc]using h.1
 |g::r,i,h,j+1,g',hg,hc=>by
  simp only[CL,Bool.and_eq_true]at h
  have:=wY h.2 j g' (by simpa using hg) hc
  rw[show i+(j+1)=i+1+j from by omega]
  exact this
theorem u9 {ms:List Nat}:∀{l done:List fW} {j0:Nat},done.length=j0→A2 ms done j0 l=true→∀i j f g,i<j→j0≤j→(done++l)[i]? =some f→(done++l)[j]? =some g→CK f g=true→Nat.testBit (ms.getD j 0) i=true
 |[],done,j0,hd,_,i,j,f,g,_,hj,_,hg,_=>by
  rw[List.append_nil,List.getElem?_eq_none aa]at hg
  cases hg
 |x::l,done,j0,hd,h,i,j,f,g,ID,hj,hf,hg,hc=>by
  simp only[A2,Bool.and_eq_true]at h
  rcases Nat.eq_or_lt_of_le hj with rfl|aE
  ·rw[List.getElem?_append_right aa]at hg
   simp[hd]at hg
   subst hg
   rw[List.getElem?_append_left aa]at hf
   have:=wY h.1 i f hf hc
   simpa using this
  ·exact u9 (l:=l) (done:=done++[x]) (j0:=j0+1) (by simp[hd]) h.2 i j f g ID aa (by simpa using hf) (by simpa using hg) hc
def jM (rc:Rec):jb Loc LV where
 rd:=fun
  |.t t=>decide (t∈rc.f.rt)
  |.k k=>decide (k∈rc.f.rk)
 wr:=fun
  |.t t=>decide (rc.o.dst=some t)
  |.k k=>(find rc.ks k).isSome
 val:=fun
  |.t _=>.t (some rc.c)
  |.k k=>.k (find rc.ks k)
theorem wZ (rc:Rec) (s:Loc→LV):(jM rc).ap s=lay rc.o.dst rc.c rc.ks s:=by
 funext l
 cases l with
 |t n=>simp only[jb.ap,jM,lay];by_cases h:rc.o.dst=some n<;>simp[h]
 |k n=>
  have key:∀(x:Option aF) (y:LV),(if x.isSome=true then LV.k x else y)=match x with
    |some b=>LV.k (some b)
    |none=>y:=fun x y=>by cases x<;>rfl
  exact key (find rc.ks n) (s (.k n))
def ji (recs:List Rec) (j:Nat):jb Loc LV:=
 match recs[j]? with
 |some r=>jM r
 |none=>⟨fun _=>false,fun _=>false,fun _=>.t none⟩
theorem jN {recs:List Rec} {j:Nat} {r:Rec} (h:recs[j]? =some r):ji recs j=jM r:=by simp[ji,h]
theorem A3 {L V:Type} (steps:Nat→jb L V) (s0:L→V) (n:Nat):sx steps s0 (fun _=>true) (n+1)=(steps n).ap (sx steps s0 (fun _=>true) n):=by simp[sx]
theorem CM {E:Env} {ops:Array Oper}:∀{l:List Oper} {fr:List (Nat×SV)} {hp:List (Nat×aF)} {recs:List Rec} {fr':List (Nat×SV)} {cc:List (Nat×aF)},Er E ops l fr hp recs fr' cc→
  recs.length=l.length∧(∀i rc,recs[i]? =some rc→l[i]? =some rc.o∧wT E ops rc.o rc.fr rc.hp rc.f rc.c rc.ks∧fn rc.fr rc.hp=sx (ji recs) (fn fr hp) (fun _=>true) i)∧
  fn fr' cc=sx (ji recs) (fn fr hp) (fun _=>true) l.length
 |[],fr,hp,recs,fr',cc,h=>by
  obtain⟨rfl,rfl,rfl⟩:=h
  exact⟨rfl,fun i rc h=>by simp at h,rfl⟩
 |o::l,fr,hp,recs,fr',cc,h=>by
  obtain⟨rc,rest,rfl,rfl,rfl,rfl,hs,h2⟩:=h
  obtain⟨g1,g2,g3⟩:=CM h2
  have shift:∀n,sx (ji (rc::rest)) (fn rc.fr rc.hp) (fun _=>true) (n+1)=
    sx (ji rest) (fn (CG rc.o.dst rc.c rc.fr) (wR rc.ks rc.hp)) (fun _=>true) n:=by
   intro n
   induction n with
   |zero=>rw[A3,jN (r:=rc) (by simp),wZ];exact wS ..
   |succ n ih=>rw[A3,ih,A3];simp[ji]
  refine⟨by simp[g1],fun i rc' hi=> ?_, ?_⟩
  ·cases i with
   |zero=>simp at hi;subst hi;exact⟨by simp,hs,rfl⟩
   |succ i=>
    obtain⟨e1,e2,e3⟩:=g2 i rc' (by simpa using hi)
    exact⟨by simpa using e1,e2,by rw[shift];exact e3⟩
  ·rw[List.length_cons,shift];exact g3
theorem Jc {E:Env} (hm:E.P.follows .mixedOrders=true) {l:List Oper} {Q:Exit→Act→World→Prop} {fr:List (Nat×SV)} {hp:List (Nat×aF)} {recs:List Rec} {fr':List (Nat×SV)} {cc:List (Nat×aF)}
  (h:Er E l.toArray l fr hp recs fr' cc) (hi:indep l (recs.map (·.f))=true) (hQ:∀a w,RR E (fn fr' cc) a w→Q .normal a w) (id:Nat) (a:Act) (w:World) (hR:RR E (fn fr hp) a w):
  (Code.region id l.toArray true).wpIn (FT E.ro) 0 E.P Q a w:=by
 obtain⟨g1,g2,g3⟩:=CM h
 simp only[indep,Bool.and_eq_true]at hi
 have mJ:∀i,i<l.length→∃rc,recs[i]? =some rc:=fun i hi=>⟨recs[i],by simp[g1,hi]⟩
 refine He (Rel:=RR E) (steps:=ji recs) (s0:=fn fr hp) hm ?_ ?_ ?_ ?_ a w ?_
 ·intro i hi s' hs' a w hR
  obtain⟨rc,Jd⟩:=mJ i (by simpa using hi)
  obtain⟨e1,⟨e2,e3,e4⟩,e5⟩:=g2 i rc Jd
  rw[jN Jd]at hs' ⊢
  rw[←e5]at hs'
  have:=e4 s' (fun t ht=>hs' _ (.inl (by simpa [jM]using ht))) (fun k hk=>hs' _ (by
   rcases hk with hk|hk
   ·exact .inl (by simpa [jM]using hk)
   ·right
    obtain⟨b,hb⟩:=(e3 k).1 hk
    simp only[jM]
    cases hf:find rc.ks k with
    |some b'=>rfl
    |none=>exact absurd hb (po hf b))) a w hR
  unfold wpOpIn
  have ho:l.toArray[i]? =some rc.o:=by simpa using e1
  rw[ho]
  simp only[wZ]
  split
  ·rename_i hw
   rw[if_pos hw]at this
   exact uh this
  ·rename_i hw
   rw[if_neg hw]at this
   exact⟨fun _ _=>trivial,this⟩
 ·intro i j ID hj hc
  have ou:j<l.length:=by simpa using hj
  obtain⟨ri,hri⟩:=mJ i aa
  obtain⟨rj,hrj⟩:=mJ j ou
  obtain⟨_,⟨i2,i3,_⟩,_⟩:=g2 i ri hri
  obtain⟨_,⟨j2,j3,_⟩,_⟩:=g2 j rj hrj
  rw[jN hri,jN hrj]at hc
  have wki:∀k,(find ri.ks k).isSome=true→k∈ri.f.wk:=fun k hk=>by
   cases hf:find ri.ks k with
   |none=>rw[hf]at hk;cases hk
   |some b=>exact(i3 k).2 ⟨b,jc hf⟩
  have wkj:∀k,(find rj.ks k).isSome=true→k∈rj.f.wk:=fun k hk=>by
   cases hf:find rj.ks k with
   |none=>rw[hf]at hk;cases hk
   |some b=>exact(j3 k).2 ⟨b,jc hf⟩
  have zg:CK ri.f rj.f=true:=by
   obtain⟨loc,hc⟩:=hc
   simp only[CK,Bool.or_eq_true,zA]
   cases loc with
   |t n=>
    simp only[jM,decide_eq_true_eq]at hc
    rcases hc with⟨h1,h2|h2⟩|⟨h1,h2⟩
    ·exact .inl ⟨n,by rw[i2,h1];simp[PC],h2⟩
    ·exact .inr (.inl ⟨n,by rw[i2,h1];simp[PC],by rw[j2,h2];simp[PC]⟩)
    ·exact .inr (.inr (.inl ⟨n,by rw[j2,h2];simp[PC],h1⟩))
   |k n=>
    simp only[jM,decide_eq_true_eq]at hc
    rcases hc with⟨h1,h2|h2⟩|⟨h1,h2⟩
    ·exact .inr (.inr (.inr (.inl ⟨n,wki n h1,h2⟩)))
    ·exact .inr (.inr (.inr (.inr (.inl ⟨n,wki n h1,wkj n h2⟩))))
    ·exact .inr (.inr (.inr (.inr (.inr ⟨n,wkj n h2,h1⟩))))
  have RO:=u9 (l:=recs.map (·.f)) (done:=[]) (j0:=0) rfl hi.2 i j ri.f rj.f ID (Nat.zero_le _) (by simp[hri]) (by simp[hrj]) zg
  cases hmj:(zz l [])[j]? with
  |none=>simp[hmj]at RO
  |some m=>
   have:(zz l []).getD j 0=m:=by simp[hmj]
   rw[this]at RO
   exact u7 l [] (by simp) (by simp) j m i hmj RO
 ·intro i o ho e he hb
  have:=yZ l 0 hi.1 i o (by simpa using ho) e he hb
  omega
 ·intro a w hR
  rw[List.size_toArray,←g3]at hR
  exact hQ a w hR
 ·obtain⟨ρ,h1,h3,h2⟩:=hR
  exact⟨ρ,h1,h3,{h2 with bK:=⟨h2.bK.os,h2.bK.tape,h2.bK.output,h2.bK.size,h2.bK.block⟩,hp:=⟨h2.hp.blk,h2.hp.sep,h2.hp.own,h2.hp.ug,h2.hp.bf,h2.hp.eV⟩}⟩
end Go.Sx
namespace Go.Sx
abbrev bI:=Exit→List (Nat×SV)→List (Nat×aF)→Prop
def vc (E:Env) (K:bI):Exit→Act→World→Prop:=fun e a w=>∃fr hp,K e fr hp∧RR E (fn fr hp) a w
def SW (E:Env) (c:Code) (K:bI) (fr:List (Nat×SV)) (hp:List (Nat×aF)):Prop:=
 ∀a w,RR E (fn fr hp) a w→c.wpIn (FT E.ro) 0 E.P (vc E K) a w
theorem SW.mono {E:Env} {c:Code} {K K':bI} {fr:List (Nat×SV)} {hp:List (Nat×aF)} (h:SW E c K fr hp) (hk:∀e fr hp,K e fr hp→K' e fr hp):SW E c K' fr hp:=
 fun a w hR=>Code.wpIn_mono (fun _ _ _ ⟨fr,hp,h1,h2⟩=>⟨fr,hp,hk _ _ _ h1,h2⟩) (h a w hR)
structure ey (E:Env) (c:Code) (K:bI) (fr:List (Nat×SV)) (hp:List (Nat×aF)):Prop where
 run:SW E c K fr hp
def oe (E:Env):Code→bI→List (Nat×SV)→List (Nat×aF)→Prop
 |.skip,K,fr,hp=>K .normal fr hp
 |.region id ops draw,K,fr,hp=>match Zq (100000+id) E.Z with
  |true=>ey E (.region id ops draw) K fr hp
  |false=>lex E ops.toList ops.toList fr hp [] fun fr' cc fs=>match draw with
   |true=>indep ops.toList fs.reverse=true∧K .normal fr' cc
   |false=>K .normal fr' cc
 |.seq a b,K,fr,hp=>oe E a (fun e fr' cc=>match e with
  |.normal=>oe E b K fr' cc
  |e=>K e fr' cc) fr hp
 |.cond c a b,K,fr,hp=>match ev fr c with
  |some (.val (.bool t))=>(t=true→oe E a K fr hp)∧(t=false→oe E b K fr hp)
  |_=>False
 |.block id c,K,fr,hp=>oe E c (fun e fr' cc=>match e with
  |.exit i=>match Nat.beq i id with
   |true=>K .normal fr' cc
   |false=>K (.exit i) fr' cc
  |e=>K e fr' cc) fr hp
 |.exit id,K,fr,hp=>K (.exit id) fr hp
 |.ret,K,fr,hp=>K .ret fr hp
 |.scope c,K,fr,hp=>oe E c (fun e fr' cc=>match e with
  |.goto _=>False
  |e=>K e fr' cc) fr hp
 |.label _,K,fr,hp=>K .normal fr hp
 |c,K,fr,hp=>ey E c K fr hp
def RP (K:bI) (fr:List (Nat×SV)) (hp:List (Nat×aF)):Prop:=K .normal fr hp
def F2 (E:Env) (ops:Array Oper) (draw:Bool) (K:bI) (fr:List (Nat×SV)) (hp:List (Nat×aF)):Prop:=lex E ops.toList ops.toList fr hp [] fun fr' cc fs=>match draw with
  |true=>indep ops.toList fs.reverse=true∧K .normal fr' cc
  |false=>K .normal fr' cc
def Je (E:Env) (id:Nat) (ops:Array Oper) (draw:Bool) (K:bI) (fr:List (Nat×SV)) (hp:List (Nat×aF)):Prop:=match Zq (100000+id) E.Z with
 |true=>ey E (.region id ops draw) K fr hp
 |false=>F2 E ops draw K fr hp
def Jf (_ _:Code) (iha ihb:bI→List (Nat×SV)→List (Nat×aF)→Prop) (K:bI) (fr:List (Nat×SV)) (hp:List (Nat×aF)):Prop:=iha (fun e fr' cc=>match e with
  |.normal=>ihb K fr' cc
  |e=>K e fr' cc) fr hp
def Es (c:Operand) (_ _:Code) (iha ihb:bI→List (Nat×SV)→List (Nat×aF)→Prop) (K:bI) (fr:List (Nat×SV)) (hp:List (Nat×aF)):Prop:=match ev fr c with
  |some (.val (.bool t))=>(t=true→iha K fr hp)∧(t=false→ihb K fr hp)
  |_=>False
def A4 (id:Nat) (_:Code) (ih:bI→List (Nat×SV)→List (Nat×aF)→Prop) (K:bI) (fr:List (Nat×SV)) (hp:List (Nat×aF)):Prop:=ih (fun e fr' cc=>match e with
  |.exit i=>match Nat.beq i id with
   |true=>K .normal fr' cc
   |false=>K (.exit i) fr' cc
  |e=>K e fr' cc) fr hp
def RQ (E:Env) (c:Code) (_:bI→List (Nat×SV)→List (Nat×aF)→Prop) (K:bI) (fr:List (Nat×SV)) (hp:List (Nat×aF)):Prop:=ey E (.loop c) K fr hp
def Ng (E:Env) (f:Operand) (ps:Array Tmp) (a b:Code) (_ _:bI→List (Nat×SV)→List (Nat×aF)→Prop) (K:bI) (fr:List (Nat×SV)) (hp:List (Nat×aF)):Prop:=ey E (.rangeFunc f ps a b) K fr hp
def RS (id:Nat) (K:bI) (fr:List (Nat×SV)) (hp:List (Nat×aF)):Prop:=K (.exit id) fr hp
def A5 (_:Code) (ih:bI→List (Nat×SV)→List (Nat×aF)→Prop) (K:bI) (fr:List (Nat×SV)) (hp:List (Nat×aF)):Prop:=ih (fun e fr' cc=>match e with
  |.goto _=>False
  |e=>K e fr' cc) fr hp
def Nh (_:Nat) (K:bI) (fr:List (Nat×SV)) (hp:List (Nat×aF)):Prop:=K .normal fr hp
def RT (E:Env) (l:Nat) (K:bI) (fr:List (Nat×SV)) (hp:List (Nat×aF)):Prop:=ey E (.goto l) K fr hp
def ZU (K:bI) (fr:List (Nat×SV)) (hp:List (Nat×aF)):Prop:=K .ret fr hp
def Jg (E:Env) (l:String) (K:bI) (fr:List (Nat×SV)) (hp:List (Nat×aF)):Prop:=ey E (.refuse l) K fr hp
def A6 (E:Env) (c:Code):bI→List (Nat×SV)→List (Nat×aF)→Prop:=
 Code.rec (motive:=fun _=>bI→List (Nat×SV)→List (Nat×aF)→Prop) RP (Je E) Jf Es A4 (RQ E) (Ng E) RS A5 Nh (RT E) ZU (Jg E) c
theorem RU (E:Env) (c:Code):A6 E c=oe E c:=by
 induction c with
 |seq a b iha ihb=>
  funext K fr hp
  show Jf a b (A6 E a) (A6 E b) K fr hp=_
  rw[iha,ihb]
  simp only[oe,Jf]
 |cond c a b iha ihb=>
  funext K fr hp
  show Es c a b (A6 E a) (A6 E b) K fr hp=_
  rw[iha,ihb]
  simp only[oe,Es]
 |block id c ih=>
  funext K fr hp
  show A4 id c (A6 E c) K fr hp=_
  rw[ih]
  simp only[oe,A4]
 |scope c ih=>
  funext K fr hp
  show A5 c (A6 E c) K fr hp=_
  rw[ih]
  simp only[oe,A5]
 |_=>funext K fr hp;simp only[oe];rfl
structure Env.OK (E:Env):Prop where
 A7:ic E.P E.T
 mixed:E.P.follows .mixedOrders=true
 ug:∀k x,E.ρ0.key k=some x→k∈E.fx
theorem rG {E:Env} (hE:E.OK) {id:Nat} {ops:Array Oper} {draw:Bool} {K:bI} {fr:List (Nat×SV)} {hp:List (Nat×aF)} (h:F2 E ops draw K fr hp):SW E (.region id ops draw) K fr hp:=by
 intro a w hR
 simp only[F2]at h
 obtain⟨recs,fr',cc,h1,h2⟩:=rB hE.A7 _ _ _ _ h
 have ga:K .normal fr' cc→∀a w,RR E (fn fr' cc) a w→vc E K .normal a w:=fun h3 a w hR=>⟨fr',cc,h3,hR⟩
 cases draw with
 |false=>
  have ga:=ga h2
  have:=uk _ _ _ _ _ _ h1 ga a w hR
  exact wpIn_region_list (by simpa using this)
 |true=>
  have hi:=h2.1
  have ga:=ga h2.2
  simp only[List.append_nil,List.reverse_reverse]at hi
  have:=Jc hE.mixed h1 hi ga id a w hR
  simpa using this
theorem bA {E:Env} (hE:E.OK) {id:Nat} {ops:Array Oper} {draw:Bool} {K:bI} {fr:List (Nat×SV)} {hp:List (Nat×aF)} (h:F2 E ops draw K fr hp):ey E (.region id ops draw) K fr hp:=⟨rG hE h⟩
theorem gI {P:Program} {b:Frame} {a:Act} {k:List Item} {cs:List Frame} {w:World} {c:Code}:step P (lone (b.atR a (.code (.scope c)::k)) cs w)= .next (lone (b.atR a (.code c:: .inScope c::k)) cs w):=
 step_lone_go (by simp[stepG,stepG.exec,Frame.atR])
theorem y0 {P:Program} {b:Frame} {a:Act} {k:List Item} {cs:List Frame} {w:World} {c:Code}:step P (lone (b.atR a (.inScope c::k)) cs w)= .next (lone (b.atR a k) cs w):=
 step_lone_go (by simp[stepG,stepG.exec,Frame.atR])
theorem qc {F:Fence} {n:Nat} {P:Program} {Q:Exit→Act→World→Prop} {a:Act} {w:World} {c:Code} (h:c.wpIn F n P (Exit.noGoto Q) a w):(Code.scope c).wpIn F n P Q a w:=by
 intro b k cs hro hb hr
 obtain⟨e,a₁,w₁,hq,iM⟩:=h b (.inScope c::k) cs hro hb hr
 have h0:(lone (b.atR a (.code (.scope c)::k)) cs w).fenced P F:=fenced_calm hb hr rfl
 cases e with
 |normal=>exact⟨.normal,a₁,w₁,hq,.head h0 gI (StepsIn.trans iM (.one (fenced_calm hb hr rfl) y0))⟩
 |exit id=>
  have hx:exitTo id (.inScope c::k)=exitTo id k:=by simp[exitTo]
  exact⟨.exit id,a₁,w₁,hq,fun k' hk=>.head h0 gI (iM.1 k' (by rw[hx];exact hk)),fun hr' hk=>let ⟨k₁,h1,h2⟩:=iM.2 hr' (by rw[hx];exact hk);⟨k₁,h1,.head h0 gI h2⟩⟩
 |goto l=>exact hq.elim
 |ret=>exact⟨_,a₁,w₁,hq,.of_steps (.one h0 gI) iM⟩
 |panic ch=>exact⟨_,a₁,w₁,hq,.of_steps (.one h0 gI) iM⟩
 |outgrown=>exact⟨_,a₁,w₁,hq,.of_steps (.one h0 gI) iM⟩
theorem gC {E:Env} (hE:E.OK):∀(c:Code) (K:bI) (fr:List (Nat×SV)) (hp:List (Nat×aF)),oe E c K fr hp→SW E c K fr hp
 |.skip,K,fr,hp,h=>fun a w hR=>wpIn_skip ⟨fr,hp,h,hR⟩
 |.region id ops draw,K,fr,hp,h=>by
  simp only[oe]at h
  split at h
  ·exact h.run
  ·exact rG hE h
 |.seq x y,K,fr,hp,h=>by
  intro a w hR
  simp only[oe]at h
  refine wpIn_seq (Code.wpIn_mono ?_ (gC hE x _ fr hp h a w hR))
  rintro e a' w' ⟨fr',cc,h1,h2⟩
  cases e<;>first|exact gC hE y K fr' cc h1 a' w' h2|exact⟨fr',cc,h1,h2⟩
 |.cond c x y,K,fr,hp,h=>by
  intro a w hR
  simp only[oe]at h
  split at h
  ·rename_i t ht
   have hv:a.eval c= .bool t:=by
    obtain⟨ρ,_,_,hR⟩:=hR
    have:Has ρ (.val (.bool t)) (a.eval c):=by
     cases c with
     |tmp u=>exact hR.fr u _ (by simp only[fn,LV.sv];exact ht)
     |const v=>exact ak (fr:=[]) (by simpa [ev]using ht) ρ a (fun _ _ h=>by cases h)
     |func f=>simp[ev]at ht
     |global g=>simp[ev]at ht
    exact aK this
   refine wpIn_cond_split hv (fun hb=>gC hE x K fr hp (h.1 hb) a w hR) (fun hb=>gC hE y K fr hp (h.2 hb) a w hR)
  ·exact h.elim
 |.block id c,K,fr,hp,h=>by
  intro a w hR
  simp only[oe]at h
  refine wpIn_block (Code.wpIn_mono ?_ (gC hE c _ fr hp h a w hR))
  rintro e a' w' ⟨fr',cc,h1,h2⟩
  cases e with
  |exit i=>
   simp only[Exit.inBlock]
   simp only at h1
   split at h1
   ·rename_i hb
    rw[if_pos (Nat.eq_of_beq_eq_true hb)]
    exact⟨fr',cc,h1,h2⟩
   ·rename_i hb
    rw[if_neg (by rintro rfl;simp[Nat.beq_refl]at hb)]
    exact⟨fr',cc,h1,h2⟩
  |_=>exact⟨fr',cc,h1,h2⟩
 |.exit id,K,fr,hp,h=>fun a w hR=>wpIn_exit ⟨fr,hp,h,hR⟩
 |.ret,K,fr,hp,h=>fun a w hR=>wpIn_ret ⟨fr,hp,h,hR⟩
 |.loop c,K,fr,hp,h=>h.run
 |.rangeFunc _ _ _ _,K,fr,hp,h=>h.run
 |.scope c,K,fr,hp,h=>by
  intro a w hR
  simp only[oe]at h
  refine qc (Code.wpIn_mono ?_ (gC hE c _ fr hp h a w hR))
  rintro e a' w' ⟨fr',cc,h1,h2⟩
  cases e<;>first|exact h1.elim|exact⟨fr',cc,h1,h2⟩
 |.label _,K,fr,hp,h=>fun a w hR=>wpIn_label ⟨fr,hp,h,hR⟩
 |.goto _,K,fr,hp,h=>h.run
 |.refuse _,K,fr,hp,h=>h.run
theorem iN {E:Env} (hE:E.OK) (c:Code) (K:bI) (fr:List (Nat×SV)) (hp:List (Nat×aF)) (h:A6 E c K fr hp):SW E c K fr hp:=
 gC hE c K fr hp (by rw[RU]at h;exact h)
theorem A8 {E:Env} {c:Code} {K:bI} {fr:List (Nat×SV)} {hp:List (Nat×aF)} (I:Nat→List (Nat×SV)→List (Nat×aF)→Prop) (m:Nat) (h0:I m fr hp)
  (h:∀m fr hp,I m fr hp→SW E c (fun e fr' cc=>match e with
   |.normal=>∃m',m'<m∧I m' fr' cc
   |e=>K e fr' cc) fr hp):SW E (.loop c) K fr hp:=by
 intro a w hR b k cs hro hb hr
 have key:∀m fr hp a w,I m fr hp→RR E (fn fr hp) a w→
   ∃e a' w',vc E K e a' w'∧ArrivesIn (Machine.fenced E.P (FT E.ro)) E.P (lone (b.atR a (.code c:: .inLoop c::k)) cs w) b k cs e a' w':=by
  intro m
  induction m using Nat.strongRecOn with
  |_ m ih=>
   intro fr hp a w hI hR
   obtain⟨e,a₁,w₁,⟨fr',cc,hq,jD⟩,iM⟩:=h m fr hp hI a w hR b (.inLoop c::k) cs hro hb hr
   cases e with
   |normal=>
    obtain⟨m',aE,hI'⟩:=hq
    obtain⟨e₂,a₂,w₂,hq₂,harr₂⟩:=ih m' aE fr' cc a₁ w₁ hI' jD
    exact⟨e₂,a₂,w₂,hq₂,.of_steps (StepsIn.trans iM (.one (fenced_calm hb hr rfl) stepR_inLoop)) harr₂⟩
   |exit id=>exact⟨_,a₁,w₁,⟨fr',cc,hq,jD⟩,.pass (x:=.inLoop c) rfl (fun _ _=>.inl (by simp)) iM⟩
   |goto l=>exact⟨_,a₁,w₁,⟨fr',cc,hq,jD⟩,.pass (x:=.inLoop c) rfl (fun _ _=>.inl (by simp)) iM⟩
   |ret=>exact⟨_,a₁,w₁,⟨fr',cc,hq,jD⟩,.pass (x:=.inLoop c) rfl (fun _ _=>.inl (by simp)) iM⟩
   |panic ch=>exact⟨_,a₁,w₁,⟨fr',cc,hq,jD⟩,.pass (x:=.inLoop c) rfl (fun _ _=>.inl (by simp)) iM⟩
   |outgrown=>exact⟨_,a₁,w₁,⟨fr',cc,hq,jD⟩,.pass (x:=.inLoop c) rfl (fun _ _=>.inl (by simp)) iM⟩
 obtain⟨e,a',w',hq,iM⟩:=key m fr hp a w h0 hR
 exact⟨e,a',w',hq,.of_steps (.one (fenced_calm hb hr rfl) stepR_loop) iM⟩
def A9 (T:List (TypeId×TI)) (fr:List (Nat×SV)) (hp:List (Nat×aF)):ResultVar→Option (Option Prop×SV)
 |.tmp t=>match lk fr t with
  |some c=>match bx c with
   |true=>some (none,c)
   |false=>none
  |none=>none
 |.cell a ty=>match lk fr a,du T ty with
  |some (.ptr key s i r),some ti=>match find hp key with
   |some blk=>match elem blk.data s i with
    |some (ob,cs)=>match sub 64 cs r ti.size,ti.size with
     |some l,_+1=>match eC ti l with
      |some c=>match bx c with
       |true=>some (ob,c)
       |false=>none
      |none=>none
     |_,_=>none
    |none=>none
   |none=>none
  |_,_=>none
def both:Option Prop→Option Prop→Option Prop
 |none,q=>q
 |p,none=>p
 |some p,some q=>some (p∧q)
theorem zB {p q:Option Prop} (h:Cd (both p q)):Cd p∧Cd q:=by
 cases p<;>cases q<;>first|exact⟨trivial,h⟩|exact⟨h,trivial⟩|exact h
def kk (T:List (TypeId×TI)) (fr:List (Nat×SV)) (hp:List (Nat×aF)):List ResultVar→Option (Option Prop×List SV)
 |[]=>some (none,[])
 |r::rs=>match A9 T fr hp r,kk T fr hp rs with
  |some (ob,c),some (ob',l)=>some (both ob ob',c::l)
  |_,_=>none
def qh:List SV→SV
 |[c]=>c
 |l=>.ck l
def IE (T:List (TypeId×TI)) (rs:List ResultVar) (K:SV→List (Nat×aF)→Prop):bI:=fun e fr hp=>match e with
 |.normal=>match kk T fr hp rs with
  |some (ob,l)=>Rt ob (K (qh l) hp)
  |none=>False
 |.ret=>match kk T fr hp rs with
  |some (ob,l)=>Rt ob (K (qh l) hp)
  |none=>False
 |_=>False
def Ba (tmps:Array Value):ResultVar→Sem Value
 |.tmp t=>pure (tmps.getD t undef)
 |.cell p t=>do loadVar t (←asAddr (tmps.getD p undef))
theorem Et {E:Env} (hE:E.OK) {fr:List (Nat×SV)} {hp:List (Nat×aF)} {r:ResultVar} {ob:Option Prop} {c:SV} (h:A9 E.T fr hp r=some (ob,c)) (ju:Cd ob) {ρ:bU} {a:Act} {w:World} (hR:R E.W0 E.w0 E.n ρ (fn fr hp) a w):
  ∃v,(Ba a.tmps r).run E.P w= .ok v w∧Has ρ c v∧bx c=true:=by
 cases r with
 |tmp t=>
  simp only[A9]at h
  split at h
  ·rename_i d hd
   split at h
   ·rename_i cc
    simp only[Option.some.injEq,Prod.mk.injEq]at h
    obtain⟨rfl,rfl⟩:=h
    exact⟨_,rfl,hR.fr t d (by simp only[fn,LV.sv];exact hd),cc⟩
   ·simp at h
  ·simp at h
 |cell p ty=>
  simp only[A9]at h
  split at h
  ·rename_i key s i r ti hx ru
   split at h
   ·rename_i blk gB
    split at h
    ·rename_i ob' cs he
     split at h
     ·rename_i l _ hs gV
      split at h
      ·rename_i d hd
       split at h
       ·rename_i cc
        simp only[Option.some.injEq,Prod.mk.injEq]at h
        obtain⟨rfl,rfl⟩:=h
        have hv:=hR.fr p _ (by simp only[fn,LV.sv];exact hx)
        simp only[Has,aL]at hv
        obtain⟨_,⟨b,n,b9,rfl⟩,bZ⟩:=hv
        simp only[cQ,SV.bl,if_true,List.headD_cons]at bZ
        obtain⟨v,h1,h2⟩:=FW (hE.A7.get ru) b9 (hR.hp.blk _ _ (by simp only[fn,LV.blk];exact gB)) he ju hs aa hd
        exact⟨v,by simp only[Ba,bZ,asAddr,Sem.run_bind,Sem.run_pure,Result.andThen_ok,h1],h2,cc⟩
       ·simp at h
      ·simp at h
     ·simp at h
    ·simp at h
   ·simp at h
  ·simp at h
theorem w7 {E:Env} (hE:E.OK) {fr:List (Nat×SV)} {hp:List (Nat×aF)} {ρ:bU} {a:Act} {w:World} (hR:R E.W0 E.w0 E.n ρ (fn fr hp) a w):∀(rs:List ResultVar) (ob:Option Prop) (l:List SV),kk E.T fr hp rs=some (ob,l)→Cd ob→
  ∃vs:List Value,(rs.mapM (Ba a.tmps)).run E.P w= .ok vs w∧
   (∃z,aw ρ l z∧vs=List.zipWith cQ l z)∧(∀c∈l,bx c=true)∧l.length=rs.length
 |[],ob,l,h,_=>by
  simp only[kk,Option.some.injEq,Prod.mk.injEq]at h
  obtain⟨_,rfl⟩:=h
  exact⟨[],rfl,⟨[],by simp[aw],rfl⟩,by simp,rfl⟩
 |r::rs,ob,l,h,ju=>by
  unfold kk at h
  split at h
  ·rename_i ob1 c ob2 l' h1 h2
   simp only[Option.some.injEq,Prod.mk.injEq]at h
   obtain⟨rfl,rfl⟩:=h
   obtain⟨v,e1,e2,e3⟩:=Et hE h1 (zB ju).1 hR
   obtain⟨vs,f1,⟨z,f2,rfl⟩,f3,f4⟩:=w7 hE hR rs ob2 l' h2 (zB ju).2
   obtain⟨x,g1,rfl⟩:=Cs e3 e2
   refine⟨cQ c x::List.zipWith cQ l' z, ?_,⟨x::z,by simp only[aw];exact⟨x,z,rfl,g1,f2⟩,rfl⟩, ?_,by simp[f4]⟩
   ·rw[List.mapM_cons,Sem.run_bind,e1]
    simp only[Result.andThen_ok,Sem.run_bind,f1,Sem.run_pure]
   ·intro d hd
    rcases List.mem_cons.1 hd with rfl|hd
    ·exact e3
    ·exact f3 d hd
  ·simp at h
theorem l8 {E:Env} (hE:E.OK) {fn':Func} {fr:List (Nat×SV)} {hp:List (Nat×aF)} {ρ:bU} {a:Act} {w:World} (hR:R E.W0 E.w0 E.n ρ (fn fr hp) a w) {ob:Option Prop} {l:List SV}
  (h:kk E.T fr hp fn'.results.toList=some (ob,l)) (ju:Cd ob):∃v,(results fn' a.tmps).run E.P w= .ok v w∧Has ρ (qh l) v:=by
 obtain⟨vs,h1,⟨z,h2,rfl⟩,h3,h4⟩:=w7 hE hR _ ob l h ju
 have hz:l.length=z.length:=by
  clear h h1 h3 h4
  induction l generalizing z with
  |nil=>simp only[aw]at h2;subst h2;rfl
  |cons c l ih=>simp only[aw]at h2;obtain⟨x,r,rfl,_,h⟩:=h2;simp[ih r h]
 refine⟨if l.length=1 then(List.zipWith cQ l z).headD undef else .tuple (List.zipWith cQ l z).toArray, ?_, ?_⟩
 ·have RV:results fn' a.tmps=(do
    let vs ←fn'.results.mapM (Ba a.tmps)
    pure (if h:vs.size=1 then vs[0]else .tuple vs)):=by
   unfold results
   congr 1
  rw[RV,Array.mapM_eq_mapM_toList,Sem.run_bind,Sem.run_map,h1]
  simp only[Result.andThen_ok,Sem.run_pure,List.size_toArray,List.length_zipWith,hz,Nat.min_self]
  congr 1
  by_cases hl:z.length=1
  ·rw[dif_pos hl,if_pos hl]
   obtain⟨c,rfl⟩:=List.length_eq_one_iff.1 (hz.trans hl)
   obtain⟨x,rfl⟩:=List.length_eq_one_iff.1 hl
   rfl
  ·rw[dif_neg hl,if_neg hl]
 ·have hp:=h3
  match l,z,h2,hz with
  |[c],z,h2,hz=>
   simp only[aw]at h2
   obtain⟨x,r,rfl,g1,rfl⟩:=h2
   have:=h3 c (by simp)
   simp only[qh,List.length_singleton,if_true]
   have:Has ρ c (cQ c x):=by
    cases c<;>simp[bx]at this<;>simp only[Has]<;>exact⟨x,g1,rfl⟩
   simpa using this
  |[],z,h2,hz=>simp only[qh,Has];exact⟨z,h2,by simp⟩
  |c::d::l,z,h2,hz=>simp only[qh,Has];exact⟨z,h2,by simp⟩
def enum:Nat→List SV→List (Nat×SV)
 |_,[]=>[]
 |i,c::l=>(i,c)::enum (i+1) l
theorem rH:∀(l:List SV) (i t:Nat) (c:SV),lk (enum i l) t=some c→i≤t∧l[t - i]? =some c
 |d::l,i,t,c,h=>by
  unfold enum lk at h
  split at h
  ·rename_i hb
   have:=Nat.eq_of_beq_eq_true hb
   subst this
   cases h
   simp
  ·rename_i hb
   obtain⟨h1,h2⟩:=rH l (i+1) t c h
   refine⟨aa, ?_⟩
   rw[show t - i=(t - (i+1))+1 from by omega]
   simpa using h2
def au (c d:SV):Prop:=∀ρ v,Has ρ c v→Has ρ d v
theorem au.refl (c:SV):au c c:=fun _ _ h=>h
def shut:List Nat→World→World
 |[],w=>w
 |D::Ds,w=>shut Ds (w.putObj D (.deferred none))
theorem zC:∀(Ds:List Nat) (w:World),(shut Ds w).heap.size=w.heap.size
 |[],_=>rfl
 |D::Ds,w=>by rw[shut,zC Ds,World.putObj_size]
theorem pw:∀(Ds:List Nat) (w:World) (b:Nat),b∉Ds→(shut Ds w).heap[b]? =w.heap[b]?
 |[],_,_,_=>rfl
 |D::Ds,w,b,h=>by
  simp only[List.mem_cons,not_or]at h
  rw[shut,pw Ds _ b h.2,World.putObj_heap_other h.1]
theorem zD:∀(Ds:List Nat) (w:World),(shut Ds w).os=w.os∧(shut Ds w).tape=w.tape∧(shut Ds w).output=w.output
 |[],_=>⟨rfl,rfl,rfl⟩
 |D::Ds,w=>zD Ds (w.putObj D (.deferred none))
theorem R.shut {W0:Nat→Prop} {w0:World} {n:Nat} {ρ:bU} {s:Loc→LV} {a:Act} {w:World} (h:R W0 w0 n ρ s a w) {Ds:List Nat}
  (hd:∀D∈Ds,w0.heap.size≤D∧w.heap[D]? =some (.deferred (some []))∧ρ.bf D=none):R W0 w0 n ρ s {a with defers:=[]} (Sx.shut Ds w):=by
 obtain⟨r1,r2,r3⟩:=zD Ds w
 refine {defers:=.nil,size:=h.size,fr:=h.fr,bK:= ?_,hp:= ?_}
 ·refine⟨r1.trans h.bK.os,r2.trans h.bK.tape,r3.trans h.bK.output,by rw[zC];exact h.bK.size,fun b hb hw=> ?_⟩
  rw[pw,h.bK.block b hb hw]
  intro hm
  have:=(hd b hm).1
  omega
 ·refine {blk:=fun k b hb=> ?_,sep:=h.hp.sep,own:=h.hp.own,ug:=h.hp.ug,bf:=fun b o hb=> ?_,eV:=h.hp.eV}
  ·rcases h.hp.blk k b hb with h4|⟨b',t',vs,ex,h4,h5,h6⟩|h4
   ·exact .inl h4
   ·refine .inr (.inl ⟨b',t',vs,ex,h4, ?_,h6⟩)
    rw[pw _ _ _ (fun hm=>by rw[(hd b' hm).2.1]at h5;exact Data.jG (Option.some.inj h5).symm)]
    exact h5
   ·exact .inr (.inr h4)
  ·rw[pw _ _ _ (fun hm=>by rw[(hd b hm).2.2]at hb;cases hb)]
   exact h.hp.bf b o hb
theorem oH {P:Program} {fn':Func} {tmps:Array Value} {Q:Ending→World→Prop}:∀(Ds:List Nat) (w:World),Ds.Nodup→(∀D∈Ds,w.heap[D]? =some (.deferred (some [])))→
  (∃v,(results fn' tmps).run P (shut Ds w)= .ok v (shut Ds w)∧Q (.returned v) (shut Ds w))→LeavesInM Fence.wide 0 P fn' tmps Q (Ds.map mk1) .returning w
 |[],w,_,_,h=>by
  simp only[List.map_nil,LeavesInM,LeavesIn]
  exact h
 |D::Ds,w,hn,hd,h=>by
  rw[List.nodup_cons]at hn
  refine⟨by simp,.inl ⟨D,w.putObj D (.deferred none),rfl,run_takeDeferred (hd D (List.mem_cons_self ..)),oH Ds _ hn.2 (fun D' hD'=> ?_) h⟩⟩
  have bW:D'≠D:=by rintro rfl;exact hn.1 hD'
  rw[World.putObj_heap_other bW]
  exact hd D' (List.mem_cons_of_mem _ hD')
theorem jO {E:Env} {f:FuncId} {fn':Func} {code:Code} {args:Array Value} {w:World} {Q:Ending→World→Prop} {K:bI} (hro:E.ro=none) (hf:E.P.funcs[f]? =some fn') (hb:fn'.body=some code)
  (hK1:∀ch fr hp,¬K (.panic ch) fr hp) (hK2:∀fr hp,¬K .outgrown fr hp)
  (MJ:code.wpIn (FT E.ro) 0 E.P (vc E K) {tmps:=args++Array.replicate (fn'.ntmps - args.size) undef,defers:=[]} w)
  (h:∀e a' w',a'.defers=[]→vc E K e a' w'→bodyPost E.P fn' Q e a' w'):Calls E.P f args w Q:=by
 rw[hro]at MJ
 refine callsIn_wide.1 (callsIn_of_wp_marks (n:=0) hf hb trivial (wpIn_mono (F:=Fence.wide) MJ ?_))
 rintro e a' w' ⟨fr,hp,hk,ρ,hx,hfx,hR⟩
 obtain⟨Ds,d1,d2,d3⟩:=hR.defers
 have:=h e {a' with defers:=[]} (shut Ds w') rfl ⟨fr,hp,hk,ρ,hx,hfx,hR.shut d3⟩
 cases e with
 |normal=>
  simp only[bodyPostM,d1]
  exact oH Ds w' d2 (fun D hD=>(d3 D hD).2.1) this.2
 |ret=>
  simp only[bodyPostM,d1]
  exact oH Ds w' d2 (fun D hD=>(d3 D hD).2.1) this.2
 |panic ch=>exact absurd hk (hK1 _ _ _)
 |outgrown=>exact absurd hk (hK2 _ _)
 |exit id=>exact this
 |goto l=>exact this
theorem ZV {P:Program} {T:List (TypeId×TI)} {Z:List Nat} (hT:ic P T) (hm:P.follows .mixedOrders=true) {f:FuncId} {fn':Func} {code:Code} (hf:P.funcs[f]? =some fn') (hb:fn'.body=some code)
  (hn:(fn'.name== "runtime.NumGoroutine")=false) {args:List SV} {c:SV} (ha:bn args=true) (hc:bP c=true) (hnt:Nat.ble args.length fn'.ntmps=true) (hpass:args.all bx=true)
  (h:∀W0 w0 ρ0,Env.OK ⟨P,T,W0,w0,fn'.ntmps,ρ0,[],Z,none⟩→A6 ⟨P,T,W0,w0,fn'.ntmps,ρ0,[],Z,none⟩ code (IE T fn'.results.toList fun sv _=>au sv c) (enum 0 args) []):ab P f args [] c [] []:=by
 have Jh:=Nat.le_of_ble_eq_true hnt
 refine .inl ⟨⟨fn',hf,hn,by rw[hb];rfl⟩,fun ρ w z hz Ea=> ?_⟩
 let ρ1:bU:=⟨fun _=>none,ρ.bf,ρ.cw⟩
 let E:Env:=⟨P,T,fun _=>False,w,fn'.ntmps,ρ1,[],Z,none⟩
 have hE:E.OK:=⟨hT,hm,fun k x hx=>by cases hx⟩
 have qu:z.length=args.length:=by
  clear h hnt Jh hpass ha
  induction args generalizing z with
  |nil=>simp only[aw]at hz;subst hz;rfl
  |cons c l ih=>simp only[aw]at hz;obtain⟨x,r,rfl,_,h⟩:=hz;simp[ih r h]
 have Ji:=cl (ρ:=ρ) (ρ':=ρ1) (fun b o hb=>hb) args z ha hz
 have mJ:∀(l:List SV) (y:List (List Value)),aw ρ1 l y→l.all bx=true→∀(j:Nat) (c:SV),l[j]? =some c→∃v,(List.zipWith cQ l y)[j]? =some v∧Has ρ1 c v:=by
  intro l
  induction l with
  |nil=>intro y _ _ j c h;simp at h
  |cons d l ih=>
   intro y hy hp j c hj
   simp only[aw]at hy
   obtain⟨x,r,rfl,g1,g2⟩:=hy
   simp only[List.all_cons,Bool.and_eq_true]at hp
   cases j with
   |zero=>
    simp at hj
    subst hj
    refine⟨cQ d x,by simp, ?_⟩
    have hp1:=hp.1
    cases d<;>simp[bx]at hp1<;>simp only[Has]<;>exact⟨x,g1,rfl⟩
   |succ j=>simpa using ih r g2 hp.2 j c (by simpa using hj)
 have vd:((List.zipWith cQ args z).toArray++Array.replicate (fn'.ntmps - (List.zipWith cQ args z).toArray.size) undef).size=fn'.ntmps:=by
  simp[qu]
  omega
 have hR:R E.W0 E.w0 E.n ρ1 (fn (enum 0 args) []) {tmps:=(List.zipWith cQ args z).toArray++Array.replicate (fn'.ntmps - (List.zipWith cQ args z).toArray.size) undef,defers:=[]} w:={
  defers:=.nil
  size:=vd
  fr:=fun t sv ht=>by
   simp only[fn,LV.sv]at ht
   obtain⟨_,h2⟩:=rH args 0 t sv ht
   obtain⟨v,h3,h4⟩:=mJ args z Ji hpass t sv (by simpa using h2)
   have aE:t<(List.zipWith cQ args z).length:=(List.getElem?_eq_some_iff.1 h3).1
   have:((List.zipWith cQ args z).toArray++Array.replicate (fn'.ntmps - (List.zipWith cQ args z).toArray.size) undef).getD t undef=v:=by
    rw[Array.getD_eq_getD_getElem?,Array.getElem?_append_left (by simpa using aE)]
    simp[h3]
   rw[this];exact h4
  bK:=.refl _ _
  hp:={
   blk:=fun k b hb=>by simp[fn,find,LV.blk]at hb
   sep:=fun k k' x x' b b' hx=>by cases hx
   own:=fun k b x hb=>by simp[fn,find,LV.blk]at hb
   ug:=fun k x hx=>by cases hx
   bf:=Ea.bf
   eV:=fun k b x hb=>by simp[fn,find,LV.blk]at hb}}
 have MJ:=iN hE code _ _ _ (h E.W0 w ρ1 hE) _ w ⟨ρ1,⟨.refl _,fun b o hb=>.inl hb,(fun _ h=>by cases h)⟩,(fun _ h=>by cases h),hR⟩
 refine jO (E:=E) rfl hf hb (fun _ _ _ h=>h) (fun _ _ h=>h) MJ ?_
 rintro e a' w' hdf ⟨fr',cc,hK,ρ',hext,_,jD⟩
 have fin:∀ob l,kk T fr' cc fn'.results.toList=some (ob,l)→Cd ob→au (qh l) c→a'.defers=[]∧∃v,(results fn' a'.tmps).run P w'= .ok v w'∧∃v' ρ'',Ending.returned v= .returned v'∧jH ρ w c [] [] v' ρ'' w':=by
  intro ob l h1 h2 h3
  obtain⟨v,r1,r2⟩:=l8 hE jD h1 h2
  refine⟨hdf,v,r1,v,⟨ρ.key,ρ'.bf,ρ'.cw⟩,rfl,⟨⟨fun k x hx=>hx,fun b o hb=>hext.le.bf b o hb⟩, ?_,fun _ _=>rfl, ?_,(fun k b h=>by rcases h with h|h<;>cases h),(fun _ _ _ h=>by cases h),(fun k b x h=>by cases h),(fun k b k' b' x x' h=>by cases h), ?_⟩⟩
  ·exact nt (ρ:=ρ') (ρ':=⟨ρ.key,ρ'.bf,ρ'.cw⟩) (fun b o hb=>hb) c v hc (h3 ρ' v r2)
  ·exact jD.bK.mono (fun b _ hb=>hb.elim)
  ·intro b o hb
   rcases hext.bf b o hb with h4|h4
   ·exact .inl h4
   ·exact .inr ⟨h4,jD.hp.bf b o hb,fun k blk x h=>by cases h⟩
 cases e<;>simp only[IE]at hK<;>simp only[bodyPost]
 ·split at hK
  ·rename_i ob l hl;exact fin ob l hl (cm hK).1 (cm hK).2
  ·exact hK.elim
 ·split at hK
  ·rename_i ob l hl;exact fin ob l hl (cm hK).1 (cm hK).2
  ·exact hK.elim
end Go.Sx
namespace Go.Sx
mutual
def eW (σ:Nat→Nat):SV→SV
 |.ptr k s i r=>.ptr (σ k) s i r
 |.aO k s i n=>.aO (σ k) s i n
 |.agg cs=>.agg (lD σ cs)
 |.ck vs=>.ck (lD σ vs)
 |.clo f a b=>.clo f (lD σ a) (lD σ b)
 |.yld k rc ts a=>.yld (σ k) rc ts (lD σ a)
 |.any=>.any
 |.val v=>.val v
 |.nat n=>.nat n
 |.int z=>.int z
 |.frac q=>.frac q
 |.atom p=>.atom p
def lD (σ:Nat→Nat):List SV→List SV
 |[]=>[]
 |c::l=>eW σ c::lD σ l
end
mutual
def refs:SV→List Nat
 |.ptr k _ _ _=>[k]
 |.aO k _ _ _=>[k]
 |.agg cs=>gg cs
 |.ck vs=>gg vs
 |.clo _ a b=>gg a++gg b
 |.yld k _ _ a=>k::gg a
 |_=>[]
def gg:List SV→List Nat
 |[]=>[]
 |c::l=>refs c++gg l
end
def y3 (σ:Nat→Nat):Data→Data
 |.one cs=>.one (lD σ cs)
 |.seq w xs=>.seq w xs
 |.ints k xs=>.ints k xs
 |.cb xs=>.cb xs
 |.dead=>.dead
 |.loop rc=>.loop rc
def oI:Data→List Nat
 |.one cs=>gg cs
 |.seq _ _=>[]
 |_=>[]
def dU (σ:Nat→Nat) (b:aF):aF:=⟨b.ty,b.wr,y3 σ b.data⟩
def lE (σ:Nat→Nat):List (Nat×aF)→List (Nat×aF)
 |[]=>[]
 |(k,b)::r=>(σ k,dU σ b)::lE σ r
theorem Eu (σ:Nat→Nat) (c:SV):(eW σ c).bl=c.bl:=by cases c<;>simp[eW,SV.bl]
theorem w9 (σ:Nat→Nat) (c:SV) (x:List Value):cQ (eW σ c) x=cQ c x:=by simp[cQ,Eu]
theorem px (σ:Nat→Nat):∀(l:List SV) (z:List (List Value)),List.zipWith cQ (lD σ l) z=List.zipWith cQ l z
 |[],z=>by simp[lD]
 |c::l,[]=>by simp[lD]
 |c::l,x::z=>by simp[lD,w9,px σ l z]
mutual
theorem rI {ρ ρ':bU} {σ:Nat→Nat} (hi:ρ'.bf=ρ.bf):∀(c:SV) (x:List Value),(∀k∈refs c,ρ'.key (σ k)=ρ.key k)→(aL ρ' (eW σ c) x↔aL ρ c x)
 |.any,_,_=>by simp only[eW,aL]
 |.val _,_,_=>by simp only[eW,aL]
 |.nat _,_,_=>by simp only[eW,aL]
 |.int _,_,_=>by simp only[eW,aL]
 |.frac _,_,_=>by simp only[eW,aL]
 |.atom p,_,_=>by simp only[eW,aL,hi]
 |.ptr k s i r,_,h=>by simp only[eW,aL,h k (by simp[refs])]
 |.aO k s i n,_,h=>by simp only[eW,aL,h k (by simp[refs])]
 |.agg cs,_,h=>by
  simp only[eW,aL]
  constructor
  ·rintro⟨z,h1,h2⟩;exact⟨z,(dw hi cs z (by simpa [refs]using h)).1 h1,h2⟩
  ·rintro⟨z,h1,h2⟩;exact⟨z,(dw hi cs z (by simpa [refs]using h)).2 h1,h2⟩
 |.ck vs,_,_=>by simp only[eW,aL]
 |.clo f a b,_,h=>by
  have ha:∀k∈gg a,ρ'.key (σ k)=ρ.key k:=fun k hk=>h k (by simp[refs,hk])
  have hb:∀k∈gg b,ρ'.key (σ k)=ρ.key k:=fun k hk=>h k (by simp[refs,hk])
  simp only[eW,aL,px]
  constructor
  ·rintro⟨fz,cz,h1,h2,h3⟩;exact⟨fz,cz,(dw hi a fz ha).1 h1,(dw hi b cz hb).1 h2,h3⟩
  ·rintro⟨fz,cz,h1,h2,h3⟩;exact⟨fz,cz,(dw hi a fz ha).2 h1,(dw hi b cz hb).2 h2,h3⟩
 |.yld k rc ts a,_,h=>by
  have h0:ρ'.key (σ k)=ρ.key k:=h k (by simp[refs])
  have ha:∀k∈gg a,ρ'.key (σ k)=ρ.key k:=fun k hk=>h k (by simp[refs,hk])
  simp only[eW,aL,px,h0]
  constructor
  ·rintro⟨l,t,h1,h2,z,h3,h4⟩;exact⟨l,t,h1,h2,z,(dw hi a z ha).1 h3,h4⟩
  ·rintro⟨l,t,h1,h2,z,h3,h4⟩;exact⟨l,t,h1,h2,z,(dw hi a z ha).2 h3,h4⟩
theorem dw {ρ ρ':bU} {σ:Nat→Nat} (hi:ρ'.bf=ρ.bf):∀(l:List SV) (z:List (List Value)),(∀k∈gg l,ρ'.key (σ k)=ρ.key k)→(aw ρ' (lD σ l) z↔aw ρ l z)
 |[],_,_=>by simp only[lD,aw]
 |c::l,_,h=>by
  have hc:∀k∈refs c,ρ'.key (σ k)=ρ.key k:=fun k hk=>h k (by simp[gg,hk])
  have hl:∀k∈gg l,ρ'.key (σ k)=ρ.key k:=fun k hk=>h k (by simp[gg,hk])
  simp only[lD,aw]
  constructor
  ·rintro⟨x,r,h1,h2,h3⟩;exact⟨x,r,h1,(rI hi c x hc).1 h2,(dw hi l r hl).1 h3⟩
  ·rintro⟨x,r,h1,h2,h3⟩;exact⟨x,r,h1,(rI hi c x hc).2 h2,(dw hi l r hl).2 h3⟩
end
theorem iW {ρ:bU} {c:SV} {v:Value} (h:bx c=true):Has ρ c v↔∃x,aL ρ c x∧v=cQ c x:=by
 cases c<;>simp only[bx,Bool.false_eq_true]at h<;>simp only[Has]
theorem Jj (σ:Nat→Nat) (c:SV):bx (eW σ c)=bx c:=by cases c<;>rfl
theorem vO {ρ ρ':bU} {σ:Nat→Nat} (hi:ρ'.bf=ρ.bf) (c:SV) (v:Value) (h:∀k∈refs c,ρ'.key (σ k)=ρ.key k):Has ρ' (eW σ c) v↔Has ρ c v:=by
 cases hp:bx c with
 |true=>
  rw[iW hp,iW (by rw[Jj];exact hp)]
  constructor
  ·rintro⟨x,h1,h2⟩;exact⟨x,(rI hi c x h).1 h1,by rw[h2,w9]⟩
  ·rintro⟨x,h1,h2⟩;exact⟨x,(rI hi c x h).2 h1,by rw[h2,w9]⟩
 |false=>
  cases c<;>simp only[bx,Bool.true_eq_false]at hp
  case ck l=>
   simp only[eW,Has,px]
   constructor
   ·rintro⟨z,h1,h2⟩;exact⟨z,(dw hi l z (by simpa [refs]using h)).1 h1,h2⟩
   ·rintro⟨z,h1,h2⟩;exact⟨z,(dw hi l z (by simpa [refs]using h)).2 h1,h2⟩
  case any=>simp only[eW,Has]
mutual
theorem Hq (σ:Nat→Nat):∀c:SV,(eW σ c).width=c.width
 |.any=>rfl
 |.val _=>rfl
 |.nat _=>rfl
 |.int _=>rfl
 |.frac _=>rfl
 |.atom _=>rfl
 |.ptr .. =>rfl
 |.aO .. =>rfl
 |.agg cs=>by simp only[eW,SV.width];exact xa σ cs
 |.ck _=>rfl
 |.clo .. =>rfl
 |.yld .. =>rfl
theorem xa (σ:Nat→Nat):∀l:List SV,SV.de (lD σ l)=SV.de l
 |[]=>rfl
 |c::l=>by simp only[lD,SV.de];rw[Hq σ c,xa σ l]
end
theorem CN {ρ ρ':bU} {σ:Nat→Nat} (hi:ρ'.bf=ρ.bf) (d:Data) (vs:List Value) (h:∀k∈oI d,ρ'.key (σ k)=ρ.key k):da ρ' (y3 σ d) vs↔da ρ d vs:=by
 cases d
 case one cs=>
  simp only[y3,da]
  constructor
  ·rintro⟨z,h1,h2⟩;exact⟨z,(dw hi cs z h).1 h1,h2⟩
  ·rintro⟨z,h1,h2⟩;exact⟨z,(dw hi cs z h).2 h1,h2⟩
 case seq w xs=>
  have e:cR ρ'.bf ρ'.cw=cR ρ.bf ρ.cw:=by
   cases ρ;cases ρ';simp only at hi;subst hi;rfl
  simp only[y3,da,e]
 all_goals simp only[y3,da]
theorem cK (σ:Nat→Nat) (d:Data):(y3 σ d).live=d.live:=by cases d<;>rfl
theorem Ev (σ:Nat→Nat) (d:Data):(y3 σ d).empty↔d.empty:=by
 cases d<;>simp[y3,Data.empty]
theorem Jk (σ:Nat→Nat) (d:Data) (l:List Value) (ty:TypeId):(y3 σ d).obj l ty=d.obj l ty:=by cases d<;>rfl
theorem jk {ρ ρ':bU} {σ:Nat→Nat} {w:World} (hi:ρ'.bf=ρ.bf) (k:Nat) (b:aF) (hk:ρ'.key (σ k)=ρ.key k) (h:∀k∈oI b.data,ρ'.key (σ k)=ρ.key k):hO ρ' w (σ k) (dU σ b)↔hO ρ w k b:=by
 simp only[hO,dU,hk,cK,Ev,Jk]
 constructor
 ·rintro(h0|⟨b',t,vs,ex,h1,h2,h3,h4⟩|h0)
  ·exact .inl h0
  ·exact .inr (.inl ⟨b',t,vs,ex,h1,h2,(CN hi b.data vs h).1 h3,h4⟩)
  ·exact .inr (.inr h0)
 ·rintro(h0|⟨b',t,vs,ex,h1,h2,h3,h4⟩|h0)
  ·exact .inl h0
  ·exact .inr (.inl ⟨b',t,vs,ex,h1,h2,(CN hi b.data vs h).2 h3,h4⟩)
  ·exact .inr (.inr h0)
def cE (l:List (Nat×Nat)) (k:Nat):Nat:=match l with
 |[]=>k
 |(a,b)::r=>match Nat.beq a k with|true=>b|false=>cE r k
def fg (σ:Nat→Nat) (fr:List (Nat×SV)):List Nat→List (Nat×SV)
 |[]=>[]
 |t::r=>match lk fr t with
  |some c=>(t,eW σ c)::fg σ fr r
  |none=>fg σ fr r
def gJ (σ:Nat→Nat) (hp:List (Nat×aF)):List Nat→List (Nat×aF)
 |[]=>[]
 |k::r=>match find hp k with
  |some b=>(σ k,dU σ b)::gJ σ hp r
  |none=>gJ σ hp r
def eJ (l r:List Nat):Bool:=match l with
 |[]=>true
 |x::t=>vF x r&&eJ t r
theorem dD {l r:List Nat} (h:eJ l r=true):∀x∈l,x∈r:=by
 induction l with
 |nil=>intro x hx;cases hx
 |cons y l ih=>
  simp only[eJ,Bool.and_eq_true]at h
  intro x hx
  rcases List.mem_cons.1 hx with rfl|hx
  ·exact jh.1 h.1
  ·exact ih h.2 x hx
def eg (ks:List Nat) (fr:List (Nat×SV)):List Nat→Bool
 |[]=>true
 |t::r=>match lk fr t with
  |some c=>eJ (refs c) ks&&eg ks fr r
  |none=>eg ks fr r
def dz (ks:List Nat) (hp:List (Nat×aF)):List Nat→Bool
 |[]=>true
 |k::r=>match find hp k with
  |some b=>eJ (oI b.data) ks&&dz ks hp r
  |none=>false
def rJ (σ:Nat→Nat):List Nat→Bool
 |[]=>true
 |k::r=> !(vF (σ k) (r.map σ))&&rJ σ r
def ve (σ:Nat→Nat) (ks:List Nat):List Nat→Bool
 |[]=>true
 |k::r=>(vF k ks&&Nat.beq (σ k) k)&&ve σ ks r
def ig (fx:List Nat) (σ:Nat→Nat) (ts ks:List Nat) (fr:List (Nat×SV)) (hp:List (Nat×aF)):Bool:=
 eg ks fr ts&&(dz ks hp ks&&(rJ σ ks&&ve σ ks fx))
theorem qy {σ:Nat→Nat}:∀{ks:List Nat},rJ σ ks=true→∀a∈ks,∀b∈ks,σ a=σ b→a=b
 |k::r,h,a,ha,b,hb,he=>by
  simp only[rJ,Bool.and_eq_true,Bool.not_eq_true',←Bool.not_eq_true,jh]at h
  rcases List.mem_cons.1 ha with ha'|ha'
  ·rcases List.mem_cons.1 hb with gu|gu
   ·rw[ha',gu]
   ·exact absurd (List.mem_map.2 ⟨b,gu,by rw[←he,ha']⟩) h.1
  ·rcases List.mem_cons.1 hb with gu|gu
   ·exact absurd (List.mem_map.2 ⟨a,ha',by rw[he,gu]⟩) h.1
   ·exact qy h.2 a ha' b gu he
theorem rK {σ:Nat→Nat} {fr:List (Nat×SV)} {ks:List Nat}:∀{ts:List Nat},eg ks fr ts=true→∀t sv,lk (fg σ fr ts) t=some sv→∃c,lk fr t=some c∧sv=eW σ c∧∀k∈refs c,k∈ks
 |u::r,h,t,sv,hl=>by
  unfold eg at h
  unfold fg at hl
  cases hu:lk fr u with
  |none=>rw[hu]at h hl;exact rK h t sv hl
  |some c=>
   rw[hu]at h hl
   simp only[Bool.and_eq_true]at h
   simp only[lk]at hl
   cases hb:Nat.beq u t with
   |true=>
    rw[hb]at hl
    simp only[Option.some.injEq]at hl
    obtain rfl:=Nat.eq_of_beq_eq_true hb
    exact⟨c,hu,hl.symm,dD h.1⟩
   |false=>rw[hb]at hl;exact rK h.2 t sv hl
theorem qz {σ:Nat→Nat} {hp:List (Nat×aF)} {ks:List Nat}:∀{l:List Nat},dz ks hp l=true→∀k' b',find (gJ σ hp l) k'=some b'→∃k∈l,σ k=k'∧∃b,find hp k=some b∧b'=dU σ b∧∀j∈oI b.data,j∈ks
 |k::r,h,k',b',hf=>by
  unfold dz at h
  unfold gJ at hf
  cases hk:find hp k with
  |none=>rw[hk]at h;cases h
  |some b=>
   rw[hk]at h hf
   simp only[Bool.and_eq_true]at h
   simp only[find]at hf
   cases hb:Nat.beq (σ k) k' with
   |true=>
    rw[hb]at hf
    simp only[Option.some.injEq]at hf
    exact⟨k,List.mem_cons_self ..,Nat.eq_of_beq_eq_true hb,b,hk,hf.symm,dD h.1⟩
   |false=>
    rw[hb]at hf
    obtain⟨j,h1,h2⟩:=qz h.2 k' b' hf
    exact⟨j,List.mem_cons_of_mem _ h1,h2⟩
theorem mK {σ:Nat→Nat} {hp:List (Nat×aF)} {ks:List Nat}:∀{l:List Nat},dz ks hp l=true→∀k∈l,∃b,find (gJ σ hp l) (σ k)=some b
 |j::r,h,k,hk=>by
  unfold dz at h
  unfold gJ
  cases hj:find hp j with
  |none=>rw[hj]at h;cases h
  |some b=>
   rw[hj]at h
   simp only[Bool.and_eq_true]at h
   simp only[find]
   cases hb:Nat.beq (σ j) (σ k)with
   |true=>exact⟨_,rfl⟩
   |false=>
    rcases List.mem_cons.1 hk with rfl|hk
    ·simp[Nat.beq_refl]at hb
    ·exact mK h.2 k hk
theorem xb {σ:Nat→Nat} {ks:List Nat}:∀{l:List Nat},ve σ ks l=true→∀k∈l,k∈ks∧σ k=k
 |j::r,h,k,hk=>by
  simp only[ve,Bool.and_eq_true,jh]at h
  rcases List.mem_cons.1 hk with rfl|hk
  ·exact⟨h.1.1,Nat.eq_of_beq_eq_true h.1.2⟩
  ·exact xb h.2 k hk
theorem py {E:Env} (hE:E.OK) {σ:Nat→Nat} {ts ks:List Nat} {fr:List (Nat×SV)} {hp:List (Nat×aF)} (h:ig E.fx σ ts ks fr hp=true) {a:Act} {w:World} (hR:RR E (fn fr hp) a w):
  RR E (fn (fg σ fr ts) (gJ σ hp ks)) a w:=by
 simp only[ig,Bool.and_eq_true]at h
 obtain⟨h1,h2,h3,h4⟩:=h
 obtain⟨ρ,hext,hfx,hR⟩:=hR
 have RY:=qy h3
 have Hr:=xb h4
 let ρ':bU:=⟨fun k'=>match ks.find? (fun k=>σ k==k')with
  |some k=>ρ.key k
  |none=>none,ρ.bf,ρ.cw⟩
 have b9:∀k∈ks,ρ'.key (σ k)=ρ.key k:=by
  intro k hk
  show(match ks.find? (fun j=>σ j==σ k)with|some k=>ρ.key k|none=>none)=ρ.key k
  cases hf:ks.find? (fun j=>σ j==σ k)with
  |none=>have:=List.find?_eq_none.1 hf k hk;simp at this
  |some j=>
   have hj:=List.mem_of_find?_eq_some hf
   have hs:=List.find?_some hf
   have:j=k:=RY j hj k hk (by simpa using hs)
   rw[this]
 have Jl:∀k' x,ρ'.key k'=some x→∃k∈ks,σ k=k'∧ρ.key k=some x:=by
  intro k' x hx
  have hx:(match ks.find? (fun j=>σ j==k')with|some k=>ρ.key k|none=>none)=some x:=hx
  cases hf:ks.find? (fun j=>σ j==k')with
  |none=>rw[hf]at hx;cases hx
  |some j=>rw[hf]at hx;exact⟨j,List.mem_of_find?_eq_some hf,by simpa using List.find?_some hf,hx⟩
 have hold:∀k' b',(fn (fg σ fr ts) (gJ σ hp ks) (.k k')).blk=some b'→∃k∈ks,σ k=k'∧∃b,find hp k=some b∧b'=dU σ b∧∀j∈oI b.data,j∈ks:=fun k' b' hb=>qz h2 k' b' hb
 refine⟨ρ',⟨⟨fun k x hx=> ?_,hext.le.bf⟩,hext.bf,fun k hk=> ?_⟩,fun k hk=> ?_,{defers:=hR.defers,size:=hR.size,fr:= ?_,bK:=hR.bK,hp:= ?_}⟩
 ·obtain⟨e1,e2⟩:=Hr k (hE.ug k x hx)
  have:=b9 k e1
  rw[e2]at this
  rw[this];exact hext.le.key k x hx
 ·obtain⟨e1,e2⟩:=Hr k hk
  have:=b9 k e1
  rw[e2]at this
  rw[this];exact hext.fix k hk
 ·obtain⟨e1,e2⟩:=Hr k hk
  obtain⟨b,hb⟩:=mK (σ:=σ) h2 k e1
  rw[e2]at hb
  simp[fn,LV.blk,hb]
 ·intro t sv ht
  obtain⟨c,c1,rfl,c3⟩:=rK h1 t sv ht
  exact(vO (ρ:=ρ) (ρ':=ρ') (σ:=σ) rfl c _ (fun k hk=>b9 k (c3 k hk))).2 (hR.fr t c (by simp only[fn,LV.sv];exact c1))
 ·constructor
  ·intro k' b' hb
   obtain⟨k,hk,rfl,b,b1,rfl,b3⟩:=hold k' b' hb
   exact(jk (ρ:=ρ) (ρ':=ρ') (σ:=σ) rfl k b (b9 k hk) (fun j hj=>b9 j (b3 j hj))).2 (hR.hp.blk k b (by simp only[fn,LV.blk];exact b1))
  ·intro k1 k2 x1 x2 b1 b2 RZ MH bW he hb1 hb2 eR iC
   obtain⟨j1,m1,rfl,c1,d1,rfl,_⟩:=hold k1 b1 hb1
   obtain⟨j2,m2,rfl,c2,d2,rfl,_⟩:=hold k2 b2 hb2
   rw[b9 j1 m1]at RZ
   rw[b9 j2 m2]at MH
   exact hR.hp.sep j1 j2 x1 x2 c1 c2 RZ MH (fun h=>bW (by rw[h])) he (by simp only[fn,LV.blk];exact d1) (by simp only[fn,LV.blk];exact d2) (by rwa [dU,cK]at eR) (by rwa [dU,cK]at iC)
  ·intro k' b' x hb hw hl hx
   obtain⟨k,hk,rfl,b,b1,rfl,_⟩:=hold k' b' hb
   rw[b9 k hk]at hx
   exact hR.hp.own k b x (by simp only[fn,LV.blk];exact b1) hw (by rwa [dU,cK]at hl) hx
  ·intro k' x hx
   obtain⟨k,hk,rfl,_⟩:=Jl k' x hx
   obtain⟨b,hb⟩:=mK (σ:=σ) h2 k hk
   exact⟨b,by simp only[fn,LV.blk];exact hb⟩
  ·exact hR.hp.bf
  ·intro k' b' x hb hw hl hx
   obtain⟨k,hk,rfl,b,b1,rfl,_⟩:=hold k' b' hb
   rw[b9 k hk]at hx
   exact hR.hp.eV k b x (by simp only[fn,LV.blk];exact b1) hw (by rwa [dU,cK]at hl) hx
theorem vP {E:Env} (hE:E.OK) (σ:Nat→Nat) (ts ks:List Nat) {c:Code} {K:bI} {fr:List (Nat×SV)} {hp:List (Nat×aF)} (h:ig E.fx σ ts ks fr hp=true)
  (hs:SW E c K (fg σ fr ts) (gJ σ hp ks)):SW E c K fr hp:=fun a w hR=>hs a w (py hE h hR)
def xc (t k s:Nat) (fr:List (Nat×SV)):List (Nat×SV):=(t,.aO k s 0 0)::fr
theorem Jm {E:Env} {t k s:Nat} {blk:aF} {fr:List (Nat×SV)} {hp:List (Nat×aF)} (ht:lk fr t=some (.val (.slice none 0 0))) (hk:find hp k=none) (he:blk.data.empty) {a:Act} {w:World} (hR:RR E (fn fr hp) a w):
  RR E (fn (xc t k s fr) ((k,blk)::hp)) a w:=by
 obtain⟨ρ,hext,hfx,hR⟩:=hR
 have Pw:ρ.key k=none:=by
  cases hx:ρ.key k with
  |none=>rfl
  |some x=>
   obtain⟨b,hb⟩:=hR.hp.ug k x hx
   simp only[fn,LV.blk,hk]at hb
   cases hb
 have gB:∀j b,(fn (xc t k s fr) ((k,blk)::hp) (.k j)).blk=some b→(j=k∧b=blk)∨(j≠k∧(fn fr hp (.k j)).blk=some b):=by
  intro j b hb
  simp only[fn,LV.blk,find]at hb ⊢
  cases hj:Nat.beq k j with
  |true=>rw[hj]at hb;simp only[Option.some.injEq]at hb;exact .inl ⟨(Nat.eq_of_beq_eq_true hj).symm,hb.symm⟩
  |false=>rw[hj]at hb;exact .inr ⟨by rintro rfl;simp[Nat.beq_refl]at hj,hb⟩
 have bW:∀j x,ρ.key j=some x→j≠k:=fun j x hx h=>by rw[h,Pw]at hx;cases hx
 refine⟨ρ,hext,fun j hj=> ?_,{defers:=hR.defers,size:=hR.size,fr:= ?_,bK:=hR.bK,hp:= ?_}⟩
 ·have:=hfx j hj
  simp only[fn,LV.blk,find]at this ⊢
  cases hb:Nat.beq k j with
  |true=>simp
  |false=>exact this
 ·intro u sv hu
  simp only[fn,LV.sv,xc,lk]at hu
  cases hb:Nat.beq t u with
  |true=>
   rw[hb]at hu
   simp only[Option.some.injEq]at hu
   subst hu
   obtain rfl:=Nat.eq_of_beq_eq_true hb
   have:=aK (hR.fr t _ (by simp only[fn,LV.sv];exact ht))
   rw[this]
   exact gv (.inr ⟨rfl,none,rfl⟩)
  |false=>
   rw[hb]at hu
   exact hR.fr u sv (by simp only[fn,LV.sv];exact hu)
 ·constructor
  ·intro j b hb
   rcases gB j b hb with⟨rfl,rfl⟩|⟨_,h1⟩
   ·exact .inr (.inr ⟨Pw,he⟩)
   ·exact hR.hp.blk j b h1
  ·intro j j' x x' b b' hx qt hn hxe hb gu
   rcases gB j b hb with⟨h1,_⟩|⟨_,h1⟩
   ·exact absurd h1 (bW j x hx)
   ·rcases gB j' b' gu with⟨h2,_⟩|⟨_,h2⟩
    ·exact absurd h2 (bW j' x' qt)
    ·exact hR.hp.sep j j' x x' b b' hx qt hn hxe h1 h2
  ·intro j b x hb hw hl hx
   rcases gB j b hb with⟨h1,_⟩|⟨_,h1⟩
   ·exact absurd h1 (bW j x hx)
   ·exact hR.hp.own j b x h1 hw hl hx
  ·intro j x hx
   obtain⟨b,hb⟩:=hR.hp.ug j x hx
   have:=bW j x hx
   refine⟨b, ?_⟩
   simp only[fn,LV.blk,find]at hb ⊢
   cases hj:Nat.beq k j with
   |true=>exact absurd (Nat.eq_of_beq_eq_true hj).symm this
   |false=>exact hb
  ·exact hR.hp.bf
  ·intro j b x hb hw hl hx
   rcases gB j b hb with⟨h1,_⟩|⟨_,h1⟩
   ·exact absurd h1 (bW j x hx)
   ·exact hR.hp.eV j b x h1 hw hl hx
theorem Jn {E:Env} (t k s:Nat) (blk:aF) {c:Code} {K:bI} {fr:List (Nat×SV)} {hp:List (Nat×aF)} (ht:lk fr t=some (.val (.slice none 0 0))) (hk:find hp k=none) (he:blk.data.empty)
  (hs:SW E c K (xc t k s fr) ((k,blk)::hp)):SW E c K fr hp:=fun a w hR=>hs a w (Jm ht hk he hR)
theorem ct {E:Env} {t k s:Nat} {c:Code} {K:bI} {blk:aF} {fr:List (Nat×SV)} {hp:List (Nat×aF)} (ht:lk fr t=some (.val (.slice none 0 0))) (hk:find hp k=none) (he:blk.data.empty)
  (hs:ey E c K (xc t k s fr) ((k,blk)::hp)):ey E c K fr hp:=⟨Jn t k s blk ht hk he hs.run⟩
theorem aj {E:Env} (hE:E.OK) {c:Code} {K:bI} {fr:List (Nat×SV)} {hp:List (Nat×aF)} (σ:Nat→Nat) (ts ks:List Nat) (I:Nat→List (Nat×SV)→List (Nat×aF)→Prop) (m:Nat)
  (h0:ig E.fx σ ts ks fr hp=true) (hI:I m (fg σ fr ts) (gJ σ hp ks))
  (h:∀m fr hp,I m fr hp→A6 E c (fun e fr' cc=>match e with
   |.normal=>∃m' σ ts ks,m'<m∧ig E.fx σ ts ks fr' cc=true∧I m' (fg σ fr' ts) (gJ σ cc ks)
   |e=>K e fr' cc) fr hp):ey E (.loop c) K fr hp:=by
 refine⟨?_⟩
 refine vP hE σ ts ks h0 (A8 (fun m fr hp=>∃fr0 n7,(∀a w,RR E (fn fr hp) a w→RR E (fn fr0 n7) a w)∧I m fr0 n7) m ⟨_,_,fun _ _ h=>h,hI⟩ ?_)
 rintro m fr hp ⟨fr0,n7,hw,hI⟩ a w hR
 refine Code.wpIn_mono ?_ (iN hE c _ fr0 n7 (h m fr0 n7 hI) a w (hw a w hR))
 rintro e a' w' ⟨fr',cc,h1,h2⟩
 cases e with
 |normal=>
  obtain⟨m',σ,ts,ks,aE,IF,hI'⟩:=h1
  exact⟨fr',cc,⟨m',aE,_,_,fun a w hR=>py hE IF hR,hI'⟩,h2⟩
 |_=>exact⟨fr',cc,h1,h2⟩
end Go.Sx
namespace Go.Sx
def Fin (c:SV) (new upd:List (Nat×aF)) (sv:SV) (hp:List (Nat×aF)):Prop:=
 au sv c∧(∀k b,(k,b)∈new→find hp k=some b)∧(∀k b,(k,b)∈upd→find hp k=some b)
def rL:List (Nat×aF)→Bool
 |[]=>true
 |(_,b)::r=>(b.wr&&b.data.live)&&rL r
def ij:List (Nat×aF)→List Nat
 |[]=>[]
 |(_,b)::r=>oI b.data++ij r
def oJ:List Nat→Bool
 |[]=>true
 |x::r=> !(vF x r)&&oJ r
structure cI (args:List SV) (fk:List (Nat×aF)) (c:SV) (new upd:List (Nat×aF)):Prop where
 R3:eJ (gg args) (az fk)=true
 fkr:eJ (ij fk) (az fk)=true
 nd:oJ (az fk++az new)=true
 R4:rL new=true
 R5:rL upd=true
 Jo:∀k b,(k,b)∈upd→∃b0,(k,b0)∈fk∧b0.wr=true∧b0.data.live=true
 Ew:∀k b,(k,b)∈fk→b.wr=true→b.data.live=true→∃b',(k,b')∈upd
 cr:eJ (refs c) (az fk++az new)=true
 nr:eJ (ij new) (az fk++az new)=true
 ur:eJ (ij upd) (az fk++az new)=true
 pass:args.all bx=true
structure bo (fk new:List (Nat×aF)) (σ:Nat→Nat):Prop where
 inj:∀q q' b b',(q,b)∈fk→(q',b')∈fk→q≠q'→b.wr=true→σ q≠σ q'
 Jp:∀m m',m∈az new→m'∈az new→m≠m'→σ m≠σ m'
 Jq:∀m q,m∈az new→q∈az fk→σ m≠σ q
theorem l9:∀{l:List Nat},oJ l=true→l.Nodup
 |[],_=>List.nodup_nil
 |x::r,h=>by
  simp only[oJ,Bool.and_eq_true,Bool.not_eq_true',←Bool.not_eq_true,jh]at h
  exact List.nodup_cons.2 ⟨h.1,l9 h.2⟩
theorem jl:∀{l:List (Nat×aF)} {k:Nat} {b:aF},(az l).Nodup→(k,b)∈l→find l k=some b
 |(j,c)::r,k,b,hn,hm=>by
  simp only[az,List.nodup_cons]at hn
  simp only[find]
  rcases List.mem_cons.1 hm with h|h
  ·cases h;simp[Nat.beq_refl]
  ·have bW:j≠k:=by rintro rfl;exact hn.1 (aV.2 ⟨b,h⟩)
   cases hb:Nat.beq j k with
   |true=>exact absurd (Nat.eq_of_beq_eq_true hb) bW
   |false=>exact jl hn.2 h
theorem nz:∀{l:List (Nat×aF)},rL l=true→∀k b,(k,b)∈l→b.wr=true∧b.data.live=true
 |(j,c)::r,h,k,b,hm=>by
  simp only[rL,Bool.and_eq_true]at h
  rcases List.mem_cons.1 hm with h1|h1
  ·cases h1;exact h.1
  ·exact nz h.2 k b h1
theorem iO:∀{l:List (Nat×aF)} {k:Nat} {b:aF},(k,b)∈l→∀x∈oI b.data,x∈ij l
 |(j,c)::r,k,b,hm,x,hx=>by
  simp only[ij,List.mem_append]
  rcases List.mem_cons.1 hm with h1|h1
  ·cases h1;exact .inl hx
  ·exact .inr (iO h1 x hx)
theorem bG {σ:Nat→Nat}:∀{l:List (Nat×aF)} {k:Nat} {b:aF},(k,b)∈lE σ l↔∃q b0,(q,b0)∈l∧k=σ q∧b=dU σ b0
 |[],k,b=>by simp[lE]
 |(j,c)::r,k,b=>by
  simp only[lE,List.mem_cons,Prod.mk.injEq,bG (l:=r)]
  constructor
  ·rintro(⟨rfl,rfl⟩|⟨q,b0,h1,h2,h3⟩)
   ·exact⟨j,c,.inl ⟨rfl,rfl⟩,rfl,rfl⟩
   ·exact⟨q,b0,.inr h1,h2,h3⟩
  ·rintro⟨q,b0,⟨rfl,rfl⟩|h1,h2,h3⟩
   ·exact .inl ⟨h2,h3⟩
   ·exact .inr ⟨q,b0,h1,h2,h3⟩
theorem gh {P:Program} {T:List (TypeId×TI)} {Z:List Nat} (hT:ic P T) (hm:P.follows .mixedOrders=true) {f:FuncId} {fn':Func} {code:Code} (hf:P.funcs[f]? =some fn') (hb:fn'.body=some code)
  (hn:(fn'.name== "runtime.NumGoroutine")=false) {args:List SV} {fk:List (Nat×aF)} {c:SV} {new upd:List (Nat×aF)} (hs:cI args fk c new upd) (hnt:Nat.ble args.length fn'.ntmps=true)
  (σ:Nat→Nat) (hσ:bo fk new σ)
  (h:∀W0 w0 ρ0,Env.OK ⟨P,T,W0,w0,fn'.ntmps,ρ0,az fk,Z,none⟩→A6 ⟨P,T,W0,w0,fn'.ntmps,ρ0,az fk,Z,none⟩ code (IE T fn'.results.toList (Fin c new upd)) (enum 0 args) fk):
  ab P f (lD σ args) (lE σ fk) (eW σ c) (lE σ new) (lE σ upd):=by
 have Jh:=Nat.le_of_ble_eq_true hnt
 refine .inl ⟨⟨fn',hf,hn,by rw[hb];rfl⟩,fun ρ w z hz Ea=> ?_⟩
 have PD:=l9 hs.nd
 have Jr:(az fk).Nodup:=(List.nodup_append.1 PD).1
 have adu:(az new).Nodup:=(List.nodup_append.1 PD).2.1
 have Js:∀m∈az new,m∉az fk:=fun m hm hq=>(List.nodup_append.1 PD).2.2 m hq m hm rfl
 let ρ1:bU:=⟨fun q=>if q∈az fk then ρ.key (σ q)else none,ρ.bf,ρ.cw⟩
 have Ch:∀q∈az fk,ρ.key (σ q)=ρ1.key q:=fun q hq=>by
  show _=if q∈az fk then _ else _
  rw[if_pos hq]
 have Jt:∀q x,ρ1.key q=some x→q∈az fk:=fun q x hx=>by
  have hx:(if q∈az fk then ρ.key (σ q)else none)=some x:=hx
  by_cases hq:q∈az fk
  ·exact hq
  ·rw[if_neg hq]at hx;cases hx
 let W0:Nat→Prop:=fun b=>∃q blk t,(q,blk)∈upd∧ρ1.key q=some (b,t)
 let E:Env:=⟨P,T,W0,w,fn'.ntmps,ρ1,az fk,Z,none⟩
 have hE:E.OK:=⟨hT,hm,Jt⟩
 have Ju:=dD hs.R3
 have Ji:aw ρ1 args z:=(dw (ρ:=ρ1) (ρ':=ρ) (σ:=σ) rfl args z (fun k hk=>Ch k (Ju k hk))).1 hz
 have qu:z.length=args.length:=cV Ji
 have mJ:∀(l:List SV) (y:List (List Value)),aw ρ1 l y→l.all bx=true→∀(j:Nat) (c:SV),l[j]? =some c→∃v,(List.zipWith cQ l y)[j]? =some v∧Has ρ1 c v:=by
  intro l
  induction l with
  |nil=>intro y _ _ j c h;simp at h
  |cons d l ih=>
   intro y hy hp j c hj
   simp only[aw]at hy
   obtain⟨x,r,rfl,g1,g2⟩:=hy
   simp only[List.all_cons,Bool.and_eq_true]at hp
   cases j with
   |zero=>
    simp at hj
    subst hj
    exact⟨cQ d x,by simp,(iW hp.1).2 ⟨x,g1,rfl⟩⟩
   |succ j=>simpa using ih r g2 hp.2 j c (by simpa using hj)
 have vd:((List.zipWith cQ args z).toArray++Array.replicate (fn'.ntmps - (List.zipWith cQ args z).toArray.size) undef).size=fn'.ntmps:=by
  simp[qu]
  omega
 have R6:=dD hs.fkr
 have oK:∀k b,find fk k=some b→(k,b)∈fk:=fun k b hb=>jc hb
 have hR:R E.W0 E.w0 E.n ρ1 (fn (enum 0 args) fk) {tmps:=(List.zipWith cQ args z).toArray++Array.replicate (fn'.ntmps - (List.zipWith cQ args z).toArray.size) undef,defers:=[]} w:={
  defers:=.nil
  size:=vd
  fr:=fun t sv ht=>by
   simp only[fn,LV.sv]at ht
   obtain⟨_,h2⟩:=rH args 0 t sv ht
   obtain⟨v,h3,h4⟩:=mJ args z Ji hs.pass t sv (by simpa using h2)
   have aE:t<(List.zipWith cQ args z).length:=(List.getElem?_eq_some_iff.1 h3).1
   have:((List.zipWith cQ args z).toArray++Array.replicate (fn'.ntmps - (List.zipWith cQ args z).toArray.size) undef).getD t undef=v:=by
    rw[Array.getD_eq_getD_getElem?,Array.getElem?_append_left (by simpa using aE)]
    simp[h3]
   rw[this];exact h4
  bK:=.refl _ _
  hp:={
   blk:=fun k b hb=>by
    have hm:=oK k b hb
    have:=Ea.n0 (σ k) (dU σ b) (bG.2 ⟨k,b,hm,rfl,rfl⟩)
    exact(jk (ρ:=ρ1) (ρ':=ρ) (σ:=σ) rfl k b (Ch k (aV.2 ⟨b,hm⟩)) (fun j hj=>Ch j (R6 j (iO hm j hj)))).1 this
   sep:=fun k k' x x' b b' hx qt bW he hb gu hl ra=>by
    have hm:=oK k b hb
    have Ex:=oK k' b' gu
    have IA:ρ.key (σ k)=some x:=by rw[Ch k (aV.2 ⟨b,hm⟩)];exact hx
    have R7:ρ.key (σ k')=some x':=by rw[Ch k' (aV.2 ⟨b',Ex⟩)];exact qt
    cases hw:b.wr with
    |false=>rfl
    |true=>
     have:=Ea.sep (σ k) (σ k') x x' (dU σ b) (dU σ b') (bG.2 ⟨k,b,hm,rfl,rfl⟩) (bG.2 ⟨k',b',Ex,rfl,rfl⟩) IA R7 (hσ.inj k k' b b' hm Ex bW hw) he (by rw[dU,cK];exact hl) (by rw[dU,cK];exact ra)
     rw[dU]at this
     rw[hw]at this;exact this
   own:=fun k b x hb hw hl hx=>by
    have hm:=oK k b hb
    obtain⟨b',hu⟩:=hs.Ew k b hm hw hl
    exact .inr ⟨k,b',x.2,hu,hx⟩
   ug:=fun k x hx=>by
    obtain⟨b,hb⟩:=aV.1 (Jt k x hx)
    exact⟨b,by simp only[fn,LV.blk];exact jl Jr hb⟩
   bf:=Ea.bf
   eV:=fun k b x hb hw hl hx=>by
    have hm:=oK k b hb
    have IA:ρ.key (σ k)=some x:=by rw[Ch k (aV.2 ⟨b,hm⟩)];exact hx
    exact Ea.eV (σ k) (dU σ b) x (bG.2 ⟨k,b,hm,rfl,rfl⟩) hw (by rw[dU,cK];exact hl) IA}}
 have MJ:=iN hE code _ _ _ (h E.W0 w ρ1 hE) _ w ⟨ρ1,⟨.refl _,(fun b o hb=>.inl hb),(fun _ _=>rfl)⟩,(fun k hk=>by
  obtain⟨b,hb⟩:=aV.1 hk
  simp only[fn,LV.blk,jl Jr hb]
  simp),hR⟩
 rw[px]
 refine jO (E:=E) rfl hf hb (fun _ _ _ h=>h) (fun _ _ h=>h) MJ ?_
 rintro e a' w' hdf ⟨fr',cc,hK,ρ',hext,_,jD⟩
 have fin:∀ob l,kk T fr' cc fn'.results.toList=some (ob,l)→Cd ob→Fin c new upd (qh l) cc→a'.defers=[]∧∃v,(results fn' a'.tmps).run P w'= .ok v w'∧∃v' ρ'',Ending.returned v= .returned v'∧jH ρ w (eW σ c) (lE σ new) (lE σ upd) v' ρ'' w':=by
  rintro ob l h1 h2 ⟨h3,eX,hupd⟩
  obtain⟨v,r1,r2⟩:=l8 hE jD h1 h2
  let ρ2:bU:=⟨fun k=>match (az new).find? (fun m=>σ m==k)with
   |some m=>ρ'.key m
   |none=>ρ.key k,ρ'.bf,ρ'.cw⟩
  have oL:∀m∈az new,ρ2.key (σ m)=ρ'.key m:=by
   intro m hm
   show(match (az new).find? (fun j=>σ j==σ m)with|some m=>ρ'.key m|none=>ρ.key (σ m))=ρ'.key m
   cases Ey:(az new).find? (fun j=>σ j==σ m)with
   |none=>have:=List.find?_eq_none.1 Ey m hm;simp at this
   |some j=>
    have hj:=List.mem_of_find?_eq_some Ey
    have hjs:=List.find?_some Ey
    have:j=m:=Classical.byContradiction fun bW=>hσ.Jp j m hj hm bW (by simpa using hjs)
    rw[this]
  have xd:∀k,(∀m∈az new,σ m≠k)→ρ2.key k=ρ.key k:=by
   intro k hk
   show(match (az new).find? (fun j=>σ j==k)with|some m=>ρ'.key m|none=>ρ.key k)=ρ.key k
   cases Ey:(az new).find? (fun j=>σ j==k)with
   |none=>rfl
   |some j=>exact absurd (by simpa using List.find?_some Ey) (hk j (List.mem_of_find?_eq_some Ey))
  have k2:∀q∈az fk++az new,ρ2.key (σ q)=ρ'.key q:=by
   intro q hq
   rcases List.mem_append.1 hq with hq|hq
   ·rw[xd (σ q) (fun m hm=>hσ.Jq m q hm hq),Ch q hq,hext.fix q hq]
   ·exact oL q hq
  have dp:∀m∈az new,ρ.key (σ m)=none:=by
   intro m hm
   obtain⟨b,hb⟩:=aV.1 hm
   exact Ea.fresh (σ m) (dU σ b) (bG.2 ⟨m,b,hb,rfl,rfl⟩)
  have ik:=nz hs.R4
  have Jv:=nz hs.R5
  have ZW:=dD hs.nr
  have hur:=dD hs.ur
  have hcr:=dD hs.cr
  have nA:∀q b,(q,b)∈upd→q∈az fk:=fun q b hq=>by
   obtain⟨b0,h1,_⟩:=hs.Jo q b hq
   exact aV.2 ⟨b0,h1⟩
  refine⟨hdf,v,r1,v,ρ2,rfl,⟨⟨fun k x hx=> ?_,fun b o hb=>hext.le.bf b o hb⟩, ?_,fun k hk=> ?_, ?_, ?_, ?_, ?_, ?_, ?_⟩⟩
  ·rw[xd k]
   ·exact hx
   ·rintro m hm rfl
    rw[dp m hm]at hx;cases hx
  ·exact(vO (ρ:=ρ') (ρ':=ρ2) (σ:=σ) rfl c v (fun k hk=>k2 k (hcr k hk))).2 (h3 ρ' v r2)
  ·refine xd k fun m hm he=> ?_
   obtain⟨b,hb⟩:=aV.1 hm
   exact hk (dU σ b) (bG.2 ⟨m,b,hb,he.symm,rfl⟩)
  ·refine jD.bK.mono (fun b _ hb=> ?_)
   obtain⟨q,blk,t,hq,hx⟩:=hb
   refine⟨σ q,dU σ blk,t,bG.2 ⟨q,blk,hq,rfl,rfl⟩, ?_⟩
   rw[Ch q (nA q blk hq)];exact hx
  ·intro k b hk
   rcases hk with hk|hk
   ·obtain⟨q,b0,hq,rfl,rfl⟩:=bG.1 hk
    exact(jk (ρ:=ρ') (ρ':=ρ2) (σ:=σ) rfl q b0 (k2 q (List.mem_append.2 (.inl (nA q b0 hq)))) (fun j hj=>k2 j (hur j (iO hq j hj)))).2 (jD.hp.blk q b0 (by simp only[fn,LV.blk];exact hupd q b0 hq))
   ·obtain⟨q,b0,hq,rfl,rfl⟩:=bG.1 hk
    exact(jk (ρ:=ρ') (ρ':=ρ2) (σ:=σ) rfl q b0 (k2 q (List.mem_append.2 (.inr (aV.2 ⟨b0,hq⟩)))) (fun j hj=>k2 j (ZW j (iO hq j hj)))).2 (jD.hp.blk q b0 (by simp only[fn,LV.blk];exact eX q b0 hq))
  ·intro k b b' hk _ hl _
   obtain⟨q,b0,hq,rfl,rfl⟩:=bG.1 hk
   rw[dU,cK]at hl
   rw[(Jv q b0 hq).2]at hl;cases hl
  ·intro k b x hk hx
   obtain⟨m,b0,hm,rfl,rfl⟩:=bG.1 hk
   rw[oL m (aV.2 ⟨b0,hm⟩)]at hx
   have ZX:(fn fr' cc (.k m)).blk=some b0:=by simp only[fn,LV.blk];exact eX m b0 hm
   rcases jD.hp.own m b0 x ZX (ik m b0 hm).1 (ik m b0 hm).2 hx with h4|⟨q,bu,t,hq,hxq⟩
   ·exact .inl h4
   ·exfalso
    have Zr:=nA q bu hq
    have bW:m≠q:=fun he=>Js m (aV.2 ⟨b0,hm⟩) (he▸Zr)
    have R8:ρ'.key q=some (x.1,t):=by rw[hext.fix q Zr];exact hxq
    have:=jD.hp.sep m q x (x.1,t) b0 bu hx R8 bW rfl ZX (by simp only[fn,LV.blk];exact hupd q bu hq) (ik m b0 hm).2 (Jv q bu hq).2
    rw[(ik m b0 hm).1]at this;cases this
  ·intro k b k' b' x x' hk nu bW hx qt he
   obtain⟨m,b0,hm,rfl,rfl⟩:=bG.1 hk
   obtain⟨m',b0',Ex,rfl,rfl⟩:=bG.1 nu
   rw[oL m (aV.2 ⟨b0,hm⟩)]at hx
   rw[oL m' (aV.2 ⟨b0',Ex⟩)]at qt
   have:=jD.hp.sep m m' x x' b0 b0' hx qt (fun h=>bW (by rw[h])) he (by simp only[fn,LV.blk];exact eX m b0 hm) (by simp only[fn,LV.blk];exact eX m' b0' Ex) (ik m b0 hm).2 (ik m' b0' Ex).2
   rw[(ik m b0 hm).1]at this;cases this
  ·intro b o hb
   rcases hext.bf b o hb with h4|h4
   ·exact .inl h4
   ·refine .inr ⟨h4,jD.hp.bf b o hb,fun k blk x hk hx he=> ?_⟩
    obtain⟨m,b0,hm,rfl,rfl⟩:=bG.1 hk
    rw[oL m (aV.2 ⟨b0,hm⟩)]at hx
    have:=jD.hp.eV m b0 x (by simp only[fn,LV.blk];exact eX m b0 hm) (ik m b0 hm).1 (ik m b0 hm).2 hx
    rw[he]at this
    have gu:ρ'.bf b=some o:=hb
    rw[gu]at this;cases this
 cases e<;>simp only[IE]at hK<;>simp only[bodyPost]
 ·split at hK
  ·rename_i ob l hl;exact fin ob l hl (cm hK).1 (cm hK).2
  ·exact hK.elim
 ·split at hK
  ·rename_i ob l hl;exact fin ob l hl (cm hK).1 (cm hK).2
  ·exact hK.elim
def ro (b:aF):aF:=⟨b.ty,false,b.data⟩
theorem oB.ro {ρ:bU} {w:World} {fk new:List (Nat×aF)} (hp:oB fk new ρ w):oB (fk.map fun x=>(x.1,ro x.2)) new ρ w:=by
 refine⟨fun k b hk=> ?_,fun k k' x x' b b' hk _ _ _ _ _ _ _=> ?_,hp.bf,fun k b x hk hw=> ?_,hp.fresh⟩
 ·obtain⟨⟨q,b0⟩,hq,he⟩:=List.mem_map.1 hk
  cases he
  exact hp.n0 q b0 hq
 ·obtain⟨⟨q,b0⟩,hq,he⟩:=List.mem_map.1 hk
  cases he
  rfl
 ·obtain⟨⟨q,b0⟩,hq,he⟩:=List.mem_map.1 hk
  cases he
  cases hw
theorem ab.rN {P:Program} {f:FuncId} {args:List SV} {fk:List (Nat×aF)} {c:SV} {new:List (Nat×aF)} (h:ab P f args (fk.map fun x=>(x.1,ro x.2)) c new []):ab P f args fk c new []:=by
 rcases h with⟨h1,h2⟩|h
 ·exact .inl ⟨h1,fun ρ w z hz hp=>h2 ρ w z hz hp.ro⟩
 ·exact .inr fun ρ w z hz hp=>h ρ w z hz hp.ro
end Go.Sx
namespace Go.Sx
def pz:List Nat→Nat
 |[]=>0
 |w::l=>w+4294967296*pz l
theorem jP:∀(f n:Nat),n≤f→pz (cS f n)=n∧(∀w∈cS f n,w<4294967296)∧(cS f n≠[]→(cS f n).getLast?≠some 0)∧(cS f n=[]↔n=0)
 |0,n,h=>by
  obtain rfl:n=0:=aa
  simp[cS,pz]
 |f+1,n,h=>by
  simp only[cS]
  by_cases hn:n=0
  ·simp[hn,pz]
  ·have ih:=jP f (n/4294967296) aa
   simp only[hn,if_false]
   refine⟨?_, ?_,fun _=> ?_,by simp⟩
   ·simp only[pz,ih.1];omega
   ·intro w hw
    rcases List.mem_cons.1 hw with rfl|hw
    ·omega
    ·exact ih.2.1 w hw
   ·by_cases hz:n/4294967296=0
    ·have:cS f (n/4294967296)=[]:=ih.2.2.2.2 hz
     rw[this]
     simp
     omega
    ·have bW:cS f (n/4294967296)≠[]:=fun he=>hz (ih.2.2.2.1 he)
     rw[List.getLast?_cons,Option.getD_of_ne_none (by simp[bW])]
     have:=ih.2.2.1 bW
     exact this
theorem qi (n:Nat):pz (words n)=n:=(jP n n (Nat.le_refl n)).1
theorem xe {n w:Nat} (h:w∈words n):w<4294967296:=(jP n n (Nat.le_refl n)).2.1 w h
theorem Hs {n:Nat}:words n=[]↔n=0:=(jP n n (Nat.le_refl n)).2.2.2
theorem y4 {a b:Nat} (ha:a<4294967296) (hb:b<4294967296) (h:bH a=bH b):a=b:=by
 simp only[bH,List.cons.injEq,and_true]at h
 obtain⟨h1,h2,h3,h4⟩:=h
 have e:=fun(x y:Nat) (h:UInt8.ofNat x=UInt8.ofNat y)=>by
  have:=congrArg UInt8.toNat h
  simpa [UInt8.toNat_ofNat']using this
 have e1:=e _ _ h1;have e2:=e _ _ h2;have e3:=e _ _ h3;have e4:=e _ _ h4
 omega
theorem bytes_inj:∀(l m:List Nat),(∀w∈l,w<4294967296)→(∀w∈m,w<4294967296)→l.flatMap bH=m.flatMap bH→l=m
 |[],[],_,_,_=>rfl
 |[],y::m,_,_,h=>by simp[bH]at h
 |x::l,[],_,_,h=>by simp[bH]at h
 |x::l,y::m,hl,hm,h=>by
  simp only[List.flatMap_cons]at h
  have:=List.append_inj h (by simp[bH])
  rw[y4 (hl x (List.mem_cons_self ..)) (hm y (List.mem_cons_self ..)) this.1,bytes_inj l m (fun w hw=>hl w (List.mem_cons_of_mem _ hw)) (fun w hw=>hm w (List.mem_cons_of_mem _ hw)) this.2]
theorem xf (n:Nat):(qg n).toList=if n<18446744073709551616 then[]else(words n).flatMap bH:=by
 unfold qg
 split
 ·rw[ByteArray.toList_eq];rfl
 ·rw[ByteArray.toList_eq]
theorem mL {n:Nat}:(qg n).toList=[]↔n<18446744073709551616:=by
 rw[xf]
 split
 ·simp[*]
 ·rename_i h
  refine iff_of_false (fun he=> ?_) h
  cases hw:words n with
  |nil=>have:=Hs.1 hw;omega
  |cons x l=>rw[hw]at he;simp[bH]at he
theorem nB (a b:Nat):((low a==low b)&&((qg a).toList==(qg b).toList))=decide (a=b):=by
 rw[Bool.eq_iff_iff]
 simp only[Bool.and_eq_true,beq_iff_eq,decide_eq_true_eq]
 constructor
 ·rintro⟨h1,h2⟩
  by_cases ha:a<18446744073709551616
  ·have hb:b<18446744073709551616:=mL.1 (h2▸mL.2 ha)
   simp only[low,ha,hb,if_true]at h1
   omega
  ·have hb:¬b<18446744073709551616:=fun hb=>ha (mL.1 (h2▸mL.2 hb))
   simp only[xf,ha,hb,if_false]at h2
   have:=bytes_inj _ _ (fun w=>xe) (fun w=>xe) h2
   rw[←qi a,←qi b,this]
 ·rintro rfl;exact⟨rfl,rfl⟩
def Bb:TK→List Value→List Value→Option Bool
 |.int _,[.int k a],[.int k' b]=>if k=k' then some (a==b)else none
 |.bool,[.bool a],[.bool b]=>some (a==b)
 |.str,[.string a],[.string b]=>some (a.toList==b.toList)
 |_,_,_=>none
mutual
def vG (T:List (TypeId×TI)) (ez:List TypeId):Nat→TypeId→List Value→List Value→Option Bool
 |0,_,_,_=>none
 |f+1,t,xs,ys=>match du T t with
  |some ti=>match ti.kind with
   |.agg fs=>match ez.contains t with
    |true=>Ht T ez f fs xs ys
    |false=>none
   |k=>Bb k xs ys
  |none=>none
def Ht (T:List (TypeId×TI)) (ez:List TypeId):Nat→List (Nat×TypeId×Nat)→List Value→List Value→Option Bool
 |0,_,_,_=>none
 |_+1,[],_,_=>some true
 |f+1,(off,t,n)::fs,xs,ys=>match vG T ez f t ((xs.drop off).take n) ((ys.drop off).take n),Ht T ez f fs xs ys with
  |some a,some b=>some (a&&b)
  |_,_=>none
end
def xg (P:Program) (ez:List TypeId):Prop:=∀t∈ez,P.stoodInHeld t=false∧(P.fieldsOf t).toList.all (fun f=>f.name != "_")=true
def Ni (ti:TI) (xs:List Value):Value:=match ti.kind with
 |.agg _=>.agg xs.toArray
 |_=>xs.headD undef
theorem CO {P:Program} {t:TypeId} {ti:TI} (ht:aG P t ti) {xs:Array Value} {off:Nat} (gV:ti.kind.isAgg=false→∃v,(xs.toList.drop off).take ti.size=[v]) (iM:∀n e,ti.kind≠ .arr n e) (w:World):
  (part t xs off).run P w= .ok (Ni ti ((xs.toList.drop off).take ti.size)) w:=by
 unfold part
 rw[Sem.run_bind,ht.isAgg]
 simp only[Result.andThen_ok]
 cases hk:ti.kind.isAgg with
 |true=>
  have:∃fs,ti.kind= .agg fs:=by
   cases hq:ti.kind<;>rw[hq]at hk<;>simp[TK.isAgg]at hk
   ·exact⟨_,rfl⟩
   ·exact absurd hq (iM _ _)
  obtain⟨fs,Jw⟩:=this
  simp only[if_true,Sem.run_bind,ht.sizeOf,Result.andThen_ok,Sem.run_pure,Ni,Jw]
  congr 2
  apply Array.ext'
  simp[List.take_drop]
 |false=>
  obtain⟨v,hv⟩:=gV hk
  have hg:xs[off]? =some v:=by
   have:((xs.toList.drop off).take ti.size)[0]? =some v:=by rw[hv];rfl
   rw[List.getElem?_take]at this
   split at this
   ·rw[List.getElem?_drop]at this
    simpa using this
   ·cases this
  simp only[Bool.false_eq_true,if_false,hg,Sem.run_pure,Ni]
  cases hq:ti.kind<;>rw[hq]at hk<;>simp[TK.isAgg]at hk<;>simp[hv]
theorem Ez {P:Program} {t:TypeId} {d:Nat} {w:World} {k:TK} (hk:k.ok P t) {xs ys:List Value} {r:Bool} (h:Bb k xs ys=some r):∃x y,xs=[x]∧ys=[y]∧(Op.equalIn (d+1) t x y).run P w= .ok r w:=by
 unfold Bb at h
 split at h
 ·split at h
  ·rename_i hkk
   subst hkk
   simp only[Option.some.injEq]at h
   subst h
   exact⟨_,_,rfl,rfl,run_equalIn_int w d t _ _ _ _ hk⟩
  ·simp at h
 ·simp only[Option.some.injEq]at h
  subst h
  exact⟨_,_,rfl,rfl,run_equalIn_bool' w d t _ _ hk⟩
 ·simp only[Option.some.injEq]at h
  subst h
  exact⟨_,_,rfl,rfl,run_equalIn_string w d t _ _ hk⟩
 ·simp at h
mutual
theorem xh {P:Program} {T:List (TypeId×TI)} {ez:List TypeId} (hT:ic P T) (hg:xg P ez):∀(f:Nat) (t:TypeId) (xs ys:List Value) (r:Bool),vG T ez f t xs ys=some r→∀(d:Nat) (w:World),f≤d→∃ti,du T t=some ti∧(∀n e,ti.kind≠ .arr n e)∧(ti.kind.isAgg=false→(∃v,xs=[v])∧∃v,ys=[v])∧(Op.equalIn d t (Ni ti xs) (Ni ti ys)).run P w= .ok r w
 |0,_,_,_,_,h,_,_,_=>by simp[vG]at h
 |f+1,t,xs,ys,r,h,d,w,hd=>by
  obtain⟨d,rfl⟩:∃d',d=d'+1:=⟨d - 1,aa⟩
  unfold vG at h
  split at h
  ·rename_i ti ru
   have hk:=(hT.get ru).kind
   refine⟨ti,ru, ?_⟩
   cases hq:ti.kind<;>rw[hq]at h hk<;>simp only at h
   case agg fs=>
    split at h
    ·rename_i hgood
     obtain⟨h1,h2,h3⟩:=hk
     obtain⟨g1,g2⟩:=hg t (by simpa using hgood)
     refine⟨by simp,by simp[TK.isAgg], ?_⟩
     simp only[Ni,hq]
     rw[run_equalIn_struct w d t _ _ h1 g1]
     exact CP hT hg f fs xs ys r h (P.fieldsOf t).toList h2 g2 d w aa
    ·simp at h
   case arr=>simp[Bb]at h
   all_goals (obtain⟨x,y,rfl,rfl,h1⟩:=Ez (d:=d) (w:=w) hk h;exact⟨by simp,fun _=>⟨⟨_,rfl⟩,⟨_,rfl⟩⟩,by simpa only[Ni,hq,List.headD_cons]using h1⟩)
  ·simp at h
theorem CP {P:Program} {T:List (TypeId×TI)} {ez:List TypeId} (hT:ic P T) (hg:xg P ez):∀(f:Nat) (fs:List (Nat×TypeId×Nat)) (xs ys:List Value) (r:Bool),Ht T ez f fs xs ys=some r→
  ∀(l:List Field),l.map (fun f=>(f.offset,f.type,P.cellsOf f.type))=fs→l.all (fun f=>f.name != "_")=true→∀(d:Nat) (w:World),f≤d→(Op.eqFields d xs.toArray ys.toArray l).run P w= .ok r w
 |0,_,_,_,_,h,_,_,_,_,_,_=>by simp[Ht]at h
 |f+1,[],xs,ys,r,h,l,hl,_,d,w,_=>by
  simp only[Ht,Option.some.injEq]at h
  subst h
  obtain rfl:l=[]:=by simpa using hl
  simp[Op.eqFields]
 |f+1,(off,t,n)::fs,xs,ys,r,h,l,hl,hn,d,w,hd=>by
  cases l with
  |nil=>simp at hl
  |cons g l=>
   simp only[List.map_cons,List.cons.injEq,Prod.mk.injEq]at hl
   obtain⟨⟨rfl,rfl,rfl⟩,hl⟩:=hl
   simp only[List.all_cons,Bool.and_eq_true,bne_iff_ne,ne_eq]at hn
   unfold Ht at h
   split at h
   ·rename_i a b ha hb
    simp only[Option.some.injEq]at h
    subst h
    obtain⟨ti,h1,h2,h3,h4⟩:=xh hT hg f _ _ _ _ ha d w aa
    have ht:=hT.get h1
    have gV:P.cellsOf g.type=ti.size:=by
     obtain⟨i,z,e1,e2,_⟩:=ht.info
     simp[Program.cellsOf,e1,e2]
    rw[gV]at h3 h4
    have cx:=CP hT hg f fs xs ys b hb l hl hn.2 d w aa
    have p1:=CO ht (xs:=xs.toArray) (off:=g.offset) (fun hk=>(h3 hk).1) h2 w
    have p2:=CO ht (xs:=ys.toArray) (off:=g.offset) (fun hk=>(h3 hk).2) h2 w
    have MK:¬g.name= "_" :=hn.1
    simp only[Op.eqFields,MK,ne_eq,not_false_eq_true,if_true,Sem.run_bind,p1,p2,Result.andThen_ok,h4]
    cases a
    ·simp
    ·simp[cx]
   ·simp at h
end
def jF:SV→Option (List Value)
 |.nat n=>some (bR n)
 |.int z=>some (dW z)
 |.frac q=>some (bD q)
 |.agg cs=>flatL cs
 |_=>none
where flatL:List SV→Option (List Value)
 |[]=>some []
 |.val v::l=>(flatL l).map (v::·)
 |.nat n::l=>(flatL l).map (bR n++·)
 |.int z::l=>(flatL l).map (dW z++·)
 |.frac q::l=>(flatL l).map (bD q++·)
 |_=>none
theorem qC {ρ:bU}:∀{l:List SV} {cells:List Value} {z:List (List Value)},jF.flatL l=some cells→aw ρ l z→z.flatten=cells
 |[],cells,z,h,hz=>by simp only[jF.flatL,Option.some.injEq]at h;simp only[aw]at hz;subst h;subst hz;rfl
 |c::l,cells,z,h,hz=>by
  simp only[aw]at hz
  obtain⟨x,r,rfl,h1,h2⟩:=hz
  cases c<;>simp only[jF.flatL,Option.map_eq_some_iff,reduceCtorEq]at h<;>obtain⟨m,hm,rfl⟩:=h<;>simp only[aL]at h1<;>have ih:=qC hm h2
  case val=>obtain⟨rfl,_⟩:=h1;simp[ih]
  all_goals (subst h1;simp[ih])
theorem kp {ρ:bU} {c:SV} {cells:List Value} {v:Value} (h:jF c=some cells) (hv:Has ρ c v):v= .agg cells.toArray:=by
 cases c<;>simp only[jF,Option.some.injEq,reduceCtorEq]at h<;>simp only[Has,aL]at hv<;>obtain⟨x,hx,rfl⟩:=hv<;>simp only[cQ,SV.bl,Bool.false_eq_true,if_false]
 case agg=>obtain⟨z,h1,rfl⟩:=hx;rw[qC h h1]
 all_goals (subst h;subst hx;rfl)
section
variable {P:Program} {o:Oper} {ft:List (Nat×SV)} {fk:List (Nat×aF)} {c c':SV}
theorem fh {T:List (TypeId×TI)} {ez:List TypeId} {t t2:TypeId} {x y:Operand} {l l':List Value} {r:Bool} {fs:List (Nat×TypeId×Nat)} {ti:TI} (hT:ic P T) (hg:xg P ez) (ho:o.op= .binOp .eql t x y t2) (hx:bp ft x c) (hy:bp ft y c')
  (hl:jF c=some l) (ra:jF c'=some l') (ru:du T t=some ti) (hk:ti.kind= .agg fs) (hr:vG T ez 10 t l l'=some r) (hgd:P.eqGuardType P.depth t=false):bS P o ft fk (.val (.bool r)) [] []:=
 bw fun ρ a w hp=>by
  have e1:=kp hl (hx ρ a hp.dy)
  have e2:=kp ra (hy ρ a hp.dy)
  obtain⟨ti',h1,_,_,h4⟩:=xh hT hg 10 t l l' r hr 10000 w aa
  rw[ru]at h1
  cases h1
  simp only[Ni,hk]at h4
  refine⟨_, ?_,cd rfl⟩
  simp only[execOp,ho,e1,e2,Sem.run_bind,run_eqGuard_agg w .eql t x y _ _ hgd,Result.andThen_ok,run_eql_struct,h4,Sem.run_pure]
theorem cn {T:List (TypeId×TI)} {ez:List TypeId} {t t2:TypeId} {x y:Operand} {l l':List Value} {r:Bool} {fs:List (Nat×TypeId×Nat)} {ti:TI} (hT:ic P T) (hg:xg P ez) (ho:o.op= .binOp .neq t x y t2) (hx:bp ft x c) (hy:bp ft y c')
  (hl:jF c=some l) (ra:jF c'=some l') (ru:du T t=some ti) (hk:ti.kind= .agg fs) (hr:vG T ez 10 t l l'=some r) (hgd:P.eqGuardType P.depth t=false):bS P o ft fk (.val (.bool (!r))) [] []:=
 bw fun ρ a w hp=>by
  have e1:=kp hl (hx ρ a hp.dy)
  have e2:=kp ra (hy ρ a hp.dy)
  obtain⟨ti',h1,_,_,h4⟩:=xh hT hg 10 t l l' r hr 10000 w aa
  rw[ru]at h1
  cases h1
  simp only[Ni,hk]at h4
  refine⟨_, ?_,cd rfl⟩
  simp only[execOp,ho,e1,e2,Sem.run_bind,run_eqGuard_agg w .neq t x y _ _ hgd,Result.andThen_ok,run_neq_struct,h4,Sem.run_pure]
end
section
variable {P:Program} {o:Oper} {ft fr:List (Nat×SV)} {fk:List (Nat×aF)} {c c':SV}
theorem CQ {f:FuncId} {xs ys:Array Operand} {l m:List SV} (ho:o.op= .makeFunc (.func f) xs ys) (hx:IY fr xs.toList=some l) (hy:IY fr ys.toList=some m):bS P o fr fk (.clo f l m) [] []:=
 bw fun ρ a w hp=>by
  obtain⟨z,h1,h2⟩:=wJ hx ρ a hp.dy
  obtain⟨y,h3,h4⟩:=wJ hy ρ a hp.dy
  refine⟨.func (.func f) (xs.map (Act.eval a)) (ys.map (Act.eval a)),by simp[execOp,ho,Instr.makeFunc], ?_⟩
  simp only[Has,aL]
  refine⟨_,⟨z,y,h1,h3,rfl⟩, ?_⟩
  simp only[cQ,SV.bl,if_true,List.headD_cons,←h2,←h4]
  congr 1<;>(apply Array.ext';simp)
end
theorem fj {c d:SV} {l:List Value} (hc:jF c=some l) (hd:jF d=some l) (hnc:∀cs,d≠ .agg cs):au c d:=by
 intro ρ v h
 have:=kp hc h
 subst this
 cases d<;>simp only[jF,Option.some.injEq,reduceCtorEq]at hd
 case agg cs=>exact absurd rfl (hnc cs)
 all_goals (subst hd;simp only[Has,aL];exact⟨_,rfl,by simp[cQ,SV.bl]⟩)
mutual
def ZY:SV→SV→Prop
 |.ck l,.ck m=>PE l m
 |c,d=>∀ρ x,aL ρ c x→aL ρ d x∧c.bl=d.bl
def PE:List SV→List SV→Prop
 |[],[]=>True
 |c::l,d::m=>ZY c d∧PE l m
 |_,_=>False
end
theorem CR {a b a' b':SV} (h1:∀ρ x,aL ρ a x→aL ρ a' x) (i1:a.bl=a'.bl) (h2:∀ρ x,aL ρ b x→aL ρ b' x) (i2:b.bl=b'.bl):au (.ck [a,b]) (.ck [a',b']):=by
 intro ρ v h
 simp only[Has,aw]at h ⊢
 obtain⟨_,⟨x,_,rfl,hx,y,_,rfl,hy,rfl⟩,rfl⟩:=h
 exact⟨_,⟨x,_,rfl,h1 ρ x hx,y,_,rfl,h2 ρ y hy,rfl⟩,by simp[cQ,i1,i2]⟩
theorem vf {a b c a' b' c':SV} (h1:∀ρ x,aL ρ a x→aL ρ a' x) (i1:a.bl=a'.bl) (h2:∀ρ x,aL ρ b x→aL ρ b' x) (i2:b.bl=b'.bl) (h3:∀ρ x,aL ρ c x→aL ρ c' x) (i3:c.bl=c'.bl):au (.ck [a,b,c]) (.ck [a',b',c']):=by
 intro ρ v h
 simp only[Has,aw]at h ⊢
 obtain⟨_,⟨x,_,rfl,hx,y,_,rfl,hy,z,_,rfl,hz,rfl⟩,rfl⟩:=h
 exact⟨_,⟨x,_,rfl,h1 ρ x hx,y,_,rfl,h2 ρ y hy,z,_,rfl,h3 ρ z hz,rfl⟩,by simp[cQ,i1,i2,i3]⟩
theorem Hu {c d:SV} {l:List Value} (hc:jF c=some l) (hd:jF d=some l) (hnc:∀cs,d≠ .agg cs):∀ρ x,aL ρ c x→aL ρ d x:=by
 intro ρ x h
 have hx:x=l:=by
  cases c<;>simp only[jF,Option.some.injEq,reduceCtorEq]at hc<;>simp only[aL]at h
  case agg cs=>obtain⟨z,h1,rfl⟩:=h;exact qC hc h1
  all_goals (subst hc;exact h)
 subst hx
 cases d<;>simp only[jF,Option.some.injEq,reduceCtorEq]at hd
 case agg cs=>exact absurd rfl (hnc cs)
 all_goals (subst hd;simp only[aL])
theorem wrap_u64 {n:Int} (h0:0≤n) (h:n<18446744073709551616):IntKind.u64.wrap n=n:=by simp[IntKind.wrap,IntKind.bits,IntKind.signed];omega
theorem wrap_u32 {n:Int} (h0:0≤n) (h:n<4294967296):IntKind.u32.wrap n=n:=by simp[IntKind.wrap,IntKind.bits,IntKind.signed];omega
theorem wrap_i64 {n:Int} (h0: -9223372036854775808≤n) (h:n<9223372036854775808):IntKind.i64.wrap n=n:=by
 simp only[IntKind.wrap,IntKind.bits,IntKind.signed,Bool.true_and]
 split<;>simp_all<;>omega
theorem pA (n:Int):IntKind.u64.wrap n=n % 18446744073709551616:=by simp[IntKind.wrap,IntKind.bits,IntKind.signed]
theorem wrap_u32' (n:Int):IntKind.u32.wrap n=n % 4294967296:=by simp[IntKind.wrap,IntKind.bits,IntKind.signed]
theorem cu {n:Nat} (h:n<18446744073709551616):low n=n:=by simp[low,h]
theorem Hv {n:Nat} (h:n<18446744073709551616):qg n=ByteArray.empty:=by simp[qg,h]
theorem kB {n:Nat} (h:n<18446744073709551616):bR n=[.int .u64 n,.string .empty]:=by simp[bR,cu h,Hv h]
theorem Jx {x y:Nat} (hx:x<18446744073709551616) (hy:y<18446744073709551616):Ek .u64 x y=((x&&& y:Nat):Int):=by
 have:x&&& y<18446744073709551616:=Nat.lt_of_le_of_lt Nat.and_le_left hx
 show IntKind.u64.wrap (((BitVec.ofInt 64 x&&& BitVec.ofInt 64 y).toNat:Nat):Int)=_
 rw[BitVec.toNat_and,BitVec.ofInt_natCast,BitVec.ofInt_natCast,BitVec.toNat_ofNat,BitVec.toNat_ofNat,Nat.mod_eq_of_lt (a:=x) aa,Nat.mod_eq_of_lt (a:=y) aa]
 exact wrap_u64 aa aa
theorem CS {x y:Nat} (hx:x<4294967296) (hy:y<4294967296):Ek .u32 x y=((x&&& y:Nat):Int):=by
 have:x&&& y<4294967296:=Nat.lt_of_le_of_lt Nat.and_le_left hx
 show IntKind.u32.wrap (((BitVec.ofInt 32 x&&& BitVec.ofInt 32 y).toNat:Nat):Int)=_
 rw[BitVec.toNat_and,BitVec.ofInt_natCast,BitVec.ofInt_natCast,BitVec.toNat_ofNat,BitVec.toNat_ofNat,Nat.mod_eq_of_lt (a:=x) aa,Nat.mod_eq_of_lt (a:=y) aa]
 exact wrap_u32 aa aa
theorem vQ {x y:Nat} (hx:x<18446744073709551616) (hy:y<18446744073709551616):D7 .u64 x y=((x|||y:Nat):Int):=by
 have:x|||y<2^64:=Nat.or_lt_two_pow hx hy
 show IntKind.u64.wrap (((BitVec.ofInt 64 x|||BitVec.ofInt 64 y).toNat:Nat):Int)=_
 rw[BitVec.toNat_or,BitVec.ofInt_natCast,BitVec.ofInt_natCast,BitVec.toNat_ofNat,BitVec.toNat_ofNat,Nat.mod_eq_of_lt (a:=x) aa,Nat.mod_eq_of_lt (a:=y) aa]
 exact wrap_u64 aa aa
theorem jm (k:IntKind) {x s:Nat} (hs:s≤k.bits):jK k x s=((x/2^s:Nat):Int):=by
 simp only[jK,Int.toNat_natCast,Nat.min_eq_left hs]
 rw[Int.fdiv_eq_ediv_of_nonneg _ (by exact Int.le_of_lt (Int.pow_pos aI))]
 simp
end Go.Sx
namespace Go.Sx
def sz (n:Nat):Nat:=if n=0 then 0 else Nat.log2 n+1
theorem fo {n k:Nat}:sz n≤k↔n<2^k:=by
 unfold sz
 split
 ·rename_i h;subst h;simp[Nat.two_pow_pos]
 ·rename_i h
  rw[←Nat.log2_lt h]
  omega
theorem F3 (n:Nat):n<2^sz n:=fo.1 (Nat.le_refl _)
theorem fK {a b:Nat} (h:a≤b):sz a≤sz b:=fo.2 (Nat.lt_of_le_of_lt h (F3 b))
theorem xi {a b k:Nat} (ha:sz a≤k) (hb:sz b≤k):sz (a+b)≤k+1:=by
 rw[fo]at*
 rw[Nat.pow_succ]
 omega
theorem fX (a b:Nat):sz (a*b)≤sz a+sz b:=by
 rw[fo,Nat.pow_add]
 rcases Nat.eq_zero_or_pos a with h|h
 ·subst h;rw[Nat.zero_mul];exact Nat.mul_pos (Nat.two_pow_pos _) (Nat.two_pow_pos _)
 ·exact Nat.mul_lt_mul_of_lt_of_le (F3 a) (Nat.le_of_lt (F3 b)) (by have:=F3 b;omega)
theorem Jy (a b:Nat):sz (a/b)≤sz a:=fK (Nat.div_le_self a b)
theorem Jz {n:Nat} (h:n≠0):1≤sz n:=by unfold sz;rw[if_neg h];omega
theorem JA {a b:Nat} (h:b≠0):sz (Nat.gcd a b)≤sz b:=fK (Nat.le_of_dvd (Nat.pos_of_ne_zero h) (Nat.gcd_dvd_right a b))
theorem ag {b w w':Bool} {A B:Prop} (h:b=w) (hn:(w==w')=false) (a:A):(b=w→A)∧(b=w'→B):=⟨fun _=>a,fun h'=>absurd (h.symm.trans h') (by simpa using hn)⟩
theorem ae {b w w':Bool} {A B:Prop} (h:b=w') (hn:(w==w')=false) (a:B):(b=w→A)∧(b=w'→B):=⟨fun h'=>absurd (h'.symm.trans h) (by simpa using hn),fun _=>a⟩
theorem aq {ops:List Oper} {fs:List fW} {A:Prop} (ht:indep ops fs=true) (h:A):(indep ops fs=true)∧A:=And.intro ht h
section
variable {P:Program} {o:Oper} {ft:List (Nat×SV)} {fk:List (Nat×aF)}
theorem JB {x y z:Operand} {c:SV} (ho:o.op= .pick x y z) (hx:bp ft x (.val (.bool true))) (hy:bp ft y c):bS P o ft fk c [] []:=l7 ho hx (fun _=>hy) (fun hb=>by cases hb) rfl (c2:=.any)
theorem JC {x y z:Operand} {c:SV} (ho:o.op= .pick x y z) (hx:bp ft x (.val (.bool false))) (hy:bp ft z c):bS P o ft fk c [] []:=l7 ho hx (fun hb=>by cases hb) (fun _=>hy) rfl (c1:=.any)
end
end Go.Sx
namespace Go.Sx
open Go.ChangeShapes
theorem ab.calls {P:Program} {f:FuncId} {args:List SV} {fk:List (Nat×aF)} {c:SV} {new upd:List (Nat×aF)} (hf:Cr P f) (h:ab P f args fk c new upd)
  {ρ:bU} {w:World} {z:List (List Value)} (hz:aw ρ args z) (hp:oB fk new ρ w):
  Calls P f (List.zipWith cQ args z).toArray w fun e w'=>∃v ρ',e= .returned v∧jH ρ w c new upd v ρ' w':=by
 rcases h with⟨_,h⟩|h
 ·exact h ρ w z hz hp
 ·obtain⟨v,ρ',w',h1,_⟩:=h ρ w z hz hp
  obtain⟨fn,hfn,hn,hb⟩:=hf
  have Zn:¬fn.name= "runtime.NumGoroutine" :=by simpa using hn
  have gu:¬fn.body=none:=fun h=>by rw[h]at hb;cases hb
  simp[callFunc,hfn,Zn,gu]at h1
theorem cell_of_heap {w W:World} {g:Nat} (h:w.heap[g]? =W.heap[g]?) (j:Nat):w.cell? ⟨g,j,none⟩=W.cell? ⟨g,j,none⟩:=by
 simp only[World.cell?,h]
theorem Nj {W:World} (h:wC W):
  iJ (fun b=>if mz.any (fun t=>t.1==b)then W.heap[b]? else none):=by
 intro g kd l hm
 obtain⟨bW,hc,ty,fz,hx⟩:=h g kd l hm
 have yM:mz.any (fun t=>t.1==g)=true:=List.any_eq_true.2 ⟨_,hm,by simp⟩
 cases l with
 |nil=>exact absurd rfl bW
 |cons x l=>
  have h0:=hc 0 x rfl
  cases ho:W.heap[g]? with
  |none=>simp[World.cell?,ho]at h0
  |some o=>
   refine⟨o,by simp[yM,ho],fun w hw j y hy=> ?_,ty,fz,by rw[ho]at hx;exact Option.some.inj hx⟩
   rw[cell_of_heap (W:=W) (by rw[hw,ho]) j]
   exact hc j y hy
theorem qj {H:Type} {enc:TypeId×Value→H} {P:Program} (hl:laidOutB P=true) {W W':World} (hb:RowKit.Below W.heap.size W W'):
  ∀(ts:List TypeId) (vs:List Value) (ds:List (DataW H)) (ps:List MemPlace),ts.all (fun t=>P.readableRec t&&decide (t<P.types.size))=true→DataW.TrodAll enc P W 0 (fun _=>true) true ts vs ds ps→(∀p∈ps,p.block<W.heap.size)→
   DataW.TrodAll enc P W' 0 (fun b=>decide (b<W.heap.size)) true ts vs ds ps
 |[],[],[],_,_,h,_=>h
 |t::ts,v::vs,d::ds,ps,hr,h,aE=>by
  obtain⟨p,q,h1,h2,rfl⟩:=h
  simp only[List.all_cons,Bool.and_eq_true,decide_eq_true_eq]at hr
  exact⟨p,q,RowKit.Below.trod hl hr.1.1 hr.1.2 h1 hb (fun x hx=>aE x (List.mem_append.2 (.inl hx))),qj hl hb ts vs ds q hr.2 h2 (fun x hx=>aE x (List.mem_append.2 (.inr hx))),rfl⟩
 |[],_::_,_,_,_,h,_=>h.elim
 |[],[],_::_,_,_,h,_=>h.elim
 |_::_,[],_,_,_,h,_=>h.elim
 |_::_,_::_,[],_,_,h,_=>h.elim
theorem JD {H:Type} {enc:TypeId×Value→H} {P:Program} {f:Func} {s:ChangeSpec} {W W':World} {args:Array Value} {ds gs:List (DataW H)} {before:List MemPlace} {tb:TypeId}
  (hl:laidOutB P=true) (hr:f.params.toList.all (fun t=>P.readableRec t&&decide (t<P.types.size))=true) (hv:s.vars=[]) (RV:f.resultTypes= #[tb]) (htb:P.underlying tb=some .bool)
  (hW:DataW.Whole enc P f.params.toList s.vars false W args.toList ds gs before) (hfn:(s.fn H (ds++gs)).results=[.lit (.bool true)]∧(s.fn H (ds++gs)).args=ds∧(s.fn H (ds++gs)).vars=[])
  (hb:RowKit.Below W.heap.size W W'):s.post enc P f false true false false W args (.bool true) W':=by
 have aE:=hW.lt
 have hW':=hW
 obtain⟨p,q,h1,h2,rfl,h3,h4⟩:=hW
 rw[hv]at h2
 obtain⟨rfl,rfl⟩:=trodVars_none h2
 rw[List.append_nil]at aE
 refine⟨ds,[],p++[],[],p,[],hW', ?_, ?_, ?_,hb.frame _,fun h=>by cases h⟩
 ·rw[hfn.1,RV]
  exact trodAll_cons_mk (RowKit.shut_bool htb true) trodAll_mk0
 ·rw[hfn.2.1]
  exact qj hl hb _ _ _ _ hr h1 aE
 ·rw[hv,hfn.2.2]
  exact rfl
end Go.Sx
namespace Go.Sx
theorem ey.of {E:Env} (hE:E.OK) {c:Code} {K:bI} {fr:List (Nat×SV)} {hp:List (Nat×aF)} (h:A6 E c K fr hp):ey E c K fr hp:=⟨iN hE c K fr hp h⟩
theorem dE {E:Env} (hE:E.OK) {c:Code} {K:bI} {fr:List (Nat×SV)} {hp:List (Nat×aF)} (σ:Nat→Nat) (ts ks:List Nat) (I:Nat→List (Nat×SV)→List (Nat×aF)→Prop) (m:Nat)
  (h0:ig E.fx σ ts ks fr hp=true) (hI:I m (fg σ fr ts) (gJ σ hp ks))
  (h:∀m fr hp,I m fr hp→ey E c (fun e fr' cc=>match e with
   |.normal=>∃m' σ ts ks,m'<m∧ig E.fx σ ts ks fr' cc=true∧I m' (fg σ fr' ts) (gJ σ cc ks)
   |e=>K e fr' cc) fr hp):ey E (.loop c) K fr hp:=by
 refine⟨?_⟩
 refine vP hE σ ts ks h0 (A8 (fun m fr hp=>∃fr0 n7,(∀a w,RR E (fn fr hp) a w→RR E (fn fr0 n7) a w)∧I m fr0 n7) m ⟨_,_,fun _ _ h=>h,hI⟩ ?_)
 rintro m fr hp ⟨fr0,n7,hw,hI⟩ a w hR
 refine Code.wpIn_mono ?_ ((h m fr0 n7 hI).run a w (hw a w hR))
 rintro e a' w' ⟨fr',cc,h1,h2⟩
 cases e with
 |normal=>
  obtain⟨m',σ,ts,ks,aE,IF,hI'⟩:=h1
  exact⟨fr',cc,⟨m',aE,_,_,fun a w hR=>py hE IF hR,hI'⟩,h2⟩
 |_=>exact⟨fr',cc,h1,h2⟩
def im:Data→Option (List SV)
 |.ints kd xs=>some (xs.map fun x=>.val (.int kd x))
 |.cb xs=>some (xs.map .frac)
 |.seq _ xs=>some xs
 |_=>none
theorem xj {ρ:bU}:∀(qs:List Rat),aw ρ (qs.map .frac) (qs.map bD)
 |[]=>by simp[aw]
 |q::qs=>by simp only[List.map_cons,aw];exact⟨_,_,rfl,by simp[aL],xj qs⟩
theorem zE {ρ:bU} {kd:IntKind}:∀(xs:List Int),aw ρ (xs.map fun x=>.val (.int kd x)) (xs.map fun x=>[.int kd x])
 |[]=>by simp[aw]
 |x::xs=>by simp only[List.map_cons,aw];exact⟨_,_,rfl,by simp[aL,Value.oneCell'],zE xs⟩
theorem Hw {ρ:bU} {d:Data} {w:Nat} {xs:List SV} {vs:List Value} (h:im d=some xs) (hw:cZ d=some w) (hd:da ρ d vs):∃z,aw ρ xs z∧vs=z.flatten∧∀x∈xs,x.width=w:=by
 cases d<;>simp only[im,Option.some.injEq,reduceCtorEq]at h<;>simp only[cZ,Option.some.injEq]at hw<;>subst h<;>subst hw<;>simp only[da]at hd
 case ints kd xs=>
  subst hd
  exact⟨_,zE xs,by rw[←List.flatMap_def,List.map_eq_flatMap],fun x hx=>by obtain⟨q,_,rfl⟩:=List.mem_map.1 hx;rfl⟩
 case cb xs=>
  subst hd
  exact⟨_,xj xs,by rw[List.flatMap_def],fun x hx=>by obtain⟨q,_,rfl⟩:=List.mem_map.1 hx;rfl⟩
 case seq=>obtain⟨z,h1,h2⟩:=hd;exact⟨z,aw.mono (oo ρ ρ.cw) _ _ h1,h2⟩
structure Up (ρ:bU) (w:World) (B:Nat) (i:Nat→Option Obj):Prop where
 le:∀b o,ρ.bf b=some o→i b=some o
 new:∀b o,i b=some o→ρ.bf b=some o∨(B≤b∧w.heap[b]? =some o)
structure Holds (hp:List (Nat×aF)) (ρ:bU) (w:World) (B:Nat):Prop where
 blk:∀k b,find hp k=some b→hO ρ w k b
 own:∀k b x,find hp k=some b→b.wr=true→b.data.live=true→ρ.key k=some x→B≤x.1
 bf:∀b o,ρ.bf b=some o→w.heap[b]? =some o
def dF (hp:List (Nat×aF)) (c d:SV):Prop:=c.bl=d.bl∧∀ρ w B,Holds hp ρ w B→∀x,aL ρ c x→∀i,Up ρ w B i→∃i',Up ρ w B i'∧(∀b o,i b=some o→i' b=some o)∧∃hg,aL (cR i' hg) d x
def kC (hp:List (Nat×aF)) (c d:List SV):Prop:=(∀z,List.zipWith cQ c z=List.zipWith cQ d z)∧∀ρ w B,Holds hp ρ w B→∀z,aw ρ c z→∀i,Up ρ w B i→∃i',Up ρ w B i'∧(∀b o,i b=some o→i' b=some o)∧∃hg,aw (cR i' hg) d z
def mu (sv:SV) (hp:List (Nat×aF)) (c:SV):Prop:=∀(ρ:bU) (w:World) (B:Nat),(∀k b,find hp k=some b→hO ρ w k b)→(∀k b x,find hp k=some b→b.wr=true→b.data.live=true→ρ.key k=some x→B≤x.1)→(∀b o,ρ.bf b=some o→w.heap[b]? =some o)→
 ∀v,Has ρ sv v→∃i hg,(∀b o,ρ.bf b=some o→i b=some o)∧(∀b o,i b=some o→ρ.bf b=some o∨(B≤b∧w.heap[b]? =some o))∧Has (cR i hg) c v
theorem Up.cw {ρ:bU} {w:World} {B:Nat} {i:Nat→Option Obj} (h:Up ρ w B i):iJ i:=ρ.cw.mono h.le
theorem Up.refl (ρ:bU) (w:World) (B:Nat):Up ρ w B ρ.bf:=⟨fun _ _ h=>h,fun _ _ h=>.inl h⟩
theorem EA {c d:SV} (h:c.bl=d.bl) (x:List Value):cQ c x=cQ d x:=by simp[cQ,h]
theorem dF.bP {hp:List (Nat×aF)} {c:SV} (h:bP c=true):dF hp c c:=
 ⟨rfl,fun ρ _ _ _ x hx i hi=>⟨i,hi,fun _ _ h=>h,hi.cw,lN (ρ:=ρ) (ρ':=cR i hi.cw) hi.le c x h hx⟩⟩
theorem dF.via {hp:List (Nat×aF)} {c d e:SV} (h:∀ρ x,aL ρ c x→aL ρ d x) (h1:c.bl=d.bl) (hd:dF hp d e):dF hp c e:=
 ⟨h1.trans hd.1,fun ρ w B hh x hx i hi=>hd.2 ρ w B hh x (h ρ x hx) i hi⟩
theorem kC.nil {hp:List (Nat×aF)}:kC hp [] []:=⟨fun z=>rfl,fun ρ w B _ z hz i hi=>⟨i,hi,fun _ _ h=>h,hi.cw,by simpa only[aw]using hz⟩⟩
theorem kC.cons {hp:List (Nat×aF)} {c d:SV} {l m:List SV} (h:dF hp c d) (hl:kC hp l m):kC hp (c::l) (d::m):=by
 refine⟨fun z=>by cases z with|nil=>rfl|cons x z=>simp only[List.zipWith_cons_cons,hl.1 z,EA h.1],fun ρ w B hh z hz i hi=> ?_⟩
 simp only[aw]at hz
 obtain⟨x,r,rfl,h1,h2⟩:=hz
 obtain⟨i1,u1,e1,g1,k1⟩:=h.2 ρ w B hh x h1 i hi
 obtain⟨i2,u2,e2,g2,k2⟩:=hl.2 ρ w B hh r h2 i1 u1
 exact⟨i2,u2,fun b o hb=>e2 b o (e1 b o hb),g2,by simp only[aw];exact⟨x,r,rfl,aL.mono (rf e2 g1 g2) _ _ k1,k2⟩⟩
theorem dF.agg {hp:List (Nat×aF)} {l m:List SV} (h:kC hp l m):dF hp (.agg l) (.agg m):=
 ⟨rfl,fun ρ w B hh x hx i hi=>by
  simp only[aL]at hx
  obtain⟨z,h1,rfl⟩:=hx
  obtain⟨i',u,e,g,k⟩:=h.2 ρ w B hh z h1 i hi
  exact⟨i',u,e,g,by simp only[aL];exact⟨z,k,rfl⟩⟩⟩
theorem mu.one {hp:List (Nat×aF)} {c d:SV} (hc:bx c=true) (hd:bx d=true) (h:dF hp c d):mu c hp d:=by
 intro ρ w B h1 h2 h3 v hv
 obtain⟨x,hx,rfl⟩:=(iW hc).1 hv
 obtain⟨i,u,_,g,k⟩:=h.2 ρ w B ⟨h1,h2,h3⟩ x hx ρ.bf (Up.refl ρ w B)
 exact⟨i,g,u.le,u.new,(iW hd).2 ⟨x,k,EA h.1 x⟩⟩
theorem mu.ck {hp:List (Nat×aF)} {l m:List SV} (h:kC hp l m):mu (.ck l) hp (.ck m):=by
 intro ρ w B h1 h2 h3 v hv
 simp only[Has]at hv
 obtain⟨z,hz,rfl⟩:=hv
 obtain⟨i,u,_,g,k⟩:=h.2 ρ w B ⟨h1,h2,h3⟩ z hz ρ.bf (Up.refl ρ w B)
 exact⟨i,g,u.le,u.new,by simp only[Has];exact⟨z,k,by rw[h.1]⟩⟩
theorem mu.kF {hp:List (Nat×aF)} {c d:SV} (h:au c d) (hk:bP d=true):mu c hp d:=by
 intro ρ w B h1 h2 h3 v hv
 exact⟨ρ.bf,ρ.cw,fun _ _ h=>h,fun _ _ h=>.inl h,nt (ρ:=ρ) (ρ':=cR ρ.bf ρ.cw) (fun _ _ h=>h) d v hk (h ρ v hv)⟩
theorem Up.add {ρ:bU} {w:World} {B b:Nat} {o:Obj} {i:Nat→Option Obj} (hi:Up ρ w B i) (hm:∀b o,ρ.bf b=some o→w.heap[b]? =some o) (hb:B≤b) (ho:w.heap[b]? =some o):
  Up ρ w B (fun c=>if c=b then some o else i c)∧∀c p,i c=some p→(if c=b then some o else i c)=some p:=by
 have h2:∀c p,i c=some p→(if c=b then some o else i c)=some p:=by
  intro c p hc
  by_cases h:c=b
  ·subst h
   rw[if_pos rfl]
   rcases hi.new _ _ hc with h1|h1
   ·rw[hm _ _ h1]at ho;cases ho;rfl
   ·rw[h1.2]at ho;cases ho;rfl
  ·rw[if_neg h];exact hc
 refine⟨⟨fun c p hc=>h2 c p (hi.le c p hc),fun c p hc=> ?_⟩,h2⟩
 by_cases h:c=b
 ·subst h
  simp only[if_true,Option.some.injEq]at hc
  subst hc
  exact .inr ⟨hb,ho⟩
 ·simp only[if_neg h]at hc
  exact hi.new c p hc
theorem Bc {xs:List SV} (h:bn xs=true) (l n:Nat):bn (gY xs l n)=true:=by
 have key:∀xs:List SV,bn xs=true↔∀x∈xs,bP x=true:=by
  intro xs
  induction xs with
  |nil=>simp[bn]
  |cons x xs ih=>simp[bn,ih]
 rw[key]at h ⊢
 exact fun x hx=>h x (List.mem_of_mem_drop (List.mem_of_mem_take hx))
theorem bN {α:Type} {f:α→SV} (h:∀x,bP (f x)=true) (l:List α):bn (l.map f)=true:=by
 induction l with
 |nil=>rfl
 |cons x l ih=>simp[bn,h,ih]
theorem qD {k w n i:Nat} {ty:TypeId} {d:Data} {xs:List SV} {ρ:bU} {W:World} {x:List Value} (hb:hO ρ W k ⟨ty,true,d⟩) (he:im d=some xs) (hw:cZ d=some w) (od:bn xs=true)
  (hn:i+n≤xs.length) (hx:aL ρ (.aO k w i n) x):
  (n=0∧∃a,x=[.slice a 0 0])∨∃b t o,ρ.key k=some (b,t)∧W.heap[b]? =some o∧∀j hg,(∀b o,ρ.bf b=some o→j b=some o)→j b=some o→aL (cR j hg) (eI w (gY xs i (i+n))) x:=by
 simp only[aL]at hx
 rcases hx with⟨b,t,cap,h1,h2,h3,rfl⟩|hx
 ·rcases hb with h0|⟨b',t',vs,ex,g1,g2,g3,g4,g5⟩|⟨g1,_⟩
  ·cases d<;>simp[Data.live,im]at h0 he
  ·rw[h1]at g1
   cases g1
   rw[show({ty:=ty,wr:=true,data:=d}:aF).data.obj (vs++ex) ty= .cells (vs++ex).toArray ty (0,0)from Data.cT (by cases d<;>first|rfl|(simp[im]at he)) _ _]at g2
   obtain⟨z,z1,rfl,z3⟩:=Hw he hw g3
   have qu:z.length=xs.length:=cV z1
   have PA:=eZ xs z z1 z3
   refine .inr ⟨b,t,_,h1,g2,fun j hg hj hjb=> ?_⟩
   simp only[aL]
   refine .inr ⟨hg,b,cap,(z.drop i).take (i+n - i),(z.take i).flatten,(z.drop (i+n)).flatten++ex,ty,(0,0), ?_, ?_,fun y hy=>z3 y (List.mem_of_mem_drop (List.mem_of_mem_take hy)), ?_, ?_, ?_⟩
   ·show j b=_
    rw[hjb]
    congr 3
    rw[←List.append_assoc,←List.append_assoc,←List.flatten_append,←List.flatten_append]
    congr 2
    have:z.drop (i+n)=(z.drop i).drop (i+n - i):=by rw[List.drop_drop];congr 1;omega
    rw[this,List.append_assoc,List.take_append_drop,List.take_append_drop]
   ·exact cl (ρ:=ρ) (ρ':=cR j hg) hj _ _ (Bc od i (i+n)) (iK _ (jW _ z1))
   ·rw[gY,List.length_take,List.length_drop];omega
   ·have gW:((z.take i).flatten).length=i*w:=by
     rw[aQ (s:=w) _ (fun u hu=>PA u (List.mem_of_mem_take hu)),List.length_take,qu,Nat.min_eq_left aa]
    have ady:(z.flatten++ex).length=((z.take i).flatten).length+(((z.drop i).take (i+n - i)).flatten++((z.drop (i+n)).flatten++ex)).length:=by
     rw[←List.length_append,←List.append_assoc,←List.append_assoc,←List.flatten_append,←List.flatten_append]
     congr 3
     have:z.drop (i+n)=(z.drop i).drop (i+n - i):=by rw[List.drop_drop];congr 1;omega
     rw[this,List.append_assoc,List.take_append_drop,List.take_append_drop]
    rw[g4,gW]at ady
    rw[Nat.add_mul]at h3
    omega
   ·have gW:((z.take i).flatten).length=i*w:=by
     rw[aQ (s:=w) _ (fun u hu=>PA u (List.mem_of_mem_take hu)),List.length_take,qu,Nat.min_eq_left aa]
    have Cc:(gY xs i (i+n)).length=n:=by rw[gY,List.length_take,List.length_drop];omega
    rw[gW,Cc]
  ·rw[h1]at g1;cases g1
 ·exact .inl hx
theorem dF.aO {hp:List (Nat×aF)} {k w n i:Nat} {ty:TypeId} {d:Data} {xs:List SV} (hf:find hp k=some ⟨ty,true,d⟩) (he:im d=some xs) (hw:cZ d=some w) (od:bn xs=true) (hn:i+n≤xs.length):
  dF hp (.aO k w i n) (eI w (gY xs i (i+n))):=by
 refine⟨rfl,fun ρ W B hh x hx i' hi=> ?_⟩
 have hl:d.live=true:=by cases d<;>simp[im]at he<;>rfl
 rcases qD (hh.blk k _ hf) he hw od hn hx with⟨rfl,a,rfl⟩|⟨b,t,o,h1,h2,h3⟩
 ·exact⟨i',hi,fun _ _ h=>h,hi.cw,by simp only[aL];exact .inl ⟨by simp[gY],a,rfl⟩⟩
 ·obtain⟨u,Hn⟩:=hi.add hh.bf (hh.own k _ _ hf rfl hl h1) h2
  exact⟨_,u,Hn,u.cw,h3 _ u.cw u.le (by simp)⟩
theorem gi {xs:List SV} {n:Nat} (h:n=xs.length):gY xs 0 (0+n)=xs:=by
 subst h;simp[gY]
abbrev bF {α:Type} (w:Nat) (f:α→SV) (xs:List α):SV:=eI w (xs.map f)
abbrev aN (qs:List Rat):SV:=bF 5 .frac qs
def jv (kd:IntKind) (x:Int):SV:=.val (.int kd x)
abbrev cO (kd:IntKind) (xs:List Int):SV:=bF 1 (jv kd) xs
theorem dF.cb {hp:List (Nat×aF)} {k n:Nat} {ty:TypeId} {qs:List Rat} (hf:find hp k=some ⟨ty,true,.cb qs⟩) (hn:n=qs.length):dF hp (.aO k 5 0 n) (aN qs):=by
 have:=dF.aO (i:=0) (n:=n) hf rfl rfl (bN (fun _=>rfl) qs) (by simp;omega)
 rwa [gi (by simp;omega)]at this
theorem dF.ints {hp:List (Nat×aF)} {k n:Nat} {ty:TypeId} {kd:IntKind} {xs:List Int} (hf:find hp k=some ⟨ty,true,.ints kd xs⟩) (hn:n=xs.length):dF hp (.aO k 1 0 n) (cO kd xs):=by
 have:=dF.aO (i:=0) (n:=n) hf rfl rfl (bN (fun _=>rfl) xs) (by simp;omega)
 rwa [gi (by simp;omega)]at this
theorem dF.seq {hp:List (Nat×aF)} {k n w:Nat} {ty:TypeId} {xs:List SV} (hf:find hp k=some ⟨ty,true,.seq w xs⟩) (od:bn xs=true) (hn:n=xs.length):dF hp (.aO k w 0 n) (eI w xs):=by
 have:=dF.aO (i:=0) (n:=n) hf rfl rfl od aa
 rwa [gi hn]at this
theorem dF.R9 {hp:List (Nat×aF)} {w:Nat} {a:Option Addr}:dF hp (.val (.slice a 0 0)) (eI w []):=
 dF.via (d:=eI w []) (fun ρ x hx=>by simp only[aL]at hx ⊢;exact .inl ⟨rfl,a,hx.1⟩) rfl (dF.bP rfl)
theorem kG {E:Env} (t k:Nat) {c:Code} {K:bI} {fr:List (Nat×SV)} {hp:List (Nat×aF)} {ty:TypeId} {d:Data} {w i n:Nat} {xs:List SV} (hW:∀b,¬E.W0 b) (ht:lk fr t=some (.aO k w i n)) (hk:find hp k=some ⟨ty,true,d⟩)
  (he:im d=some xs) (hw:cZ d=some w) (od:bn xs=true) (hn:i+n≤xs.length) (hs:ey E c K ((t,eI w (gY xs i (i+n)))::fr) (ff hp k ⟨ty,true,.dead⟩)):ey E c K fr hp:=by
 refine⟨fun a W hR=>hs.run a W ?_⟩
 have hl:d.live=true:=by cases d<;>simp[im]at he<;>rfl
 obtain⟨ρ,hext,hfx,hR⟩:=hR
 have Ci:(fn fr hp (.k k)).blk=some ⟨ty,true,d⟩:=by simp only[fn,LV.blk];exact hk
 have hv:=hR.fr t _ (by simp only[fn,LV.sv];exact ht)
 obtain⟨x,hx,hxv⟩:=(iW (c:=.aO k w i n) rfl).1 hv
 have ek:∀j b,(fn ((t,eI w (gY xs i (i+n)))::fr) (ff hp k ⟨ty,true,.dead⟩) (.k j)).blk=some b→(j=k∧b=⟨ty,true,.dead⟩)∨(j≠k∧(fn fr hp (.k j)).blk=some b):=by
  intro j b hb
  simp only[fn,LV.blk,cq]at hb ⊢
  by_cases hj:j=k
  ·rw[if_pos hj]at hb;exact .inl ⟨hj,(Option.some.inj hb).symm⟩
  ·rw[if_neg hj]at hb;exact .inr ⟨hj,hb⟩
 have fin:∀ρ':bU,ρ'.key=ρ.key→(∀b o,ρ.bf b=some o→ρ'.bf b=some o)→(∀b o,ρ'.bf b=some o→ρ.bf b=some o∨E.w0.heap.size≤b)→(∀b o,ρ'.bf b=some o→W.heap[b]? =some o)→
   (∀j b x,j≠k→(fn fr hp (.k j)).blk=some b→b.wr=true→b.data.live=true→ρ.key j=some x→ρ'.bf x.1=none)→(∀D,W.heap[D]? =some (.deferred (some []))→ρ.bf D=none→ρ'.bf D=none)→Has ρ' (eI w (gY xs i (i+n))) (a.tmps.getD t undef)→
   RR E (fn ((t,eI w (gY xs i (i+n)))::fr) (ff hp k ⟨ty,true,.dead⟩)) a W:=by
  intro ρ' b9 himm eX hheap jg hmark hhas
  have hle:ρ.Le ρ':=⟨fun j y hy=>by rw[b9];exact hy,himm⟩
  refine⟨ρ',⟨hext.le.trans hle,fun b o hb=>(eX b o hb).elim (fun h=>hext.bf b o h) .inr,fun j hj=>by rw[b9];exact hext.fix j hj⟩,fun j hj=> ?_,{defers:= ?_,size:=hR.size,fr:= ?_,bK:=hR.bK,hp:= ?_}⟩
  ·have:=hfx j hj
   simp only[fn,LV.blk,cq]at this ⊢
   split
   ·simp
   ·exact this
  ·obtain⟨Ds,d1,d2,d3⟩:=hR.defers
   refine⟨Ds,d1,d2,fun D hD=> ?_⟩
   obtain⟨e1,e2,e3⟩:=d3 D hD
   refine⟨e1,e2, ?_⟩
   exact hmark D e2 e3
  ·intro u sv hu
   simp only[fn,LV.sv,lk]at hu
   cases hb:Nat.beq t u with
   |true=>
    rw[hb]at hu
    simp only[Option.some.injEq]at hu
    subst hu
    rw[←Nat.eq_of_beq_eq_true hb]
    exact hhas
   |false=>rw[hb]at hu;exact Has.mono hle _ _ (hR.fr u sv (by simp only[fn,LV.sv];exact hu))
  ·constructor
   ·intro j b hb
    rcases ek j b hb with⟨rfl,rfl⟩|⟨hj,hb⟩
    ·exact .inl rfl
    ·rcases hR.hp.blk j b hb with g0|⟨b',t',vs,ex,g1,g2,g3,g4⟩|⟨g1,g2⟩
     ·exact .inl g0
     ·exact .inr (.inl ⟨b',t',vs,ex,by rw[b9];exact g1,g2,g3.mono hle,g4⟩)
     ·exact .inr (.inr ⟨by rw[b9];exact g1,g2⟩)
   ·intro j j' y y' b b' hy Eo bW hyy hb gu eR iC
    rw[b9]at hy Eo
    rcases ek j b hb with⟨_,rfl⟩|⟨_,hb⟩
    ·cases eR
    rcases ek j' b' gu with⟨_,rfl⟩|⟨_,gu⟩
    ·cases iC
    exact hR.hp.sep j j' y y' b b' hy Eo bW hyy hb gu eR iC
   ·intro j b y hb hwr eR hy
    rw[b9]at hy
    rcases ek j b hb with⟨_,rfl⟩|⟨_,hb⟩
    ·cases eR
    exact hR.hp.own j b y hb hwr eR hy
   ·intro j y hy
    rw[b9]at hy
    obtain⟨b,hb⟩:=hR.hp.ug j y hy
    simp only[fn,LV.blk,cq]at hb ⊢
    split
    ·exact⟨_,rfl⟩
    ·exact⟨b,hb⟩
   ·exact hheap
   ·intro j b y hb hwr eR hy
    rw[b9]at hy
    rcases ek j b hb with⟨_,rfl⟩|⟨hj,hb⟩
    ·cases eR
    exact jg j b y hj hb hwr eR hy
 rcases qD (hR.hp.blk k _ Ci) he hw od hn hx with⟨rfl,ad,rfl⟩|⟨b,t',o,h1,h2,h3⟩
 ·refine fin ρ rfl (fun _ _ h=>h) (fun _ _ h=>.inl h) hR.hp.bf (fun j b y _ hb hwr eR hy=>hR.hp.eV j b y hb hwr eR hy) (fun _ _ h=>h) ?_
  rw[hxv]
  exact vN (.inl ⟨by simp[gY],ad,by simp[cQ,SV.bl]⟩)
 ·have hB:E.w0.heap.size≤b:=(hR.hp.own k _ _ Ci rfl hl h1).resolve_right (hW _)
  obtain⟨u,Hn⟩:=(Up.refl ρ W E.w0.heap.size).add hR.hp.bf hB h2
  refine fin ⟨ρ.key,_,u.cw⟩ rfl u.le (fun b o hb=>(u.new b o hb).imp id (fun h=>h.1)) (fun c p hc=> ?_) (fun j blk y hj hb hwr eR hy=> ?_) (fun D Nk hD2=> ?_) ?_
  ·rcases u.new c p hc with h|h
   ·exact hR.hp.bf c p h
   ·exact h.2
  ·show(if y.1=b then some o else ρ.bf y.1)=none
   rw[if_neg]
   ·exact hR.hp.eV j blk y hb hwr eR hy
   ·intro he2
    have:=hR.hp.sep k j (b,t') y _ _ h1 hy (fun h=>hj h.symm) he2.symm Ci hb hl eR
    cases this
  ·show(if D=b then some o else ρ.bf D)=none
   rw[if_neg,hD2]
   rintro rfl
   rcases hR.hp.blk k _ Ci with g0|⟨b',t'',vs,ex,g1,g2,_⟩|⟨g1,_⟩
   ·rw[show Data.live d=false from g0]at hl;cases hl
   ·rw[h1]at g1;cases g1;rw[Nk]at g2;exact Data.jG (Option.some.inj g2).symm
   ·rw[h1]at g1;cases g1
  ·rw[hxv]
   refine(iW (c:=eI w (gY xs i (i+n))) rfl).2 ⟨x, ?_,by simp[cQ,SV.bl,Hk]⟩
   exact aL.mono (oo ⟨ρ.key,_,u.cw⟩ u.cw) _ _ (h3 _ u.cw u.le (by simp))
theorem ZZ {P:Program} {T:List (TypeId×TI)} {Z:List Nat} (hT:ic P T) (hm:P.follows .mixedOrders=true) {f:FuncId} {fn':Func} {code:Code} (hf:P.funcs[f]? =some fn') (hb:fn'.body=some code)
  (hn:(fn'.name== "runtime.NumGoroutine")=false) {args:List SV} {c:SV} (ha:bn args=true) (hc:bP c=true) (hnt:Nat.ble args.length fn'.ntmps=true) (hpass:args.all bx=true)
  (h:∀w0 ρ0,Env.OK ⟨P,T,fun _=>False,w0,fn'.ntmps,ρ0,[],Z,none⟩→A6 ⟨P,T,fun _=>False,w0,fn'.ntmps,ρ0,[],Z,none⟩ code (IE T fn'.results.toList fun sv hp=>mu sv hp c) (enum 0 args) []):ab P f args [] c [] []:=by
 have Jh:=Nat.le_of_ble_eq_true hnt
 refine .inl ⟨⟨fn',hf,hn,by rw[hb];rfl⟩,fun ρ w z hz Ea=> ?_⟩
 let ρ1:bU:=⟨fun _=>none,ρ.bf,ρ.cw⟩
 let E:Env:=⟨P,T,fun _=>False,w,fn'.ntmps,ρ1,[],Z,none⟩
 have hE:E.OK:=⟨hT,hm,fun k x hx=>by cases hx⟩
 have qu:z.length=args.length:=by
  clear h hnt Jh hpass ha
  induction args generalizing z with
  |nil=>simp only[aw]at hz;subst hz;rfl
  |cons c l ih=>simp only[aw]at hz;obtain⟨x,r,rfl,_,h⟩:=hz;simp[ih r h]
 have Ji:=cl (ρ:=ρ) (ρ':=ρ1) (fun b o hb=>hb) args z ha hz
 have mJ:∀(l:List SV) (y:List (List Value)),aw ρ1 l y→l.all bx=true→∀(j:Nat) (c:SV),l[j]? =some c→∃v,(List.zipWith cQ l y)[j]? =some v∧Has ρ1 c v:=by
  intro l
  induction l with
  |nil=>intro y _ _ j c h;simp at h
  |cons d l ih=>
   intro y hy hp j c hj
   simp only[aw]at hy
   obtain⟨x,r,rfl,g1,g2⟩:=hy
   simp only[List.all_cons,Bool.and_eq_true]at hp
   cases j with
   |zero=>
    simp at hj
    subst hj
    refine⟨cQ d x,by simp, ?_⟩
    have hp1:=hp.1
    cases d<;>simp[bx]at hp1<;>simp only[Has]<;>exact⟨x,g1,rfl⟩
   |succ j=>simpa using ih r g2 hp.2 j c (by simpa using hj)
 have vd:((List.zipWith cQ args z).toArray++Array.replicate (fn'.ntmps - (List.zipWith cQ args z).toArray.size) undef).size=fn'.ntmps:=by
  simp[qu]
  omega
 have hR:R E.W0 E.w0 E.n ρ1 (fn (enum 0 args) []) {tmps:=(List.zipWith cQ args z).toArray++Array.replicate (fn'.ntmps - (List.zipWith cQ args z).toArray.size) undef,defers:=[]} w:={
  defers:=.nil
  size:=vd
  fr:=fun t sv ht=>by
   simp only[fn,LV.sv]at ht
   obtain⟨_,h2⟩:=rH args 0 t sv ht
   obtain⟨v,h3,h4⟩:=mJ args z Ji hpass t sv (by simpa using h2)
   have aE:t<(List.zipWith cQ args z).length:=(List.getElem?_eq_some_iff.1 h3).1
   have:((List.zipWith cQ args z).toArray++Array.replicate (fn'.ntmps - (List.zipWith cQ args z).toArray.size) undef).getD t undef=v:=by
    rw[Array.getD_eq_getD_getElem?,Array.getElem?_append_left (by simpa using aE)]
    simp[h3]
   rw[this];exact h4
  bK:=.refl _ _
  hp:={
   blk:=fun k b hb=>by simp[fn,find,LV.blk]at hb
   sep:=fun k k' x x' b b' hx=>by cases hx
   own:=fun k b x hb=>by simp[fn,find,LV.blk]at hb
   ug:=fun k x hx=>by cases hx
   bf:=Ea.bf
   eV:=fun k b x hb=>by simp[fn,find,LV.blk]at hb}}
 have MJ:=iN hE code _ _ _ (h w ρ1 hE) _ w ⟨ρ1,⟨.refl _,fun b o hb=>.inl hb,(fun _ h=>by cases h)⟩,(fun _ h=>by cases h),hR⟩
 refine jO (E:=E) rfl hf hb (fun _ _ _ h=>h) (fun _ _ h=>h) MJ ?_
 rintro e a' w' hdf ⟨fr',cc,hK,ρ',hext,_,jD⟩
 have fin:∀ob l,kk T fr' cc fn'.results.toList=some (ob,l)→Cd ob→mu (qh l) cc c→a'.defers=[]∧∃v,(results fn' a'.tmps).run P w'= .ok v w'∧∃v' ρ'',Ending.returned v= .returned v'∧jH ρ w c [] [] v' ρ'' w':=by
  intro ob l h1 h2 h3
  obtain⟨v,r1,r2⟩:=l8 hE jD h1 h2
  obtain⟨i2,hg,u1,u2,u3⟩:=h3 ρ' w' w.heap.size (fun k b hk=>jD.hp.blk k b (by simp only[fn,LV.blk];exact hk)) (fun k b x hk hw hl hx=>(jD.hp.own k b x (by simp only[fn,LV.blk];exact hk) hw hl hx).resolve_right (fun h=>h)) jD.hp.bf v r2
  refine⟨hdf,v,r1,v,⟨ρ.key,i2,hg⟩,rfl,⟨⟨fun k x hx=>hx,fun b o hb=>u1 b o (hext.le.bf b o hb)⟩, ?_,fun _ _=>rfl, ?_,(fun k b h=>by rcases h with h|h<;>cases h),(fun _ _ _ h=>by cases h),(fun k b x h=>by cases h),(fun k b k' b' x x' h=>by cases h), ?_⟩⟩
  ·exact nt (ρ:=cR i2 hg) (ρ':=⟨ρ.key,i2,hg⟩) (fun b o hb=>hb) c v hc u3
  ·exact jD.bK.mono (fun b _ hb=>hb.elim)
  ·intro b o hb
   rcases u2 b o hb with h4|⟨h4,h5⟩
   ·rcases hext.bf b o h4 with h4|h4
    ·exact .inl h4
    ·exact .inr ⟨h4,jD.hp.bf b o (by assumption),fun k blk x h=>by cases h⟩
   ·exact .inr ⟨h4,h5,fun k blk x h=>by cases h⟩
 cases e<;>simp only[IE]at hK<;>simp only[bodyPost]
 ·split at hK
  ·rename_i ob l hl;exact fin ob l hl (cm hK).1 (cm hK).2
  ·exact hK.elim
 ·split at hK
  ·rename_i ob l hl;exact fin ob l hl (cm hK).1 (cm hK).2
  ·exact hK.elim
section
variable {P:Program} {o:Oper} {ft:List (Nat×SV)} {fk:List (Nat×aF)} {w:Nat} {α:Type} {f:α→SV} {xs:List α}
theorem Nl {x:Operand} {t:TypeId} {xs':Array Operand} {ts:Array TypeId} {ti:TI} {e:TypeId} (ho:o.op= .call ⟨.builtin .len,xs',ts⟩) (mr:xs'= #[x]) (jE:ts= #[t]) (hx:bp ft x (bF w f xs)) (ht:aG P t ti)
  (hk:ti.kind= .aO e):bS P o ft fk (.val (.int .i64 (xs.length:Int))) [] []:=by
 have:=Nb (fk:=fk) ho mr jE hx ht hk
 rwa [List.length_map]at this
theorem um {t e:TypeId} {x ix:Operand} {ti te:TI} {kd:IntKind} {j:Int} {d:α} (ho:o.op= .indexAddr t x ix) (hx:bp ft x (bF w f xs)) (hi:bp ft ix (.val (.int kd j)))
  (ht:aG P t ti) (hk:ti.kind= .aO e) (he:aG P e te) (hs:te.size=w) (hj:0≤j∧j<(xs.length:Int)):bS P o ft fk (bE [f (xs.getD j.toNat d)]) [] []:=
 zn ho hx hi ht hk he hs hj.1 (by rw[List.length_map];exact hj.2) (by
  have h1:j.toNat<xs.length:=aa
  simp[List.getD_eq_getElem?_getD,List.getElem?_eq_getElem h1])
theorem gK {t e:TypeId} {x ix:Operand} {ti te:TI} {kd:IntKind} {j:Nat} {d:α} (ho:o.op= .indexAddr t x ix) (hx:bp ft x (bF w f xs)) (hi:bp ft ix (.val (.int kd (j:Int))))
  (ht:aG P t ti) (hk:ti.kind= .aO e) (he:aG P e te) (hs:te.size=w) (hj:j<xs.length):bS P o ft fk (bE [f (xs.getD j d)]) [] []:=by
 have:=um (fk:=fk) (d:=d) ho hx hi ht hk he hs ⟨aa,aa⟩
 rwa [Int.toNat_natCast]at this
theorem zF {t e:TypeId} {x:Operand} {lo hi mx:Option Operand} {ti te:TI} {l h:Int} (ho:o.op= .slice t x lo hi mx) (hx:bp ft x (bF w f xs))
  (Ce:lo=none∧l=0∨∃y kd,lo=some y∧bp ft y (.val (.int kd l))) (Cf:hi=none∧h=xs.length∨∃y kd,hi=some y∧bp ft y (.val (.int kd h)))
  (hmx:mx=none∨(hi≠none∧∃y kd,mx=some y∧bp ft y (.val (.int kd h))))
  (ht:aG P t ti) (hk:ti.kind= .aO e) (he:aG P e te) (hs:te.size=w) (hb:0≤l∧l≤h∧h≤(xs.length:Int)):bS P o ft fk (bF w f ((xs.drop l.toNat).take (h.toNat - l.toNat))) [] []:=by
 have:=Hm (fk:=fk) ho hx Ce (by rw[List.length_map];exact Cf) hmx ht hk he hs hb.1 hb.2.1 (by rw[List.length_map];exact hb.2.2)
 rwa [gY,←List.map_drop,←List.map_take]at this
end
section
variable {P:Program} {f:FuncId} {args:List SV} {hp:List (Nat×aF)} {o:Oper} {fr:List (Nat×SV)} {c:SV}
abbrev CT (hp fk:List (Nat×aF)):Prop:=∀j b,(j,b)∈fk→find hp j=some b
abbrev vg (hp new:List (Nat×aF)):Prop:=∀j b,(j,b)∈new→find hp j=none
abbrev qk (fk upd:List (Nat×aF)):Prop:=∀j b,(j,b)∈upd→∃b0:aF,(j,b0)∈fk∧b0.wr=true∧b0.data.live=true∧b.wr=true
theorem aS {k:SV→List (Nat×aF)→List (Nat×aF)→List (Nat×aF)→Prop} (h:ab P f args [] c [] []) (hk:k c [] [] []):
  ∃fk c new upd,ab P f args fk c new upd∧CT hp fk∧vg hp new∧qk fk upd∧k c fk new upd:=⟨[],c,[],[],h,aM,aA,ar,hk⟩
theorem mj {k:SV→List (Nat×aF)→List (Nat×aF)→List (Nat×aF)→Prop} {a:Nat} {A:aF} (h:ab P f args [(a,A)] c [] []) (ha:find hp a=some A) (hk:k c [(a,A)] [] []):
  ∃fk c new upd,ab P f args fk c new upd∧CT hp fk∧vg hp new∧qk fk upd∧k c fk new upd:=⟨[(a,A)],c,[],[],h,dh ha,aA,ar,hk⟩
theorem lG {k:SV→List (Nat×aF)→List (Nat×aF)→List (Nat×aF)→Prop} {b:Nat} {B:aF} (h:ab P f args [] c [(b,B)] []) (hb:find hp b=none) (hk:k c [] [(b,B)] []):
  ∃fk c new upd,ab P f args fk c new upd∧CT hp fk∧vg hp new∧qk fk upd∧k c fk new upd:=⟨[],c,[(b,B)],[],h,aM,c5 hb,ar,hk⟩
theorem F5 {k:SV→List (Nat×aF)→List (Nat×aF)→List (Nat×aF)→Prop} {a b:Nat} {A B:aF} (h:ab P f args [(a,A)] c [(b,B)] []) (ha:find hp a=some A) (hb:find hp b=none) (hk:k c [(a,A)] [(b,B)] []):
  ∃fk c new upd,ab P f args fk c new upd∧CT hp fk∧vg hp new∧qk fk upd∧k c fk new upd:=⟨[(a,A)],c,[(b,B)],[],h,dh ha,c5 hb,ar,hk⟩
theorem F6 {k:SV→List (Nat×aF)→List (Nat×aF)→List (Nat×aF)→Prop} {a:Nat} {ty ty':TypeId} {d d':Data} (h:ab P f args [(a,⟨ty,true,d⟩)] c [] [(a,⟨ty',true,d'⟩)]) (ha:find hp a=some ⟨ty,true,d⟩) (hl:d.live=true)
  (hk:k c [(a,⟨ty,true,d⟩)] [] [(a,⟨ty',true,d'⟩)]):
  ∃fk c new upd,ab P f args fk c new upd∧CT hp fk∧vg hp new∧qk fk upd∧k c fk new upd:=
 ⟨[(a,⟨ty,true,d⟩)],c,[],[(a,⟨ty',true,d'⟩)],h,dh ha,aA,(fun j b hm=>by
  simp only[List.mem_singleton,Prod.mk.injEq]at hm
  obtain⟨rfl,rfl⟩:=hm
  exact⟨_,List.mem_cons_self ..,rfl,hl,rfl⟩),hk⟩
theorem Z0 {k:SV→List (Nat×aF)→List (Nat×aF)→List (Nat×aF)→Prop} {a b:Nat} {A B:aF} (h:ab P f args [(a,A),(b,B)] c [] []) (ha:find hp a=some A) (hb:find hp b=some B) (hk:k c [(a,A),(b,B)] [] []):
  ∃fk c new upd,ab P f args fk c new upd∧CT hp fk∧vg hp new∧qk fk upd∧k c fk new upd:=
 ⟨[(a,A),(b,B)],c,[],[],h,(fun j c hm=>by
  simp only[List.mem_cons,Prod.mk.injEq,List.not_mem_nil,or_false]at hm
  rcases hm with⟨rfl,rfl⟩|⟨rfl,rfl⟩<;>assumption),aA,ar,hk⟩
theorem ah {k:SV→List (Nat×aF)→List (Nat×aF)→List (Nat×aF)→Prop} (h:bS P o fr [] c [] []) (hk:k c [] [] []):
  ∃c fk new upd,bS P o fr fk c new upd∧CT hp fk∧vg hp new∧qk fk upd∧k c fk new upd:=⟨c,[],[],[],h,aM,aA,ar,hk⟩
end
end Go.Sx
namespace Go.Sx
open Go.ChangeShapes Go.WideShapes
theorem xk {P:Program} {W:World} {name:String} {k:IntKind} {zs:List Int} {g:Nat} (hg:P.globalNamed name=some g) (h:Lib.TabIs P W name k zs):∃ty fz,W.heap[g]? =some (.cells (zs.map fun x=>Value.int k x).toArray ty fz):=by
 unfold Lib.TabIs World.var? at h
 rw[hg]at h
 simp only[Option.bind_some]at h
 cases ho:W.heap[g]? with
 |none=>rw[ho]at h;cases h
 |some o=>
  rw[ho]at h
  cases o<;>simp_all
theorem Sa {P:Program} {W:World} {name:String} {k:IntKind} {zs:List Int} {g:Nat} (hg:P.globalNamed name=some g) {ty:TypeId} {fz:Nat×Nat} (h:W.heap[g]? =some (.cells (zs.map fun x=>Value.int k x).toArray ty fz)):Lib.TabIs P W name k zs:=by
 unfold Lib.TabIs World.var?
 rw[hg]
 simp only[Option.bind_some,h]
theorem CU {W:World} (h:wC W):iJ (fun b=>W.heap[b]?):=by
 intro g kd l hm
 obtain⟨o,h1,h2⟩:=Nj h g kd l hm
 refine⟨o, ?_,h2⟩
 have h1:(if mz.any (fun t=>t.1==g)then W.heap[g]? else none)=some o:=h1
 show W.heap[g]? =some o
 split at h1
 ·exact h1
 ·cases h1
def nC {W:World} (h:wC W):bU:=cR _ (CU h)
theorem JE {P:Program} {f:FuncId} {args:List SV} {W:World} (hf:Cr P f) (h:ab P f args [] (.val (.bool true)) [] [])
  (hg:wC W) {z:List (List Value)} (hz:aw (nC hg) args z):
  Calls P f (List.zipWith cQ args z).toArray W fun e w'=>e= .returned (.bool true)∧RowKit.Below W.heap.size W w':=by
 refine(h.calls hf hz ⟨(fun k b hb=>by cases hb),(fun k k' x x' b b' hb=>by cases hb),(fun b o hb=>hb),(fun k b x hb=>by cases hb),(fun k b hb=>by cases hb)⟩).mono ?_
 rintro e w' ⟨v,ρ',rfl,hp⟩
 refine⟨by rw[aK hp.has], ?_⟩
 exact(hp.bK.mono (W':=fun _=>False) (fun b _ ⟨k,blk,t,hm,_⟩=>by cases hm)).below
section
variable {H:Type} {enc:TypeId×Value→H} {P:Program} {W:World} {hg:wC W}
def ql (enc:TypeId×Value→H) (P:Program) (hg:wC W) (t:TypeId) {α:Type} (f:α→SV) (ez:α→Prop):Prop:=
 ∀fuel cs x,DataW.trod enc P W 0 (fun _=>true) true fuel t cs=some x→∃y,ez y∧aL (nC hg) (f y) cs
theorem ql.int {t:TypeId} {k:IntKind} (ht:P.underlying t=some (.int k)):ql enc P hg t (jv k) (fun n=>(Lit.int k n).wf=true):=fun fuel cs x h=>by
 obtain⟨n,rfl,_,hw⟩:=DataW.trod_int ht h
 exact⟨n,hw,by simp[jv,aL,Value.oneCell']⟩
def bel (b:Bool):SV:=.val (.bool b)
theorem ql.bool {t:TypeId} (ht:P.underlying t=some .bool):ql enc P hg t bel (fun _=>True):=fun fuel cs x h=>by
 obtain⟨n,rfl,_⟩:=DataW.trod_bool ht h
 exact⟨n,trivial,by simp[bel,aL,Value.oneCell']⟩
def ag2 {α β:Type} (f:α→SV) (g:β→SV) (p:α×β):SV:=.agg [f p.1,g p.2]
def agL {α:Type} (f:α→SV) (l:List α):SV:=.agg (l.map f)
theorem xl {ρ:bU} {α:Type} {f:α→SV} {n w:Nat} {cs:List Value} (D9:cs.length=n*w) {y:Nat→α} (h:∀i,i<n→aL ρ (f (y i)) ((cs.drop (i*w)).take w)):∃z,aw ρ (((List.range n).map y).map f) z∧z.flatten=cs:=by
 induction n generalizing cs y with
 |zero=>exact⟨[],by simp[aw],by simp at D9;simp[D9]⟩
 |succ n ih=>
  have h0:=h 0 aa
  rw[Nat.zero_mul,List.drop_zero]at h0
  obtain⟨z,z1,z2⟩:=ih (cs:=cs.drop w) (y:=fun i=>y (i+1)) (by rw[List.length_drop,D9,Nat.succ_mul];omega) (fun i hi=>by
   have:=h (i+1) aa
   rw[List.drop_drop,show w+i*w=(i+1)*w from by rw[Nat.succ_mul];omega]
   exact this)
  refine⟨cs.take w::z, ?_,by rw[List.flatten_cons,z2,List.take_append_drop]⟩
  rw[List.range_succ_eq_map,List.map_cons,List.map_cons,show List.map y (List.map Nat.succ (List.range n))=List.map (fun i=>y (i+1)) (List.range n)from by rw[List.map_map];rfl]
  simp only[aw]
  exact⟨_,_,rfl,h0,z1⟩
theorem ql.array {t e:TypeId} {n:Nat} {α:Type} {f:α→SV} {ez:α→Prop} (ht:P.underlying t=some (.array n e)) (hc:P.cellsOf t=n*P.cellsOf e) (h:ql enc P hg e f ez):
  ql enc P hg t (agL f) (fun l=>l.length=n∧∀x∈l,ez x):=fun fuel cs x hx=>by
 obtain⟨xs,m,rfl,_,hlen,MZ,hf⟩:=DataW.trod_array ht hx
 have ns:∀i,i<n→∃y,ez y∧aL (nC hg) (f y) ((cs.drop (i*P.cellsOf e)).take (P.cellsOf e)):=fun i hi=>by
  have h1:=hf i hi
  rw[List.getElem?_eq_getElem aa]at h1
  exact h _ _ _ h1
 by_cases hn:n=0
 ·subst hn
  refine⟨[],⟨rfl,fun x hx=>by cases hx⟩, ?_⟩
  simp only[agL,aL]
  rw[hc,Nat.zero_mul]at hlen
  exact⟨[],by simp[aw],by simpa using hlen⟩
 ·obtain⟨d,_⟩:=ns 0 aa
  have:∀i,∃y,i<n→ez y∧aL (nC hg) (f y) ((cs.drop (i*P.cellsOf e)).take (P.cellsOf e)):=fun i=>by
   by_cases hi:i<n
   ·obtain⟨y,hy⟩:=ns i hi
    exact⟨y,fun _=>hy⟩
   ·exact⟨d,fun h=>absurd h hi⟩
  obtain⟨y,hy⟩:=Classical.axiomOfChoice this
  obtain⟨z,z1,z2⟩:=xl (ρ:=nC hg) (f:=f) (by rw[hlen,hc]) (fun i hi=>(hy i hi).2)
  refine⟨(List.range n).map y,⟨by simp,fun x hx=> ?_⟩, ?_⟩
  ·obtain⟨i,hi,rfl⟩:=List.mem_map.1 hx
   exact(hy i (List.mem_range.1 hi)).1
  ·simp only[agL,aL]
   exact⟨z,z1,z2.symm⟩
theorem ql.slice {t e:TypeId} {w:Nat} {α:Type} {f:α→SV} {ez:α→Prop} (ht:P.underlying t=some (.slice e)) (hc:P.cellsOf e=w) (F7:w≠0) (hw:∀x,(f x).width=w) (h:ql enc P hg e f ez):
  ql enc P hg t (bF w f) (fun l=>l.length≤maxLen∧∀x∈l,ez x):=fun fuel cs x hx=>by
 rcases Deep.open_slice ht hx with⟨rfl,_⟩|⟨a,len,cap,m,n,D,Pl,rfl,hb,hl,hm,hmm,rfl,ns⟩
 ·exact⟨[],⟨Nat.zero_le _,fun x hx=>by cases hx⟩,by simp only[aL];exact .inl ⟨rfl,none,rfl⟩⟩
 ·rw[if_pos rfl]at hmm
  have ZR:∀i,i<cap→∃y,ez y∧∃cs',W.cells? 0 (a.add (i*w)) w=some cs'∧aL (nC hg) (f y) cs':=fun i hi=>by
   obtain⟨cs',h1,h2⟩:=ns i aa
   obtain⟨y,y1,y2⟩:=h _ _ _ h2
   exact⟨y,y1,cs',by rw[←hc];exact h1,y2⟩
  by_cases hcap:cap=0
  ·subst hcap
   obtain rfl:len=0:=aa
   exact⟨[],⟨Nat.zero_le _,fun x hx=>by cases hx⟩,by simp only[aL];exact .inl ⟨rfl,some a,rfl⟩⟩
  ·-- the block
   have wH:∀i j,i<cap→j<w→∃v,W.cell? (a.add (i*w+j))=some v:=fun i j hi hj=>by
    obtain⟨y,_,cs',h1,_⟩:=ZR i hi
    obtain⟨_,hlen,hv⟩:=World.cells?_some h1
    have:=hv j hj
    rw[Deep.add_add,List.getElem?_eq_getElem aa]at this
    exact⟨_,this⟩
   obtain⟨v0,JF⟩:=wH 0 0 aa aa
   have Z1:a.add (0*w+0)=a:=by simp[Addr.add]
   rw[Z1]at JF
   obtain⟨b,off,sp⟩:=a
   have gB:∃arr ty fz,W.heap[b]? =some (.cells arr ty fz)∧sp=none:=by
    unfold World.cell? at JF
    simp only at JF
    split at JF
    ·rename_i c ty fz hh
     refine⟨c,ty,fz,hh, ?_⟩
     cases sp with
     |none=>rfl
     |some q=>simp at JF
    ·cases JF
   obtain⟨arr,ty,fz,hheap,rfl⟩:=gB
   have mJ:∀k,W.cell? ⟨b,k,none⟩=arr[k]? :=fun k=>cell_of_row W b k arr ty fz hheap
   have b9:∀k,k<cap*w→∃v,arr[off+k]? =some v:=fun k hk=>by
    have hi:k/w<cap:=Nat.div_lt_of_lt_mul (by rw[Nat.mul_comm];exact hk)
    obtain⟨v,hv⟩:=wH (k/w) (k % w) hi (Nat.mod_lt _ aa)
    rw[oG,mJ,Nat.mul_comm,Nat.div_add_mod]at hv
    exact⟨v,hv⟩
   have vd:off+cap*w≤arr.size:=by
    have p9:0<cap*w:=Nat.mul_pos aa aa
    obtain⟨v,hv⟩:=b9 (cap*w - 1) aa
    have:=(Array.getElem?_eq_some_iff.1 hv).1
    omega
   have wN:∀i,i<cap→∀cs',W.cells? 0 ((⟨b,off,none⟩:Addr).add (i*w)) w=some cs'→cs'=((arr.toList.drop off).drop (i*w)).take w:=fun i hi cs' h1=>by
    obtain⟨_,hlen,hv⟩:=World.cells?_some h1
    have hiw:i*w+w≤cap*w:=by have:=Nat.mul_le_mul_right w (Nat.succ_le_of_lt hi);rwa [Nat.succ_mul]at this
    apply List.ext_getElem?
    intro j
    by_cases hj:j<w
    ·have h2:=hv j hj
     rw[Deep.add_add,oG,mJ]at h2
     rw[List.getElem?_take_of_lt hj,List.drop_drop,List.getElem?_drop,←Nat.add_assoc]at*
     rw[←Array.getElem?_toList]at h2
     exact h2.symm
    ·rw[List.getElem?_eq_none aa,List.getElem?_eq_none (by rw[List.length_take];omega)]
   obtain⟨d,_⟩:=ZR 0 aa
   have hch:∀i,∃y,i<cap→ez y∧aL (nC hg) (f y) (((arr.toList.drop off).drop (i*w)).take w):=fun i=>by
    by_cases hi:i<cap
    ·obtain⟨y,y1,cs',h1,h2⟩:=ZR i hi
     rw[wN i hi cs' h1]at h2
     exact⟨y,fun _=>⟨y1,h2⟩⟩
    ·exact⟨d,fun h=>absurd h hi⟩
   obtain⟨y,hy⟩:=Classical.axiomOfChoice hch
   have hlw:len*w≤cap*w:=Nat.mul_le_mul_right _ hl
   obtain⟨z,z1,z2⟩:=xl (ρ:=nC hg) (f:=f) (n:=len) (w:=w) (cs:=(arr.toList.drop off).take (len*w)) (by rw[List.length_take,List.length_drop,Array.length_toList];omega) (y:=y) (fun i hi=>by
    have h1:=(hy i aa).2
    have hiw:i*w+w≤len*w:=by have:=Nat.mul_le_mul_right w (Nat.succ_le_of_lt hi);rwa [Nat.succ_mul]at this
    rw[List.drop_take,List.take_take,Nat.min_eq_left aa]
    exact h1)
   refine⟨(List.range len).map y,⟨by simp;omega,fun x hx=> ?_⟩, ?_⟩
   ·obtain⟨i,hi,rfl⟩:=List.mem_map.1 hx
    exact(hy i (by have:=List.mem_range.1 hi;omega)).1
   ·simp only[aL]
    refine .inr ⟨CU hg,b,cap,z,arr.toList.take off,(arr.toList.drop off).drop (len*w),ty,fz, ?_,z1,fun x hx=> ?_, ?_, ?_, ?_⟩
    ·show W.heap[b]? =_
     rw[hheap,z2,List.take_append_drop,List.take_append_drop]
    ·obtain⟨u,_,rfl⟩:=List.mem_map.1 hx
     exact hw u
    ·simp;exact hl
    ·rw[z2,List.take_append_drop,List.length_drop,Array.length_toList];omega
    ·simp only[List.length_map,List.length_range,List.length_take,Array.length_toList]
     rw[Nat.min_eq_left aa]
end
end Go.Sx
namespace Go.Sx
structure adA (p:Nat):Prop where
 two:2≤p
 div:∀d,d ∣ p→d=1∨d=p
end Go.Sx
namespace Go.Sx
set_option maxRecDepth 4000
def vh (d:Data) (i:Nat) (d2:Data) (i2 c:Nat):Option Data:=
 match d,d2 with
 |.ints k xs,.ints k' ys=>if k'=k then some (.ints k (xs.take i++((ys.drop i2).take c++xs.drop (i+c))))else none
 |.cb xs,.cb ys=>some (.cb (xs.take i++((ys.drop i2).take c++xs.drop (i+c))))
 |.seq w xs,.seq w' ys=>if w'=w then some (.seq w (xs.take i++((ys.drop i2).take c++xs.drop (i+c))))else none
 |_,_=>none
theorem nD {ρ:bU} {d d2 d':Data} {i i2 c s s2:Nat} {z z2:List (List Value)} (h:vh d i d2 i2 c=some d') (hz:Rows ρ s d z) (lC:Rows ρ s2 d2 z2):Rows ρ s d' (z.take i++((z2.drop i2).take c++z.drop (i+c)))∧s2=s:=by
 unfold vh at h
 split at h
 ·split at h
  ·rename_i hk
   subst hk
   simp only[Option.some.injEq]at h
   subst h
   simp only[Rows]at hz lC ⊢
   obtain⟨rfl,rfl⟩:=hz
   obtain⟨rfl,rfl⟩:=lC
   exact⟨⟨rfl,by simp[List.map_take,List.map_drop]⟩,rfl⟩
  ·simp at h
 ·simp only[Option.some.injEq]at h
  subst h
  simp only[Rows]at hz lC ⊢
  obtain⟨rfl,rfl⟩:=hz
  obtain⟨rfl,rfl⟩:=lC
  exact⟨⟨rfl,by simp[List.map_take,List.map_drop]⟩,rfl⟩
 ·split at h
  ·rename_i hk
   subst hk
   simp only[Option.some.injEq]at h
   subst h
   simp only[Rows]at hz lC ⊢
   obtain⟨rfl,h1,h2⟩:=hz
   obtain⟨rfl,h3,h4⟩:=lC
   refine⟨⟨rfl,cU (iK i h1) (cU (iK c (jW i2 h3)) (jW _ h1)), ?_⟩,rfl⟩
   intro x hx
   rcases List.mem_append.1 hx with hx|hx
   ·exact h2 x (List.mem_of_mem_take hx)
   ·rcases List.mem_append.1 hx with hx|hx
    ·exact h4 x (List.mem_of_mem_drop (List.mem_of_mem_take hx))
    ·exact h2 x (List.mem_of_mem_drop hx)
  ·simp at h
 ·simp at h
theorem CV {ρ:bU} {s:Nat} {d:Data} {z:List (List Value)} (h:Rows ρ s d z) (hz:z.length=0):d.empty:=by
 have hl:=h.len.1
 rw[hz]at hl
 cases d<;>simp only[Rows]at h<;>simp only[Data.empty]
 all_goals exact List.length_eq_zero_iff.1 hl.symm
section
variable {P:Program} {o:Oper} {fr:List (Nat×SV)} {fk:List (Nat×aF)}
theorem EB {ρ:bU} {w:World} {k s i n:Nat} {blk:aF} {v:Value} (hv:Has ρ (.aO k s i n) v) (hb:hO ρ w k blk) (hl:blk.data.live=true) (hw:cZ blk.data=some s) (yM:i+n≤en blk.data):
  ∃z,Rows ρ s blk.data z∧(∀c,c≤n→(Builtin.firstCells s c v).run P w= .ok (((z.drop i).take c).flatten).toArray w)∧Builtin.lenOf v=Pure.pure n:=by
 obtain⟨z,hz,hcase⟩:=jf hb hl hw
 obtain⟨zl,zw⟩:=hz.len
 refine⟨z,hz, ?_⟩
 rcases fI hv with⟨b,t,cap,e1,e2,e3,rfl⟩|⟨rfl,a,rfl⟩
 ·rcases hcase with⟨b',t',ex,h1,h2,h3,h4⟩|⟨h1,_⟩
  ·rw[e1]at h1
   cases h1
   refine⟨fun c hc=> ?_,rfl⟩
   have wN:((z.drop i).take c).flatten=(z.flatten.drop (i*s)).take (c*s):=by
    rw[cC (s:=s) _ _ (fun u hu=>zw u (List.mem_of_mem_drop hu)),fJ (s:=s) _ _ zw]
   have hlen:(((z.drop i).take c).flatten).length=c*s:=by
    rw[aQ (s:=s) _ (fun u hu=>zw u (List.mem_of_mem_drop (List.mem_of_mem_take hu))),List.length_take,List.length_drop]
    congr 1
    omega
   refine run_firstCells_some (P:=P) w s c _ n cap _ hlen ?_
   intro j u hj
   have fU:(⟨b,i*s,none⟩:Addr).add j=⟨b,i*s+j,none⟩:=by unfold Addr.add;split<;>simp_all
   rw[fU,cell_of_row w b (i*s+j) _ blk.ty (0,0) h2]
   have h6:=lW wN j u hj
   have aE:i*s+j<z.flatten.length:=(List.getElem?_eq_some_iff.1 h6).1
   simp only[List.getElem?_toArray]
   rw[List.getElem?_append_left aE]
   exact h6
  ·rw[e1]at h1;cases h1
 ·refine⟨fun c hc=> ?_,rfl⟩
  obtain rfl:c=0:=aa
  cases a with
  |none=>simp[Builtin.firstCells]
  |some a=>simp[Builtin.firstCells,loadCells,loadCellsFrom]
theorem F8 {ρ:bU} {w:World} {k b t s:Nat} {blk:aF} (hb:hO ρ w k blk) (hl:blk.data.live=true) (hw:cZ blk.data=some s) (hk:ρ.key k=some (b,t)):
  ∃z ex,Rows ρ s blk.data z∧w.heap[b]? =some (.cells (z.flatten++ex).toArray blk.ty (0,0))∧(z.flatten++ex).length=t∧(∀v∈ex,v.oneCell'=true):=by
 obtain⟨z,hz,hcase⟩:=jf hb hl hw
 rcases hcase with⟨b',t',ex,h1,h2,h3,h4⟩|⟨h1,_⟩
 ·rw[hk]at h1
  cases h1
  exact⟨z,ex,hz,h2,h3,h4⟩
 ·rw[hk]at h1;cases h1
theorem pB {t t2 e ty:TypeId} {x y:Operand} {xs:Array Operand} {ts:Array TypeId} {ti te:TI} {k k2 i n i2 m c:Nat} {d d':Data} {blk2:aF} (ho:o.op= .call ⟨.builtin .copy,xs,ts⟩) (mr:xs= #[x,y]) (jE:ts= #[t,t2])
  (hx:bp fr x (.aO k te.size i n)) (hy:bp fr y (.aO k2 te.size i2 m)) (ht:aG P t ti) (hk:ti.kind= .aO e) (he:aG P e te)
  (hf:(k,⟨ty,true,d⟩)∈fk) (hf2:(k2,blk2)∈fk) (hl:d.live=true) (iC:blk2.data.live=true) (hw:cZ d=some te.size) (nv:cZ blk2.data=some te.size)
  (hn:i+n≤en d) (hm:i2+m≤en blk2.data) (hc:c=Nat.min m n) (hd:vh d i blk2.data i2 c=some d'):
  bS P o fr fk (.val (.int .i64 (c:Nat))) [] [(k,⟨ty,true,d'⟩)]:=
 dv fun ρ a w hp=>by
  have CC:=hx ρ a hp.dy
  have Hi:=hy ρ a hp.dy
  have hu:=ht.kind;rw[hk]at hu
  have hcm:c≤m:=hc▸Nat.min_le_left _ _
  have hcn:c≤n:=hc▸Nat.min_le_right _ _
  obtain⟨z2,lC,hrun2,hlen2⟩:=EB (P:=P) Hi (hp.n0 k2 _ hf2) iC nv hm
  have CW:=hrun2 c hcm
  obtain⟨zl2,zw2⟩:=lC.len
  have ie:∀u∈(z2.drop i2).take c,u.length=te.size:=fun u hu=>zw2 u (List.mem_of_mem_drop (List.mem_of_mem_take hu))
  have gf:((z2.drop i2).take c).length=c:=by rw[List.length_take,List.length_drop];omega
  have fa:∀v w',(Builtin.copy_ ts o.type #[a.eval x,a.eval y]).run P w= .ok v w'→(execOp a.eval o).run P w= .ok (.value v) w':=by
   intro v w' h
   simp only[execOp,ho,resolve,invoke,builtin,mr,Sem.run_bind,Sem.run_pure,Result.andThen_ok,List.map_toArray,List.map_cons,List.map_nil]
   rw[h]
   rfl
  have wI:∀v∈(((z2.drop i2).take c).flatten),v.oneCell'=true:=fun u hu=>by
   obtain⟨q,hq,hu⟩:=List.mem_flatten.1 hu
   exact lC.wD q (List.mem_of_mem_drop (List.mem_of_mem_take hq)) u hu
  rcases fI CC with⟨b,t',cap,e1,e2,e3,hv⟩|⟨rfl,a',hv⟩
  ·obtain⟨z,ex,hz,g1,g2,g3⟩:=F8 (hp.n0 k _ hf) hl hw e1
   obtain⟨zl,zw⟩:=hz.len
   simp only at zl
   have bY:=(nD hd hz lC).1
   have Cc:(((z2.drop i2).take c).flatten).length=c*te.size:=by rw[aQ _ ie,gf]
   have wO:i*te.size+c*te.size≤(z.flatten++ex).length:=by
    have:=Nat.mul_le_mul_right te.size (show i+c≤i+cap by omega)
    rw[Nat.add_mul]at this
    omega
   have ud:=run_storeCells_at (P:=P) b (i*te.size) ty (((z2.drop i2).take c).flatten) 0 (z.flatten++ex).toArray w g1 (by simp only[List.size_toArray];omega) wI
   have qu:z.flatten.length=z.length*te.size:=aQ _ zw
   have Sb:(i+c)*te.size≤z.flatten.length:=by
    rw[qu];exact Nat.mul_le_mul_right _ aa
   have hiz:i*te.size≤z.flatten.length:=by
    rw[qu];exact Nat.mul_le_mul_right _ aa
   have hL:(z.flatten++ex).take (i*te.size)++((z2.drop i2).take c).flatten++(z.flatten++ex).drop (i*te.size+(((z2.drop i2).take c).flatten).length)=(z.take i++((z2.drop i2).take c++z.drop (i+c))).flatten++ex:=by
    rw[Cc,←Nat.add_mul,List.take_append_of_le_length hiz,List.drop_append_of_le_length Sb,List.flatten_append,List.flatten_append,cC _ _ zw,fJ _ _ zw]
    simp only[List.append_assoc]
   simp only[Nat.add_zero,hL]at ud
   refine⟨goInt c,w.setRow b ((z.take i++((z2.drop i2).take c++z.drop (i+c))).flatten++ex).toArray,ρ,fa _ _ ?_, ?_⟩
   ·simp only[Builtin.copy_,jE,hv,List.getElem?_toArray,List.getElem?_cons_zero,List.getElem?_cons_succ,Sem.run_bind,run_underlying hu,Result.andThen_ok,hlen2,Sem.run_pure,he.sizeOf]
    rw[←hc,CW]
    simp only[Result.andThen_ok,ud]
   ·refine⟨.refl ρ,cd rfl,fun _ _=>rfl,⟨rfl,rfl,rfl,by simp[World.setRow],fun j hj hnj=> ?_⟩,fun j bj hj=> ?_,(fun j c1 c2 h1 h2 h3 h4=> ?_),(fun _ _ _ h=>by cases h),(fun _ _ _ _ _ _ h=>by cases h),fun b o h=>.inl h⟩
    ·refine dj fun Zo=>hnj ⟨k,_,t',List.mem_cons_self .., ?_⟩
     rw[Zo];exact e1
    ·rcases hj with hj|hj
     ·simp only[List.mem_singleton,Prod.mk.injEq]at hj
      obtain⟨rfl,rfl⟩:=hj
      refine .inr (.inl ⟨b,t',_,ex,e1,by rw[Data.cT bY.ef];exact dC g1,bY.data, ?_,g3⟩)
      rw[←g2,List.length_append,List.length_append,aQ _ bY.len.2,qu]
      congr 2
      rw[List.length_append,List.length_append,List.length_take,List.length_drop,gf]
      omega
     ·cases hj
    ·simp only[List.mem_singleton,Prod.mk.injEq]at h1 h2
     obtain⟨_,rfl⟩:=h1
     obtain⟨_,rfl⟩:=h2
     rw[h3]at h4;cases h4
  ·obtain rfl:c=0:=aa
   obtain⟨z,hz,hcase⟩:=jf (hp.n0 k _ hf) hl hw
   have bY:=(nD hd hz lC).1
   have JG:z.take i++((z2.drop i2).take 0++z.drop (i+0))=z:=by simp
   rw[JG]at bY
   refine⟨goInt 0,w,ρ,fa _ _ ?_, ?_⟩
   ·simp only[Builtin.copy_,jE,hv,List.getElem?_toArray,List.getElem?_cons_zero,List.getElem?_cons_succ,Sem.run_bind,run_underlying hu,Result.andThen_ok,hlen2,Sem.run_pure,he.sizeOf]
    rw[←hc,CW]
    cases a' with
    |none=>simp[goInt]
    |some a'=>simp[goInt,storeCells]
   ·refine⟨.refl ρ,cd rfl,fun _ _=>rfl,.refl _ _,fun j bj hj=> ?_,(fun j c1 c2 h1 h2 h3 h4=> ?_),(fun _ _ _ h=>by cases h),(fun _ _ _ _ _ _ h=>by cases h),fun b o h=>.inl h⟩
    ·rcases hj with hj|hj
     ·simp only[List.mem_singleton,Prod.mk.injEq]at hj
      obtain⟨rfl,rfl⟩:=hj
      rcases hcase with⟨b',t',ex,h1,h2,h3,h4⟩|⟨h1,h2⟩
      ·exact .inr (.inl ⟨b',t',_,ex,h1,by rw[Data.cT bY.ef];exact h2,bY.data,h3,h4⟩)
      ·refine .inr (.inr ⟨h1, ?_⟩)
       exact CV bY (by rw[h2];rfl)
     ·cases hj
    ·simp only[List.mem_singleton,Prod.mk.injEq]at h1 h2
     obtain⟨_,rfl⟩:=h1
     obtain⟨_,rfl⟩:=h2
     rw[h3]at h4;cases h4
end
structure SWb (E:Env) (c:Code) (K:bI) (fr:List (Nat×SV)) (hp:List (Nat×aF)):Prop where
 run:∀a w,RR E (fn fr hp) a w→∀b k cs,b.roundOf=(FT E.ro).round→∃e a' w',vc E K e a' w'∧ArrivesIn (Machine.fenced E.P (FT E.ro)) E.P (lone (b.atR a (.code c:: .inLoop c::k)) cs w) b k cs e a' w'
end Go.Sx
namespace Go.Sx
def aB (xs:List Int):Nat→Int
 |0=>0
 |k+1=>aB xs k+xs.getD k 0*4294967296^k
def fL (xs:List Int):Prop:=∀i,0≤xs.getD i 0∧xs.getD i 0<4294967296
theorem aZ {xs:List Int} {i j:Nat} {v:Int}:(xs.set i v).getD j 0=if i=j∧j<xs.length then v else xs.getD j 0:=by
 simp only[List.getD_eq_getElem?_getD,List.getElem?_set]
 split
 ·rename_i h
  subst h
  split
  ·rename_i h1;simp[h1]
  ·rename_i h1;simp[h1]
 ·rename_i h;simp[h]
theorem dY {xs:List Int} {i:Nat} (h:xs.length≤i):xs.getD i 0=0:=by
 simp[List.getD_eq_getElem?_getD,List.getElem?_eq_none h]
theorem getD_take {xs:List Int} {i k:Nat}:(xs.take k).getD i 0=if i<k then xs.getD i 0 else 0:=by
 simp only[List.getD_eq_getElem?_getD,List.getElem?_take]
 split<;>simp
theorem jo {xs ys:List Int} {i:Nat}:(xs++ys).getD i 0=if i<xs.length then xs.getD i 0 else ys.getD (i - xs.length) 0:=by
 simp only[List.getD_eq_getElem?_getD]
 split
 ·rename_i h;rw[List.getElem?_append_left h]
 ·rename_i h;rw[List.getElem?_append_right aa]
theorem bB {n i:Nat}:(List.replicate n (0:Int)).getD i 0=0:=by
 simp only[List.getD_eq_getElem?_getD,List.getElem?_replicate]
 split<;>rfl
theorem fL.set {xs:List Int} (h:fL xs) {i:Nat} {v:Int} (h0:0≤v) (h1:v<4294967296):fL (xs.set i v):=by
 intro j
 rw[aZ]
 split
 ·exact⟨h0,h1⟩
 ·exact h j
theorem Be {xs:List Int} (h:∀x∈xs,0≤x∧x<4294967296):fL xs:=by
 intro i
 rw[List.getD_eq_getElem?_getD]
 cases hx:xs[i]? with
 |none=>simp
 |some v=>simpa using h v (List.mem_of_getElem? hx)
theorem fL.mem {xs:List Int} (h:fL xs):∀x∈xs,0≤x∧x<4294967296:=by
 intro x hx
 obtain⟨i,hi⟩:=List.getElem?_of_mem hx
 have:=h i
 rw[List.getD_eq_getElem?_getD,hi]at this
 exact this
theorem qE {xs ys:List Int}:∀{k:Nat},(∀i,i<k→xs.getD i 0=ys.getD i 0)→aB xs k=aB ys k
 |0,_=>rfl
 |k+1,h=>by rw[aB,aB,qE (fun i hi=>h i aa),h k aa]
theorem c9 {xs:List Int} {i k:Nat} {v:Int} (h:k≤i):aB (xs.set i v) k=aB xs k:=
 qE fun j hj=>by rw[aZ,if_neg aa]
theorem b8 {xs:List Int} (h:fL xs):∀k,0≤aB xs k
 |0=>Int.le_refl _
 |k+1=>by
  have:=b8 h k
  have h1:0≤xs.getD k 0*4294967296^k:=Int.mul_nonneg (h k).1 (Int.pow_nonneg aI)
  rw[aB];omega
theorem mM (k:Nat):(0:Int)<4294967296^k:=Int.pow_pos aI
theorem gy {xs:List Int} (h:fL xs):∀k,aB xs k<4294967296^k
 |0=>by simp[aB]
 |k+1=>by
  have h1:=gy h k
  have h2:xs.getD k 0*4294967296^k≤4294967295*4294967296^k:=Int.mul_le_mul_of_nonneg_right (by have:=(h k).2;omega) (Int.le_of_lt (mM k))
  rw[aB,Int.pow_succ];omega
theorem eD {xs:List Int} {k:Nat}:∀{n:Nat},(∀i,k≤i→i<n→xs.getD i 0=0)→k≤n→aB xs n=aB xs k
 |0,_,hk=>by obtain rfl:k=0:=aa
             rfl
 |n+1,h,hk=>by
  by_cases he:k=n+1
  ·subst he;rfl
  ·rw[aB,h n aa aa,eD (n:=n) (fun i h1 h2=>h i h1 aa) aa,Int.zero_mul,Int.add_zero]
def gZ (xs:List Int):Nat→Nat
 |0=>0
 |n+1=>if xs.getD n 0=0 then gZ xs n else n+1
theorem Bf (xs:List Int):∀n,gZ xs n≤n
 |0=>Nat.le_refl _
 |n+1=>by rw[gZ];split;exact Nat.le_succ_of_le (Bf xs n);exact Nat.le_refl _
theorem rO (xs:List Int):∀n,aB xs (gZ xs n)=aB xs n
 |0=>rfl
 |n+1=>by
  rw[gZ]
  split
  ·rename_i h;rw[rO xs n,aB,h,Int.zero_mul,Int.add_zero]
  ·rfl
theorem xm (xs:List Int):∀n,gZ xs n=0∨xs.getD (gZ xs n - 1) 0≠0
 |0=>.inl rfl
 |n+1=>by
  rw[gZ]
  split
  ·exact xm xs n
  ·rename_i h;exact .inr h
theorem rP {xs:List Int} (h:fL xs) {k:Nat} (ht:xs.getD k 0≠0):4294967296^k≤aB xs (k+1):=by
 have h1:=b8 h k
 have h2:1*4294967296^k≤xs.getD k 0*4294967296^k:=Int.mul_le_mul_of_nonneg_right (by have:=(h k).1;omega) (Int.le_of_lt (mM k))
 rw[aB];omega
theorem rQ:∀(f g n:Nat),n≤f→n≤g→cS f n=cS g n
 |0,0,_,_,_=>rfl
 |0,g+1,n,h,_=>by obtain rfl:n=0:=aa
                  simp[cS]
 |f+1,0,n,_,h=>by obtain rfl:n=0:=aa
                  simp[cS]
 |f+1,g+1,n,h,h'=>by
  unfold cS
  split
  ·rfl
  ·rw[rQ f g (n/4294967296) aa aa]
theorem EC {n:Nat} (h:n≠0):words n=n % 4294967296::words (n/4294967296):=by
 unfold words
 obtain⟨m,rfl⟩:∃m,n=m+1:=⟨n - 1,aa⟩
 rw[cS,if_neg h,rQ m ((m+1)/4294967296) _ aa (Nat.le_refl _)]
def af (n:Nat):List Int:=(words n).map Int.ofNat
theorem gD:af 0=[]:=rfl
theorem gE {n:Nat} (h:n≠0):af n=((n % 4294967296:Nat):Int)::af (n/4294967296):=by
 rw[af,EC h];rfl
theorem uo (x:Int) (xs:List Int):∀k,aB (x::xs) (k+1)=x+4294967296*aB xs k
 |0=>by simp[aB]
 |k+1=>by
  rw[aB,uo x xs k,aB,List.getD_cons_succ,Int.pow_succ]
  grind
theorem eM (n:Nat):aB (af n) (af n).length=n:=by
 induction n using Nat.strongRecOn with
 |_ n ih=>
  by_cases h:n=0
  ·subst h;rfl
  ·rw[gE h,List.length_cons,uo,ih _ aa];omega
theorem bh (n:Nat):fL (af n):=by
 refine Be fun x hx=> ?_
 obtain⟨w,hw,rfl⟩:=List.mem_map.1 hx
 have:=xe hw
 exact⟨Int.natCast_nonneg _,by show(w:Int)<_;omega⟩
theorem rR (n:Nat):(af n).length=(words n).length:=by simp[af]
theorem mN {n:Nat} (h:n≠0):(af n).length≠0∧(af n).getD ((af n).length - 1) 0≠0:=by
 induction n using Nat.strongRecOn with
 |_ n ih=>
  rw[gE h]
  refine⟨by simp, ?_⟩
  by_cases h1:n/4294967296=0
  ·rw[h1,gD]
   simp only[List.length_singleton,Nat.sub_self,List.getD_cons_zero]
   omega
  ·obtain⟨h2,h3⟩:=ih _ aa h1
   obtain⟨l,hl⟩:∃l,(af (n/4294967296)).length=l+1:=⟨(af (n/4294967296)).length - 1,aa⟩
   simp only[List.length_cons,hl,Nat.add_sub_cancel,List.getD_cons_succ]
   rw[hl]at h3
   simpa using h3
theorem xn:∀(k:Nat) (xs:List Int),fL xs→k≤xs.length→(k=0∨xs.getD (k - 1) 0≠0)→af (aB xs k).toNat=xs.take k
 |0,xs,_,_,_=>by simp[aB,gD]
 |k+1,[],_,h,_=>by simp at h
 |k+1,x::xs,hw,h,ht=>by
  have hx:=hw 0
  simp only[List.getD_cons_zero]at hx
  have F9:fL xs:=fun i=>by have:=hw (i+1);simpa using this
  have hv:=b8 F9 k
  have Sc:=xn k xs F9 (by simpa using h) (by
   cases k with
   |zero=>exact .inl rfl
   |succ k=>right;have:=ht.resolve_left aa;simpa using this)
  have hn:(aB (x::xs) (k+1)).toNat≠0:=by
   have Nn:=ht.resolve_left aa
   have:=rP hw (k:=k) (by simpa using Nn)
   have:=mM k
   omega
  rw[gE hn,uo,List.take_succ_cons]
  have e1:(x+4294967296*aB xs k).toNat % 4294967296=x.toNat:=aa
  have e2:(x+4294967296*aB xs k).toNat/4294967296=(aB xs k).toNat:=aa
  rw[e1,e2,Sc]
  congr 1
  omega
theorem rS {hp:List (Nat×aF)} {k:Nat} {b:aF} (h:find hp k=some b):∀j c,(j,c)∈[(k,b)]→find hp j=some c:=dh h
theorem cX (k:Nat):(((4294967296^k:Nat)):Int)=(4294967296:Int)^k:=by rw[Int.natCast_pow];rfl
theorem gL {n k:Nat} (h:n<4294967296^k):(af n).length≤k:=by
 by_cases hn:n=0
 ·subst hn;simp[gD]
 ·obtain⟨h1,h2⟩:=mN hn
  obtain⟨l,hl⟩:∃l,(af n).length=l+1:=⟨(af n).length - 1,aa⟩
  rw[hl]at h2
  have h3:=rP (bh n) (k:=l) (by simpa using h2)
  rw[←hl,eM]at h3
  refine Nat.le_of_not_lt fun aE=> ?_
  have h4:(4294967296:Int)^k≤4294967296^l:=by
   have:(4294967296:Nat)^k≤4294967296^l:=Nat.pow_le_pow_right aI aa
   rw[←cX,←cX];exact Int.ofNat_le.2 this
  have h5:(n:Int)<4294967296^k:=by rw[←cX];exact Int.ofNat_lt.2 h
  omega
theorem cg (n:Nat):n<4294967296^(af n).length:=by
 have:=gy (bh n) (af n).length
 rw[eM,←cX]at this
 exact Int.ofNat_lt.1 this
def zG (fk:List (Nat×aF)):List (Nat×aF)→Bool
 |[]=>true
 |(k,_)::r=>(match find fk k with
  |some b0=>b0.wr&&b0.data.live
  |none=>false)&&zG fk r
def rT (upd:List (Nat×aF)):List (Nat×aF)→Bool
 |[]=>true
 |(k,b)::r=>(!(b.wr&&b.data.live)||(find upd k).isSome)&&rT upd r
theorem nE {fk:List (Nat×aF)}:∀{upd:List (Nat×aF)},zG fk upd=true→∀k b,(k,b)∈upd→∃b0,(k,b0)∈fk∧b0.wr=true∧b0.data.live=true
 |(j,c)::r,h,k,b,hm=>by
  simp only[zG,Bool.and_eq_true]at h
  rcases List.mem_cons.1 hm with h1|h1
  ·cases h1
   cases hf:find fk j with
   |none=>rw[hf]at h;simp at h
   |some b0=>
    rw[hf]at h
    simp only[Bool.and_eq_true]at h
    exact⟨b0,jc hf,h.1⟩
  ·exact nE h.2 k b h1
theorem nF {upd:List (Nat×aF)}:∀{fk:List (Nat×aF)},rT upd fk=true→∀k b,(k,b)∈fk→b.wr=true→b.data.live=true→∃b',(k,b')∈upd
 |(j,c)::r,h,k,b,hm,hw,hl=>by
  simp only[rT,Bool.and_eq_true]at h
  rcases List.mem_cons.1 hm with h1|h1
  ·cases h1
   have:=h.1
   rw[hw,hl]at this
   cases hf:find upd j with
   |none=>rw[hf]at this;simp at this
   |some b0=>exact⟨b0,jc hf⟩
  ·exact nF h.2 k b h1 hw hl
theorem cI.of {args:List SV} {fk:List (Nat×aF)} {c:SV} {new upd:List (Nat×aF)} (h1:eJ (gg args) (az fk)=true) (h2:eJ (ij fk) (az fk)=true) (h3:oJ (az fk++az new)=true)
  (h4:rL new=true) (h5:rL upd=true) (h6:zG fk upd=true) (h7:rT upd fk=true) (h8:eJ (refs c) (az fk++az new)=true) (h9:eJ (ij new) (az fk++az new)=true)
  (Z2:eJ (ij upd) (az fk++az new)=true) (h11:args.all bx=true):cI args fk c new upd:=
 ⟨h1,h2,h3,h4,h5,nE h6,nF h7,h8,h9,Z2,h11⟩
def zH:List (Nat×aF)→Bool
 |[]=>true
 |(_,b)::r=> !b.wr&&zH r
theorem nG:∀{l:List (Nat×aF)},zH l=true→∀k b,(k,b)∈l→b.wr=false
 |(j,c)::r,h,k,b,hm=>by
  simp only[zH,Bool.and_eq_true,Bool.not_eq_true']at h
  rcases List.mem_cons.1 hm with h1|h1
  ·cases h1;exact h.1
  ·exact nG h.2 k b h1
theorem bo.ro {fk:List (Nat×aF)} {σ:Nat→Nat} (h:zH fk=true):bo fk [] σ:=
 ⟨(fun q q' b b' hq _ _ hw=>by rw[nG h q b hq]at hw;cases hw),(fun _ _ h=>by simp[az]at h),(fun _ _ h=>by simp[az]at h)⟩
theorem bo.one {m:Nat} {b:aF} {σ:Nat→Nat}:bo [] [(m,b)] σ:=
 ⟨(fun q q' b b' hq=>by cases hq),(fun m m' h1 h2 bW=>by simp[az]at h1 h2;omega),(fun _ _ _ h=>by simp[az]at h)⟩
theorem bo.PF {fk:List (Nat×aF)} {m:Nat} {b:aF} {σ:Nat→Nat} (h:zH fk=true) (hn:∀q∈az fk,σ m≠σ q):bo fk [(m,b)] σ:=
 ⟨(fun q q' b b' hq _ _ hw=>by rw[nG h q b hq]at hw;cases hw),(fun m m' h1 h2 bW=>by simp[az]at h1 h2;omega),(fun m' q h1 h2=>by
  have h1:m'=m:=by simpa [az]using h1
  rw[h1];exact hn q h2)⟩
theorem bo.upd {q:Nat} {b:aF} {σ:Nat→Nat}:bo [(q,b)] [] σ:=
 ⟨(fun q q' b b' h h' bW=>by simp at h h';omega),(fun _ _ h=>by simp[az]at h),(fun _ _ h=>by simp[az]at h)⟩
theorem bo.two {q r:Nat} {b c:aF} {σ:Nat→Nat} (h:σ q≠σ r):bo [(q,b),(r,c)] [] σ:=
 ⟨(fun x y b b' hx hy bW _=>by
  simp only[List.mem_cons,List.not_mem_nil,or_false,Prod.mk.injEq]at hx hy
  rcases hx with⟨rfl,_⟩|⟨rfl,_⟩<;>rcases hy with⟨rfl,_⟩|⟨rfl,_⟩
  ·exact absurd rfl bW
  ·exact h
  ·exact h.symm
  ·exact absurd rfl bW),(fun _ _ h=>by simp[az]at h),(fun _ _ h=>by simp[az]at h)⟩
theorem fY {hp:List (Nat×aF)} {k l:Nat} {b c:aF} (h:find hp k=some b) (h':find hp l=some c):∀j d,(j,d)∈[(k,b),(l,c)]→find hp j=some d:=fun j d hm=>by
 simp only[List.mem_cons,List.not_mem_nil,or_false,Prod.mk.injEq]at hm
 rcases hm with⟨rfl,rfl⟩|⟨rfl,rfl⟩
 ·exact h
 ·exact h'
theorem dd {fk:List (Nat×aF)} {k:Nat} {b0 b:aF} (h:(k,b0)∈fk) (h1:b0.wr=true) (h2:b0.data.live=true) (h3:b.wr=true):∀j c,(j,c)∈[(k,b)]→∃b0:aF,(j,b0)∈fk∧b0.wr=true∧b0.data.live=true∧c.wr=true:=fun j c hm=>by
 simp only[List.mem_singleton,Prod.mk.injEq]at hm
 obtain⟨rfl,rfl⟩:=hm
 exact⟨b0,h,h1,h2,h3⟩
theorem vR {fk:List (Nat×aF)} {k l:Nat} {b0 b c0 c:aF} (h:(k,b0)∈fk) (h1:b0.wr=true) (h2:b0.data.live=true) (h3:b.wr=true) (g:(l,c0)∈fk) (g1:c0.wr=true) (g2:c0.data.live=true) (g3:c.wr=true):
  ∀j d,(j,d)∈[(k,b),(l,c)]→∃b0:aF,(j,b0)∈fk∧b0.wr=true∧b0.data.live=true∧d.wr=true:=fun j d hm=>by
 simp only[List.mem_cons,List.not_mem_nil,or_false,Prod.mk.injEq]at hm
 rcases hm with⟨rfl,rfl⟩|⟨rfl,rfl⟩
 ·exact⟨b0,h,h1,h2,h3⟩
 ·exact⟨c0,g,g1,g2,g3⟩
def bJ (v n:Nat):List Int:=(List.range n).map fun i=>((v/4294967296^i % 4294967296:Nat):Int)
theorem c6 (v n:Nat):(bJ v n).length=n:=by simp[bJ]
theorem jq {v n i:Nat} (h:i<n):(bJ v n).getD i 0=((v/4294967296^i % 4294967296:Nat):Int):=by
 rw[List.getD_eq_getElem?_getD,bJ,List.getElem?_map,List.getElem?_range h];rfl
theorem gj (v n:Nat):fL (bJ v n):=by
 refine Be fun x hx=> ?_
 obtain⟨i,_,rfl⟩:=List.mem_map.1 hx
 omega
theorem JH {xs:List Int} (hx:fL xs) {n:Nat}:∀{k:Nat},k≤n→aB xs n % 4294967296^k=aB xs k:=by
 intro k hk
 induction n with
 |zero=>
  obtain rfl:k=0:=aa
  simp[aB]
 |succ n ih=>
  by_cases he:k=n+1
  ·subst he
   exact Int.emod_eq_of_lt (b8 hx _) (gy hx _)
  ·rw[aB,show n=k+(n - k)from aa,Int.pow_add,←show n=k+(n - k)from aa,Int.mul_left_comm,Int.add_mul_emod_self_left]
   exact ih aa
theorem JI {xs:List Int} (hx:fL xs) {i n:Nat} (h:i<n):aB xs n/4294967296^i % 4294967296=xs.getD i 0:=by
 have h1:=JH hx (n:=n) (k:=i+1) aa
 have hp:=mM i
 have e:aB xs n=aB xs (i+1)+4294967296^(i+1)*(aB xs n/4294967296^(i+1)):=by
  rw[←h1];exact(Int.emod_add_mul_ediv _ _).symm
 have h0:=b8 hx i
 have hl:=gy hx i
 have e2:aB xs n=aB xs i+4294967296^i*(xs.getD i 0+4294967296*(aB xs n/4294967296^(i+1))):=by
  conv=>lhs;rw[e]
  rw[aB,Int.pow_succ]
  grind
 rw[e2,Int.add_mul_ediv_left _ _ aa,Int.ediv_eq_zero_of_lt h0 hl,Int.zero_add,Int.add_mul_emod_self_left]
 exact Int.emod_eq_of_lt (hx i).1 (hx i).2
theorem No {xs:List Int} (hx:fL xs) {v:Nat} (hv:aB xs xs.length=v):xs=bJ v xs.length:=by
 refine List.ext_getElem? fun i=> ?_
 by_cases hi:i<xs.length
 ·have h1:=JI hx hi
  have h2:=jq (v:=v) hi
  rw[hv,←cX,←Int.natCast_ediv,show((v/4294967296^i:Nat):Int) % 4294967296=((v/4294967296^i % 4294967296:Nat):Int)from rfl,←h2,List.getD_eq_getElem?_getD,List.getD_eq_getElem?_getD]at h1
  have hl:i<(bJ v xs.length).length:=by rw[c6];exact hi
  rw[List.getElem?_eq_getElem hi,List.getElem?_eq_getElem hl]at h1 ⊢
  simpa using h1.symm
 ·rw[List.getElem?_eq_none aa,List.getElem?_eq_none (by rw[c6];omega)]
theorem oM {xs:List Int} {n:Nat} (hl:xs.length=n) (hx:fL xs) {v:Nat} (hv:aB xs n=v):xs=bJ v n:=by
 subst hl;exact No hx hv
theorem gM (v n:Nat):aB (bJ v n) n=((v % 4294967296^n:Nat):Int):=by
 have key:∀k,k≤n→aB (bJ v n) k=((v % 4294967296^k:Nat):Int):=by
  intro k hk
  induction k with
  |zero=>simp[aB,Nat.mod_one]
  |succ k ih=>
   rw[aB,ih aa,jq aa,←cX,←Int.natCast_mul,←Int.natCast_add,Nat.pow_succ,Nat.mod_mul,Nat.mul_comm (4294967296^k)]
 exact key n (Nat.le_refl n)
theorem mO {xs:List Int} {i:Nat} {v:Int}:∀{n:Nat},i<n→i<xs.length→aB (xs.set i v) n=aB xs n+(v - xs.getD i 0)*4294967296^i
 |0,h,_=>aa
 |n+1,h,hl=>by
  by_cases he:i=n
  ·subst he
   rw[aB,aB,c9 (Nat.le_refl _),aZ,if_pos ⟨rfl,hl⟩];grind
  ·rw[aB,aB,mO (n:=n) aa hl,aZ,if_neg aa];grind
end Go.Sx
namespace Go.Sx
theorem wf_u32 {x:Int} (h:(Lit.int .u32 x).wf=true):0≤x∧x<4294967296:=by
 simp[Lit.wf,IntKind.min,IntKind.max,IntKind.bits,IntKind.signed]at h;omega
theorem wf_u8 {x:Int} (h:(Lit.int .u8 x).wf=true):0≤x∧x<256:=by
 simp[Lit.wf,IntKind.min,IntKind.max,IntKind.bits,IntKind.signed]at h;omega
theorem wf_i64 {x:Int} (h:(Lit.int .i64 x).wf=true): -9223372036854775808≤x∧x<9223372036854775808:=by
 simp[Lit.wf,IntKind.min,IntKind.max,IntKind.bits,IntKind.signed]at h;omega
theorem zI {P:Program} {W:World} {x:String×DataW Unit} {rest:List (String×DataW Unit)} (h:laidMet P (x::rest) W):laidMet P rest W:=by
 obtain⟨n,d⟩:=x
 obtain⟨ps,⟨g,t,cs,fuel,p,q,_,_,_,_,hr,rfl⟩,hn,hb⟩:=h
 exact⟨q,hr,(List.nodup_append.1 hn).2.1,fun b off hm=>hb b off (List.mem_append.2 (.inr hm))⟩
section
variable {α:Type} {p:α→Bool} {l:List α} {d:α}
theorem eK {i:Nat} (h:i<l.length):l.getD i d∈l:=by rw[List.getD_eq_getElem?_getD,List.getElem?_eq_getElem h];exact List.getElem_mem h
theorem rU {x:α} (h:x∈l) (d:α):∃i,i<l.length∧l.getD i d=x:=by
 obtain⟨i,hi,rfl⟩:=List.getElem_of_mem h
 exact⟨i,hi,by rw[List.getD_eq_getElem?_getD,List.getElem?_eq_getElem hi];rfl⟩
theorem ED {i:Nat} (h:i<l.length) (hp:p (l.getD i d)=true):l.any p=true:=List.any_eq_true.2 ⟨_,eK h,hp⟩
theorem xo (d:α) (h:∀i,i<l.length→p (l.getD i d)=false):l.any p=false:=by
 rw[List.any_eq_false]
 intro x hx
 obtain⟨i,hi,rfl⟩:=rU hx d
 rw[h i hi];exact Bool.false_ne_true
theorem JJ (d:α) (h:∀i,i<l.length→p (l.getD i d)=true):l.all p=true:=by
 rw[List.all_eq_true]
 intro x hx
 obtain⟨i,hi,rfl⟩:=rU hx d
 exact h i hi
theorem JK {i:Nat} (h:i<l.length) (hp:p (l.getD i d)=false):l.all p=false:=by
 rw[List.all_eq_false]
 exact⟨_,eK (d:=d) h,by rw[hp];exact Bool.false_ne_true⟩
end
theorem br {i:Nat} (h:i<4611686018427387904):IntKind.i64.wrap ((i:Int)+1)=((i+1:Nat):Int):=by rw[wrap_i64 aa aa];omega
theorem dx {i n:Nat} (h:i<n):decide ((i:Int)<(n:Int))=true:=decide_eq_true aa
theorem dA {i n:Nat} (h:¬i<n):decide ((i:Int)<(n:Int))=false:=decide_eq_false aa
theorem fp {α:Type} {d e:α} {r:List α} {i n:Nat} (hi:i<n) (hn:r.length=n):(r.take i++List.replicate (n - i) d).set i (r.getD i e)=r.take (i+1)++List.replicate (n - (i+1)) d:=by
 have hl:(r.take i).length=i:=by rw[List.length_take];omega
 rw[List.set_append_right _ _ aa,hl,Nat.sub_self,show n - i=(n - (i+1))+1 from aa,List.replicate_succ,List.set_cons_zero]
 have e:r.take (i+1)=r.take i++[r.getD i e]:=by rw[List.take_add_one,List.getD_eq_getElem?_getD,List.getElem?_eq_getElem aa];rfl
 rw[e,List.append_assoc];rfl
theorem dG {α:Type} {d:α} {r:List α} {i n:Nat} (hi:i≤n) (hn:r.length=n):(r.take i++List.replicate (n - i) d).length=n:=by simp;omega
theorem fu {α:Type} {d:α} {r:List α} {n:Nat} (hn:r.length=n):r.take n++List.replicate (n - n) d=r:=by simp[←hn]
theorem nH {α β γ:Type} {f:α→β→γ} {a:List α} {b:List β} {n:Nat} (ha:a.length=n) (hb:b.length=n):(List.zipWith f a b).length=n:=by simp[ha,hb]
theorem rV {α β γ:Type} {f:α→β→γ} {a:List α} {b:List β} {i:Nat} {d1:α} {d2:β} {d3:γ} (ha:i<a.length) (hb:i<b.length):(List.zipWith f a b).getD i d3=f (a.getD i d1) (b.getD i d2):=by
 simp[List.getD_eq_getElem?_getD,List.getElem?_zipWith,List.getElem?_eq_getElem ha,List.getElem?_eq_getElem hb]
theorem fv {E:Env} (t k:Nat) {c:Code} {K:bI} {fr:List (Nat×SV)} {hp:List (Nat×aF)} {ty:TypeId} {n:Nat} {qs:List Rat} (hW:∀b,¬E.W0 b) (ht:lk fr t=some (.aO k 5 0 n)) (hk:find hp k=some ⟨ty,true,.cb qs⟩)
  (hn:n=qs.length) (hs:ey E c K ((t,aN qs)::fr) (ff hp k ⟨ty,true,.dead⟩)):ey E c K fr hp:=by
 refine kG t k (xs:=qs.map .frac) hW ht hk rfl rfl (bN (fun _=>rfl) qs) (by simp;omega) ?_
 rw[gi (by simp;omega)]
 exact hs
theorem jH.gb {ρ:bU} {w w':World} {c:SV} {v:Value} (hb:RowKit.Below w.heap.size w w') (h:Has ρ c v):jH ρ w c [] [] v ρ w':=
 ⟨.refl ρ,h,fun _ _=>rfl,.gb hb,(fun k b h=>by rcases h with h|h<;>cases h),(fun _ _ _ h=>by cases h),(fun k b x h=>by cases h),(fun k b k' b' x x' h=>by cases h),fun b o h=>.inl h⟩
theorem xp {ρ:bU}:∀{vs:List Value} {z:List (List Value)},aw ρ (vs.map .val) z→List.zipWith cQ (vs.map .val) z=vs
 |[],z,h=>by simp
 |v::vs,z,h=>by
  simp only[List.map_cons,aw,aL]at h
  obtain⟨x,r,rfl,⟨rfl,_⟩,h2⟩:=h
  simp[xp h2,cQ,SV.bl]
theorem zJ {P:Program} {f:FuncId} {vs:List Value} {v:Value} (hf:Cr P f) (hv:v.oneCell'=true) (h:∀w:World,Calls P f vs.toArray w fun e w'=>e= .returned v∧RowKit.Below w.heap.size w w'):ab P f (vs.map .val) [] (.val v) [] []:=by
 refine .inl ⟨hf,fun ρ w z hz _=> ?_⟩
 rw[xp hz]
 refine(h w).mono ?_
 rintro e w' ⟨rfl,hb⟩
 exact⟨v,ρ,rfl,.gb hb (cd hv)⟩
theorem EE {P:Program} {f:FuncId} {vs:List Value} {v:Value} (hf:Cr P f) (hv:v.oneCell'=true) (h:∀w:World,Calls P f vs.toArray w fun e w'=>e= .returned v∧w'=w):ab P f (vs.map .val) [] (.val v) [] []:=
 zJ hf hv fun w=>(h w).mono fun _ _ ⟨he,hw⟩=>⟨he,hw▸RowKit.Below.refl _ _⟩
def q7 (s:ByteArray):SV:=.val (.string s)
theorem Hx {P:Program} {f:FuncId} {ss:List ByteArray} {sep:ByteArray} {v:Value} (hf:Cr P f) (hv:v.oneCell'=true)
  (h0:ss=[]→∀(a:Option Addr) (w:World),Calls P f #[.slice a 0 0,.string sep] w fun e w'=>e= .returned v∧w'=w)
  (h:∀(bk o c:Nat) (w:World),(∀(j:Nat) x,ss[j]? =some x→w.cell? ⟨bk,o+j,none⟩=some (.string x))→bk<w.heap.size→ss.length≤c→Calls P f #[.slice (some ⟨bk,o,none⟩) ss.length c,.string sep] w fun e w'=>e= .returned v∧RowKit.Below w.heap.size w w'):
  ab P f [bF 1 q7 ss,.val (.string sep)] [] (.val v) [] []:=by
 refine .inl ⟨hf,fun ρ w z hz hp=> ?_⟩
 simp only[aw,aL]at hz
 obtain⟨x,_,rfl,hx,y,_,rfl,⟨rfl,_⟩,rfl⟩:=hz
 have fin:∀(a:Value),(Calls P f #[a,.string sep] w fun e w'=>e= .returned v∧RowKit.Below w.heap.size w w')→Calls P f (List.zipWith cQ [bF 1 q7 ss,SV.val (.string sep)] [[a],[.string sep]]).toArray w fun e w'=>∃v' ρ',e= .returned v'∧jH ρ w (.val v) [] [] v' ρ' w':=fun a hc=>by
  have e:(List.zipWith cQ [bF 1 q7 ss,SV.val (.string sep)] [[a],[.string sep]]).toArray= #[a,.string sep]:=by simp[cQ,SV.bl,Hk]
  rw[e]
  refine hc.mono ?_
  rintro e w' ⟨rfl,hb⟩
  exact⟨v,ρ,rfl,.gb hb (cd hv)⟩
 rcases hx with⟨hn,a,rfl⟩|⟨hg,b,cap,z,pre,ex,ty,fz,h1,h2,h3,h4,h5,rfl⟩
 ·refine fin _ ?_
  have hn:ss=[]:=by simpa using hn
  exact(h0 hn a w).mono fun _ _ ⟨he,hw⟩=>⟨he,hw▸RowKit.Below.refl _ _⟩
 ·refine fin _ ?_
  rw[List.length_map]at h4 ⊢
  have hh:=hp.bf b _ h1
  have hz:∀(l:List ByteArray) (z:List (List Value)),aw (cR ρ.bf hg) (l.map q7) z→z.flatten=l.map .string:=by
   intro l
   induction l with
   |nil=>intro z hz;simp only[List.map_nil,aw]at hz;subst hz;rfl
   |cons s l ih=>
    intro z hz
    simp only[List.map_cons,aw,q7,aL]at hz
    obtain⟨x,r,rfl,⟨rfl,_⟩,h⟩:=hz
    simp[ih r h]
  refine h b pre.length cap w (fun j x hj=> ?_) ?_ h4
  ·rw[cell_of_row w b _ _ ty fz hh,List.getElem?_toArray,List.getElem?_append_right aa,Nat.add_sub_cancel_left,hz ss z h2]
   rw[List.getElem?_append_left (by rw[List.length_map];exact(List.getElem?_eq_some_iff.1 hj).1),List.getElem?_map,hj];rfl
  ·rcases Nat.lt_or_ge b w.heap.size with h'|h'
   ·exact h'
   ·simp[Array.getElem?_eq_none h']at hh
theorem eA {α:Type} {E:Env} (t k:Nat) {c:Code} {K:bI} {fr:List (Nat×SV)} {hp:List (Nat×aF)} {ty:TypeId} {w n:Nat} {f:α→SV} {l:List α} (hW:∀b,¬E.W0 b) (hf:∀x,bP (f x)=true) (ht:lk fr t=some (.aO k w 0 n)) (hk:find hp k=some ⟨ty,true,.seq w (l.map f)⟩)
  (hn:n=l.length) (hs:ey E c K ((t,bF w f l)::fr) (ff hp k ⟨ty,true,.dead⟩)):ey E c K fr hp:=by
 refine kG t k (xs:=l.map f) hW ht hk rfl rfl (bN hf l) (by simp;omega) ?_
 rw[gi (by simp;omega)]
 exact hs
theorem ab.args {P:Program} {f:FuncId} {args args':List SV} {fk:List (Nat×aF)} {c:SV} {new upd:List (Nat×aF)} (h:ab P f args' fk c new upd) (hr:∀ρ z,aw ρ args z→aw ρ args' z) (hz:∀z,List.zipWith cQ args z=List.zipWith cQ args' z):ab P f args fk c new upd:=by
 rcases h with⟨h1,h2⟩|h2
 ·exact .inl ⟨h1,fun ρ w z h hp=>by rw[hz];exact h2 ρ w z (hr ρ z h) hp⟩
 ·exact .inr fun ρ w z h hp=>by rw[hz];exact h2 ρ w z (hr ρ z h) hp
theorem rW {ρ:bU} {a:Option Addr} {w:Nat} {x:List Value} (h:aL ρ (.val (.slice a 0 0)) x):aL ρ (eI w []) x:=by
 simp only[aL]at h ⊢
 exact .inl ⟨rfl,a,h.1⟩
theorem JL {α:Type} {d e:α} {r:List α} {i n:Nat} (hi:i<n) (hn:r.length=n):(r.take i++List.replicate (n - i) d).getD i e=d:=by
 have hl:(r.take i).length=i:=by rw[List.length_take];omega
 rw[List.getD_eq_getElem?_getD,List.getElem?_append_right aa,hl,Nat.sub_self,List.getElem?_replicate,if_pos aa];rfl
end Go.Sx
namespace Go.Proofs.YtfpagioknjjacaaGreatDoor
open Go.Sx
set_option maxRecDepth 100000
theorem an {t:TypeId} {ti:TI} {z:Value} (hk:ti.kind.ok Tryz.prog t) (h1:(Tryz.prog.info? t).map (fun i=>(i.size,i.bytes,i.zero))=some (ti.size,ti.bytes,some z):=by kernel_rfl) (h2:z.cells.toList=ti.zero.flatMap eY:=by kernel_rfl) (h3:ti.zero.all Rp=true:=by kernel_rfl) (h4:z.cells.size=ti.size:=by kernel_rfl) (h5:z=(if ti.kind.isAgg then .agg z.cells else z.cells.getD 0 undef):=by kernel_rfl):aG Tryz.prog t ti:=aG.of hk h1 h2 h3 h4 h5
def ax:TI:=⟨.other,1,8,[.val .nilFunc]⟩
theorem adD:aG Tryz.prog 1 ax:=an (z:=.nilFunc) ⟨_,Tryz.underlying1,rfl⟩
def D8:TI:=⟨.int .i64,1,8,[.val (.int .i64 0)]⟩
theorem afN:D8.bytes=8:=rfl
theorem adE:aG Tryz.prog 2 D8:=an (z:=(.int .i64 0)) (by kernel_rfl:Tryz.prog.underlying 2=some (.int .i64))
def Sd:TI:=⟨.int .i64,1,8,[.val (.int .i64 0)]⟩
theorem Se:Sd.bytes=8:=rfl
theorem adF:aG Tryz.prog 3 Sd:=an (z:=(.int .i64 0)) (by kernel_rfl:Tryz.prog.underlying 3=some (.int .i64))
def ti4:TI:=⟨.bool,1,1,[.val (.bool false)]⟩
theorem afO:ti4.bytes=1:=rfl
theorem adG:aG Tryz.prog 4 ti4:=an (z:=(.bool false)) (by kernel_rfl:Tryz.prog.underlying 4=some (.bool))
def ti5:TI:=⟨.int .u8,1,1,[.val (.int .u8 0)]⟩
theorem afP:ti5.bytes=1:=rfl
theorem adH:aG Tryz.prog 5 ti5:=an (z:=(.int .u8 0)) (by kernel_rfl:Tryz.prog.underlying 5=some (.int .u8))
def ti9:TI:=⟨.str,1,16,[.val (.string .empty)]⟩
theorem afQ:ti9.bytes=16:=rfl
theorem adI:aG Tryz.prog 9 ti9:=an (z:=(.string .empty)) (by kernel_rfl:Tryz.prog.underlying 9=some (.string))
def Z3:TI:=⟨.int .u64,1,8,[.val (.int .u64 0)]⟩
theorem Z4:aG Tryz.prog 12 Z3:=an (z:=(.int .u64 0)) (by kernel_rfl:Tryz.prog.underlying 12=some (.int .u64))
def Z5:TI:=⟨.agg [(0,9,1),(1,12,1)],2,24,[.val (.string .empty),.val (.int .u64 0)]⟩
theorem Z6:aG Tryz.prog 13 Z5:=an (z:=.agg #[(.string .empty),(.int .u64 0)]) ⟨av,av,av⟩
def Z7:TI:=⟨.int .i32,1,4,[.val (.int .i32 0)]⟩
theorem Z8:aG Tryz.prog 21 Z7:=an (z:=(.int .i32 0)) (by kernel_rfl:Tryz.prog.underlying 21=some (.int .i32))
def Z9:TI:=⟨.aO 25,1,24,[.val (.slice none 0 0)]⟩
theorem aaa:aG Tryz.prog 22 Z9:=an (z:=(.slice none 0 0)) (by kernel_rfl:Tryz.prog.underlying 22=some (.slice 25))
def Np:TI:=⟨.int .u32,1,4,[.val (.int .u32 0)]⟩
theorem aeL:Np.bytes=4:=rfl
theorem aab:aG Tryz.prog 23 Np:=an (z:=(.int .u32 0)) (by kernel_rfl:Tryz.prog.underlying 23=some (.int .u32))
def aac:TI:=⟨.agg [(0,2,1),(1,23,1)],2,16,[.val (.int .i64 0),.val (.int .u32 0)]⟩
theorem aad:aG Tryz.prog 24 aac:=an (z:=.agg #[(.int .i64 0),(.int .u32 0)]) ⟨av,av,av⟩
def Sf:TI:=⟨.agg [(0,2,1),(1,23,1)],2,16,[.val (.int .i64 0),.val (.int .u32 0)]⟩
theorem aae:Sf.bytes=16:=rfl
theorem aaf:aG Tryz.prog 25 Sf:=an (z:=.agg #[(.int .i64 0),(.int .u32 0)]) ⟨av,av,av⟩
def aag:TI:=⟨.agg [(0,5,1),(1,5,1),(2,22,1)],3,32,[.val (.int .u8 0),.val (.int .u8 0),.val (.slice none 0 0)]⟩
theorem aah:aG Tryz.prog 26 aag:=an (z:=.agg #[(.int .u8 0),(.int .u8 0),(.slice none 0 0)]) ⟨av,av,av⟩
def aai:TI:=⟨.agg [(0,5,1),(1,5,1),(2,22,1)],3,32,[.val (.int .u8 0),.val (.int .u8 0),.val (.slice none 0 0)]⟩
theorem aaj:aG Tryz.prog 27 aai:=an (z:=.agg #[(.int .u8 0),(.int .u8 0),(.slice none 0 0)]) ⟨av,av,av⟩
theorem aak:aG Tryz.prog 28 ax:=an (z:=.nilFunc) ⟨_,Tryz.underlying28,rfl⟩
theorem aal:aG Tryz.prog 29 ax:=an (z:=.nilFunc) ⟨_,Tryz.underlying29,rfl⟩
theorem aam:aG Tryz.prog 30 ax:=an (z:=.nilFunc) ⟨_,Tryz.underlying30,rfl⟩
theorem aan:aG Tryz.prog 31 ax:=an (z:=.nilFunc) ⟨_,Tryz.underlying31,rfl⟩
theorem aao:aG Tryz.prog 32 ax:=an (z:=.nilFunc) ⟨_,Tryz.underlying32,rfl⟩
def Nq:TI:=⟨.aO 3,1,24,[.val (.slice none 0 0)]⟩
theorem aeM:Nq.bytes=24:=rfl
theorem aap:aG Tryz.prog 33 Nq:=an (z:=(.slice none 0 0)) (by kernel_rfl:Tryz.prog.underlying 33=some (.slice 3))
theorem aaq:aG Tryz.prog 34 ax:=an (z:=.nilFunc) ⟨_,Tryz.underlying34,rfl⟩
theorem aar:aG Tryz.prog 35 ax:=an (z:=.nilFunc) ⟨_,Tryz.underlying35,rfl⟩
def Nr:TI:=⟨.aO 52,1,24,[.val (.slice none 0 0)]⟩
theorem aeN:Nr.bytes=24:=rfl
theorem aas:aG Tryz.prog 36 Nr:=an (z:=(.slice none 0 0)) (by kernel_rfl:Tryz.prog.underlying 36=some (.slice 52))
def aat:TI:=⟨.agg [(0,3,1),(1,3,1),(2,36,1)],3,40,[.val (.int .i64 0),.val (.int .i64 0),.val (.slice none 0 0)]⟩
theorem aau:aG Tryz.prog 37 aat:=an (z:=.agg #[(.int .i64 0),(.int .i64 0),(.slice none 0 0)]) ⟨av,av,av⟩
def Ns:TI:=⟨.agg [(0,3,1),(1,3,1),(2,36,1)],3,40,[.val (.int .i64 0),.val (.int .i64 0),.val (.slice none 0 0)]⟩
theorem aeO:Ns.bytes=40:=rfl
theorem aav:aG Tryz.prog 38 Ns:=an (z:=.agg #[(.int .i64 0),(.int .i64 0),(.slice none 0 0)]) ⟨av,av,av⟩
theorem aaw:aG Tryz.prog 39 ax:=an (z:=.nilFunc) ⟨_,Tryz.underlying39,rfl⟩
def aax:TI:=⟨.int .i64,1,8,[.val (.int .i64 0)]⟩
theorem aay:aG Tryz.prog 40 aax:=an (z:=(.int .i64 0)) (by kernel_rfl:Tryz.prog.underlying 40=some (.int .i64))
theorem aaz:aG Tryz.prog 42 ax:=an (z:=.nilFunc) ⟨_,Tryz.underlying42,rfl⟩
theorem aaA:aG Tryz.prog 43 ax:=an (z:=.nilFunc) ⟨_,Tryz.underlying43,rfl⟩
def Nt:TI:=⟨.int .u64,1,8,[.val (.int .u64 0)]⟩
theorem aeP:Nt.bytes=8:=rfl
theorem aaB:aG Tryz.prog 44 Nt:=an (z:=(.int .u64 0)) (by kernel_rfl:Tryz.prog.underlying 44=some (.int .u64))
def aaC:TI:=⟨.agg [(0,44,1),(1,9,1)],2,24,[.nat 0]⟩
theorem aaD:aG Tryz.prog 45 aaC:=an (z:=.agg #[(.int .u64 0),(.string .empty)]) ⟨av,av,av⟩
def Nu:TI:=⟨.agg [(0,44,1),(1,9,1)],2,24,[.nat 0]⟩
theorem aeQ:Nu.bytes=24:=rfl
theorem aaE:aG Tryz.prog 46 Nu:=an (z:=.agg #[(.int .u64 0),(.string .empty)]) ⟨av,av,av⟩
def aaF:TI:=⟨.agg [(0,46,2)],2,24,[.nat 0]⟩
theorem aaG:aG Tryz.prog 47 aaF:=an (z:=.agg #[(.int .u64 0),(.string .empty)]) ⟨av,av,av⟩
def aaH:TI:=⟨.agg [(0,46,2)],2,24,[.nat 0]⟩
theorem aaI:aG Tryz.prog 48 aaH:=an (z:=.agg #[(.int .u64 0),(.string .empty)]) ⟨av,av,av⟩
def aaJ:TI:=⟨.agg [(0,48,2),(2,4,1)],3,32,[.int 0]⟩
theorem aaK:aG Tryz.prog 49 aaJ:=an (z:=.agg #[(.int .u64 0),(.string .empty),(.bool false)]) ⟨av,av,av⟩
def Nv:TI:=⟨.agg [(0,48,2),(2,4,1)],3,32,[.int 0]⟩
theorem aeR:Nv.bytes=32:=rfl
theorem aaL:aG Tryz.prog 50 Nv:=an (z:=.agg #[(.int .u64 0),(.string .empty),(.bool false)]) ⟨av,av,av⟩
def aaM:TI:=⟨.agg [(0,50,3),(3,46,2)],5,56,[.frac 0]⟩
theorem aaN:aG Tryz.prog 51 aaM:=an (z:=.agg #[(.int .u64 0),(.string .empty),(.bool false),(.int .u64 0),(.string .empty)]) ⟨av,av,av⟩
def EF:TI:=⟨.agg [(0,50,3),(3,46,2)],5,56,[.frac 0]⟩
theorem CX:EF.bytes=56:=rfl
theorem aaO:aG Tryz.prog 52 EF:=an (z:=.agg #[(.int .u64 0),(.string .empty),(.bool false),(.int .u64 0),(.string .empty)]) ⟨av,av,av⟩
theorem aaP:aG Tryz.prog 53 ax:=an (z:=.nilFunc) ⟨_,Tryz.underlying53,rfl⟩
def Nw:TI:=⟨.aO 52,1,24,[.val (.slice none 0 0)]⟩
theorem aeS:Nw.bytes=24:=rfl
theorem aaQ:aG Tryz.prog 54 Nw:=an (z:=(.slice none 0 0)) (by kernel_rfl:Tryz.prog.underlying 54=some (.slice 52))
theorem aaR:aG Tryz.prog 56 ax:=an (z:=.nilFunc) ⟨_,Tryz.underlying56,rfl⟩
theorem aaS:aG Tryz.prog 57 ax:=an (z:=.nilFunc) ⟨_,Tryz.underlying57,rfl⟩
theorem aaT:aG Tryz.prog 58 ax:=an (z:=.nilFunc) ⟨_,Tryz.underlying58,rfl⟩
theorem aaU:aG Tryz.prog 59 ax:=an (z:=.nilFunc) ⟨_,Tryz.underlying59,rfl⟩
theorem aaV:aG Tryz.prog 60 ax:=an (z:=.nilFunc) ⟨_,Tryz.underlying60,rfl⟩
def aaW:TI:=⟨.aO 5,1,24,[.val (.slice none 0 0)]⟩
theorem aaX:aG Tryz.prog 61 aaW:=an (z:=(.slice none 0 0)) (by kernel_rfl:Tryz.prog.underlying 61=some (.slice 5))
theorem aaY:aG Tryz.prog 62 ax:=an (z:=.nilFunc) ⟨_,Tryz.underlying62,rfl⟩
theorem aaZ:aG Tryz.prog 63 ax:=an (z:=.nilFunc) ⟨_,Tryz.underlying63,rfl⟩
theorem aa0:aG Tryz.prog 64 ax:=an (z:=.nilFunc) ⟨_,Tryz.underlying64,rfl⟩
theorem aa1:aG Tryz.prog 65 ax:=an (z:=.nilFunc) ⟨_,Tryz.underlying65,rfl⟩
theorem aa2:aG Tryz.prog 66 ax:=an (z:=.nilFunc) ⟨_,Tryz.underlying66,rfl⟩
theorem aa3:aG Tryz.prog 67 ax:=an (z:=.nilFunc) ⟨_,Tryz.underlying67,rfl⟩
theorem aa4:aG Tryz.prog 69 ax:=an (z:=.nilFunc) ⟨_,Tryz.underlying69,rfl⟩
def aa5:TI:=⟨.aO 74,1,24,[.val (.slice none 0 0)]⟩
theorem aa6:aG Tryz.prog 70 aa5:=an (z:=(.slice none 0 0)) (by kernel_rfl:Tryz.prog.underlying 70=some (.slice 74))
theorem aa7:aG Tryz.prog 71 ax:=an (z:=.nilFunc) ⟨_,Tryz.underlying71,rfl⟩
theorem aa8:aG Tryz.prog 73 ax:=an (z:=.nilFunc) ⟨_,Tryz.underlying73,rfl⟩
def Nx:TI:=⟨.aO 81,1,24,[.val (.slice none 0 0)]⟩
theorem aeT:Nx.bytes=24:=rfl
theorem aa9:aG Tryz.prog 74 Nx:=an (z:=(.slice none 0 0)) (by kernel_rfl:Tryz.prog.underlying 74=some (.slice 81))
theorem aba:aG Tryz.prog 75 ax:=an (z:=.nilFunc) ⟨_,Tryz.underlying75,rfl⟩
theorem abb:aG Tryz.prog 76 ax:=an (z:=.nilFunc) ⟨_,Tryz.underlying76,rfl⟩
def Ny:TI:=⟨.aO 3,1,24,[.val (.slice none 0 0)]⟩
theorem aeU:Ny.bytes=24:=rfl
theorem abc:aG Tryz.prog 77 Ny:=an (z:=(.slice none 0 0)) (by kernel_rfl:Tryz.prog.underlying 77=some (.slice 3))
def abd:TI:=⟨.agg [(0,4,1),(1,77,1)],2,32,[.val (.bool false),.val (.slice none 0 0)]⟩
theorem abe:aG Tryz.prog 78 abd:=an (z:=.agg #[(.bool false),(.slice none 0 0)]) ⟨av,av,av⟩
def Nz:TI:=⟨.agg [(0,4,1),(1,77,1)],2,32,[.val (.bool false),.val (.slice none 0 0)]⟩
theorem aeV:Nz.bytes=32:=rfl
theorem abf:aG Tryz.prog 79 Nz:=an (z:=.agg #[(.bool false),(.slice none 0 0)]) ⟨av,av,av⟩
def abg:TI:=⟨.agg [(0,79,2),(2,77,1)],3,56,[.val (.bool false),.val (.slice none 0 0),.val (.slice none 0 0)]⟩
theorem abh:aG Tryz.prog 80 abg:=an (z:=.agg #[(.bool false),(.slice none 0 0),(.slice none 0 0)]) ⟨av,av,av⟩
def NA:TI:=⟨.agg [(0,79,2),(2,77,1)],3,56,[.val (.bool false),.val (.slice none 0 0),.val (.slice none 0 0)]⟩
theorem aeW:NA.bytes=56:=rfl
theorem abi:aG Tryz.prog 81 NA:=an (z:=.agg #[(.bool false),(.slice none 0 0),(.slice none 0 0)]) ⟨av,av,av⟩
theorem abj:aG Tryz.prog 83 ax:=an (z:=.nilFunc) ⟨_,Tryz.underlying83,rfl⟩
theorem abk:aG Tryz.prog 84 ax:=an (z:=.nilFunc) ⟨_,Tryz.underlying84,rfl⟩
theorem abl:aG Tryz.prog 86 ax:=an (z:=.nilFunc) ⟨_,Tryz.underlying86,rfl⟩
theorem abm:aG Tryz.prog 87 ax:=an (z:=.nilFunc) ⟨_,Tryz.underlying87,rfl⟩
theorem abn:aG Tryz.prog 88 ax:=an (z:=.nilFunc) ⟨_,Tryz.underlying88,rfl⟩
def abo:TI:=⟨.aO 2,1,24,[.val (.slice none 0 0)]⟩
theorem abp:aG Tryz.prog 89 abo:=an (z:=(.slice none 0 0)) (by kernel_rfl:Tryz.prog.underlying 89=some (.slice 2))
def abq:TI:=⟨.agg [(0,5,1),(1,5,1),(2,89,1)],3,32,[.val (.int .u8 0),.val (.int .u8 0),.val (.slice none 0 0)]⟩
theorem abr:aG Tryz.prog 90 abq:=an (z:=.agg #[(.int .u8 0),(.int .u8 0),(.slice none 0 0)]) ⟨av,av,av⟩
def abt:TI:=⟨.agg [(0,5,1),(1,5,1),(2,89,1)],3,32,[.val (.int .u8 0),.val (.int .u8 0),.val (.slice none 0 0)]⟩
theorem abu:aG Tryz.prog 91 abt:=an (z:=.agg #[(.int .u8 0),(.int .u8 0),(.slice none 0 0)]) ⟨av,av,av⟩
theorem abv:aG Tryz.prog 92 ax:=an (z:=.nilFunc) ⟨_,Tryz.underlying92,rfl⟩
theorem abw:aG Tryz.prog 93 ax:=an (z:=.nilFunc) ⟨_,Tryz.underlying93,rfl⟩
theorem abx:aG Tryz.prog 94 ax:=an (z:=.nilFunc) ⟨_,Tryz.underlying94,rfl⟩
theorem aby:aG Tryz.prog 95 ax:=an (z:=.nilFunc) ⟨_,Tryz.underlying95,rfl⟩
theorem abz:aG Tryz.prog 96 ax:=an (z:=.nilFunc) ⟨_,Tryz.underlying96,rfl⟩
theorem abA:aG Tryz.prog 97 ax:=an (z:=.nilFunc) ⟨_,Tryz.underlying97,rfl⟩
theorem abB:aG Tryz.prog 98 ax:=an (z:=.nilFunc) ⟨_,Tryz.underlying98,rfl⟩
theorem abC:aG Tryz.prog 99 ax:=an (z:=.nilFunc) ⟨_,Tryz.underlying99,rfl⟩
theorem Sg:aG Tryz.prog 100 ax:=an (z:=.nilFunc) ⟨_,Tryz.underlying100,rfl⟩
theorem Sh:aG Tryz.prog 101 ax:=an (z:=.nilFunc) ⟨_,Tryz.underlying101,rfl⟩
theorem Si:aG Tryz.prog 102 ax:=an (z:=.nilFunc) ⟨_,Tryz.underlying102,rfl⟩
theorem Sj:aG Tryz.prog 103 ax:=an (z:=.nilFunc) ⟨_,Tryz.underlying103,rfl⟩
theorem Sk:aG Tryz.prog 104 ax:=an (z:=.nilFunc) ⟨_,Tryz.underlying104,rfl⟩
theorem Sl:aG Tryz.prog 105 ax:=an (z:=.nilFunc) ⟨_,Tryz.underlying105,rfl⟩
theorem Sn:aG Tryz.prog 107 ax:=an (z:=.nilFunc) ⟨_,Tryz.underlying107,rfl⟩
theorem Sp:aG Tryz.prog 108 ax:=an (z:=.nilFunc) ⟨_,Tryz.underlying108,rfl⟩
theorem Sq:aG Tryz.prog 110 ax:=an (z:=.nilFunc) ⟨_,Tryz.underlying110,rfl⟩
theorem Sr:aG Tryz.prog 111 ax:=an (z:=.nilFunc) ⟨_,Tryz.underlying111,rfl⟩
def PG:TI:=⟨.agg [(0,3,1),(1,70,1)],2,32,[.val (.int .i64 0),.val (.slice none 0 0)]⟩
theorem Ss:aG Tryz.prog 112 PG:=an (z:=.agg #[(.int .i64 0),(.slice none 0 0)]) ⟨av,av,av⟩
def PH:TI:=⟨.agg [(0,3,1),(1,70,1)],2,32,[.val (.int .i64 0),.val (.slice none 0 0)]⟩
theorem Su:aG Tryz.prog 113 PH:=an (z:=.agg #[(.int .i64 0),(.slice none 0 0)]) ⟨av,av,av⟩
theorem Sv:aG Tryz.prog 114 ax:=an (z:=.nilFunc) ⟨_,Tryz.underlying114,rfl⟩
theorem Sw:aG Tryz.prog 115 ax:=an (z:=.nilFunc) ⟨_,Tryz.underlying115,rfl⟩
theorem Sy:aG Tryz.prog 116 ax:=an (z:=.nilFunc) ⟨_,Tryz.underlying116,rfl⟩
theorem Sz:aG Tryz.prog 117 ax:=an (z:=.nilFunc) ⟨_,Tryz.underlying117,rfl⟩
theorem SA:aG Tryz.prog 118 ax:=an (z:=.nilFunc) ⟨_,Tryz.underlying118,rfl⟩
theorem SB:aG Tryz.prog 119 ax:=an (z:=.nilFunc) ⟨_,Tryz.underlying119,rfl⟩
theorem SC:aG Tryz.prog 120 ax:=an (z:=.nilFunc) ⟨_,Tryz.underlying120,rfl⟩
theorem SD:aG Tryz.prog 121 ax:=an (z:=.nilFunc) ⟨_,Tryz.underlying121,rfl⟩
theorem SE:aG Tryz.prog 122 ax:=an (z:=.nilFunc) ⟨_,Tryz.underlying122,rfl⟩
theorem SF:aG Tryz.prog 123 ax:=an (z:=.nilFunc) ⟨_,Tryz.underlying123,rfl⟩
theorem SG:aG Tryz.prog 125 ax:=an (z:=.nilFunc) ⟨_,Tryz.underlying125,rfl⟩
theorem SH:aG Tryz.prog 126 ax:=an (z:=.nilFunc) ⟨_,Tryz.underlying126,rfl⟩
theorem SI:aG Tryz.prog 127 ax:=an (z:=.nilFunc) ⟨_,Tryz.underlying127,rfl⟩
theorem SJ:aG Tryz.prog 128 ax:=an (z:=.nilFunc) ⟨_,Tryz.underlying128,rfl⟩
theorem SK:aG Tryz.prog 129 ax:=an (z:=.nilFunc) ⟨_,Tryz.underlying129,rfl⟩
theorem SL:aG Tryz.prog 130 ax:=an (z:=.nilFunc) ⟨_,Tryz.underlying130,rfl⟩
theorem SM:aG Tryz.prog 131 ax:=an (z:=.nilFunc) ⟨_,Tryz.underlying131,rfl⟩
theorem SN:aG Tryz.prog 132 ax:=an (z:=.nilFunc) ⟨_,Tryz.underlying132,rfl⟩
theorem SO:aG Tryz.prog 133 ax:=an (z:=.nilFunc) ⟨_,Tryz.underlying133,rfl⟩
theorem SP:aG Tryz.prog 134 ax:=an (z:=.nilFunc) ⟨_,Tryz.underlying134,rfl⟩
theorem SQ:aG Tryz.prog 135 ax:=an (z:=.nilFunc) ⟨_,Tryz.underlying135,rfl⟩
theorem SR:aG Tryz.prog 136 ax:=an (z:=.nilFunc) ⟨_,Tryz.underlying136,rfl⟩
theorem SS:aG Tryz.prog 137 ax:=an (z:=.nilFunc) ⟨_,Tryz.underlying137,rfl⟩
theorem SU:aG Tryz.prog 138 ax:=an (z:=.nilFunc) ⟨_,Tryz.underlying138,rfl⟩
theorem SX:aG Tryz.prog 139 ax:=an (z:=.nilFunc) ⟨_,Tryz.underlying139,rfl⟩
theorem SY:aG Tryz.prog 140 ax:=an (z:=.nilFunc) ⟨_,Tryz.underlying140,rfl⟩
theorem SZ:aG Tryz.prog 141 ax:=an (z:=.nilFunc) ⟨_,Tryz.underlying141,rfl⟩
def PI:TI:=⟨.aO 40,1,24,[.val (.slice none 0 0)]⟩
theorem S0:aG Tryz.prog 142 PI:=an (z:=(.slice none 0 0)) (by kernel_rfl:Tryz.prog.underlying 142=some (.slice 40))
theorem S1:aG Tryz.prog 143 ax:=an (z:=.nilFunc) ⟨_,Tryz.underlying143,rfl⟩
theorem S2:aG Tryz.prog 144 ax:=an (z:=.nilFunc) ⟨_,Tryz.underlying144,rfl⟩
theorem S3:aG Tryz.prog 145 ax:=an (z:=.nilFunc) ⟨_,Tryz.underlying145,rfl⟩
theorem S4:aG Tryz.prog 146 ax:=an (z:=.nilFunc) ⟨_,Tryz.underlying146,rfl⟩
theorem S5:aG Tryz.prog 147 ax:=an (z:=.nilFunc) ⟨_,Tryz.underlying147,rfl⟩
theorem S6:aG Tryz.prog 148 ax:=an (z:=.nilFunc) ⟨_,Tryz.underlying148,rfl⟩
theorem S7:aG Tryz.prog 149 ax:=an (z:=.nilFunc) ⟨_,Tryz.underlying149,rfl⟩
theorem S8:aG Tryz.prog 150 ax:=an (z:=.nilFunc) ⟨_,Tryz.underlying150,rfl⟩
theorem S9:aG Tryz.prog 151 ax:=an (z:=.nilFunc) ⟨_,Tryz.underlying151,rfl⟩
theorem Ua:aG Tryz.prog 152 ax:=an (z:=.nilFunc) ⟨_,Tryz.underlying152,rfl⟩
theorem Ub:aG Tryz.prog 153 ax:=an (z:=.nilFunc) ⟨_,Tryz.underlying153,rfl⟩
theorem Uc:aG Tryz.prog 155 ax:=an (z:=.nilFunc) ⟨_,Tryz.underlying155,rfl⟩
theorem Ud:aG Tryz.prog 157 ax:=an (z:=.nilFunc) ⟨_,Tryz.underlying157,rfl⟩
theorem Ue:aG Tryz.prog 159 ax:=an (z:=.nilFunc) ⟨_,Tryz.underlying159,rfl⟩
theorem Uf:aG Tryz.prog 160 ax:=an (z:=.nilFunc) ⟨_,Tryz.underlying160,rfl⟩
theorem Ug:aG Tryz.prog 161 ax:=an (z:=.nilFunc) ⟨_,Tryz.underlying161,rfl⟩
theorem Uh:aG Tryz.prog 162 ax:=an (z:=.nilFunc) ⟨_,Tryz.underlying162,rfl⟩
theorem Ui:aG Tryz.prog 163 ax:=an (z:=.nilFunc) ⟨_,Tryz.underlying163,rfl⟩
theorem Uj:aG Tryz.prog 164 ax:=an (z:=.nilFunc) ⟨_,Tryz.underlying164,rfl⟩
theorem Uk:aG Tryz.prog 165 ax:=an (z:=.nilFunc) ⟨_,Tryz.underlying165,rfl⟩
def PJ:TI:=⟨.aO 54,1,24,[.val (.slice none 0 0)]⟩
theorem Ul:aG Tryz.prog 166 PJ:=an (z:=(.slice none 0 0)) (by kernel_rfl:Tryz.prog.underlying 166=some (.slice 54))
theorem Um:aG Tryz.prog 168 ax:=an (z:=.nilFunc) ⟨_,Tryz.underlying168,rfl⟩
theorem Un:aG Tryz.prog 169 ax:=an (z:=.nilFunc) ⟨_,Tryz.underlying169,rfl⟩
theorem Uo:aG Tryz.prog 170 ax:=an (z:=.nilFunc) ⟨_,Tryz.underlying170,rfl⟩
def PK:TI:=⟨.agg [(0,54,1),(1,166,1)],2,48,[.val (.slice none 0 0),.val (.slice none 0 0)]⟩
theorem Uq:aG Tryz.prog 171 PK:=an (z:=.agg #[(.slice none 0 0),(.slice none 0 0)]) ⟨av,av,av⟩
def PL:TI:=⟨.agg [(0,54,1),(1,166,1)],2,48,[.val (.slice none 0 0),.val (.slice none 0 0)]⟩
theorem Ur:aG Tryz.prog 172 PL:=an (z:=.agg #[(.slice none 0 0),(.slice none 0 0)]) ⟨av,av,av⟩
theorem Us:aG Tryz.prog 174 ax:=an (z:=.nilFunc) ⟨_,Tryz.underlying174,rfl⟩
theorem Ut:aG Tryz.prog 175 ax:=an (z:=.nilFunc) ⟨_,Tryz.underlying175,rfl⟩
theorem Uu:aG Tryz.prog 176 ax:=an (z:=.nilFunc) ⟨_,Tryz.underlying176,rfl⟩
theorem Uv:aG Tryz.prog 177 ax:=an (z:=.nilFunc) ⟨_,Tryz.underlying177,rfl⟩
def PN:TI:=⟨.aO 22,1,24,[.val (.slice none 0 0)]⟩
theorem Uw:aG Tryz.prog 178 PN:=an (z:=(.slice none 0 0)) (by kernel_rfl:Tryz.prog.underlying 178=some (.slice 22))
theorem Ux:aG Tryz.prog 179 ax:=an (z:=.nilFunc) ⟨_,Tryz.underlying179,rfl⟩
theorem Uy:aG Tryz.prog 180 ax:=an (z:=.nilFunc) ⟨_,Tryz.underlying180,rfl⟩
theorem Uz:aG Tryz.prog 181 ax:=an (z:=.nilFunc) ⟨_,Tryz.underlying181,rfl⟩
theorem UA:aG Tryz.prog 182 ax:=an (z:=.nilFunc) ⟨_,Tryz.underlying182,rfl⟩
theorem UB:aG Tryz.prog 184 ax:=an (z:=.nilFunc) ⟨_,Tryz.underlying184,rfl⟩
theorem UC:aG Tryz.prog 185 ax:=an (z:=.nilFunc) ⟨_,Tryz.underlying185,rfl⟩
def PO:TI:=⟨.ptr 190,1,8,[.val (.pointer none)]⟩
theorem UD:aG Tryz.prog 186 PO:=an (z:=(.pointer none)) (by kernel_rfl:Tryz.prog.underlying 186=some (.pointer 190))
theorem UE:aG Tryz.prog 187 ax:=an (z:=.nilFunc) ⟨_,Tryz.underlying187,rfl⟩
def PQ:TI:=⟨.aO 36,1,24,[.val (.slice none 0 0)]⟩
theorem UF:aG Tryz.prog 188 PQ:=an (z:=(.slice none 0 0)) (by kernel_rfl:Tryz.prog.underlying 188=some (.slice 36))
def PR:TI:=⟨.agg [(0,3,1),(1,188,1)],2,32,[.val (.int .i64 0),.val (.slice none 0 0)]⟩
theorem UG:aG Tryz.prog 189 PR:=an (z:=.agg #[(.int .i64 0),(.slice none 0 0)]) ⟨av,av,av⟩
def PS:TI:=⟨.agg [(0,3,1),(1,188,1)],2,32,[.val (.int .i64 0),.val (.slice none 0 0)]⟩
theorem UH:aG Tryz.prog 190 PS:=an (z:=.agg #[(.int .i64 0),(.slice none 0 0)]) ⟨av,av,av⟩
theorem UI:aG Tryz.prog 191 ax:=an (z:=.nilFunc) ⟨_,Tryz.underlying191,rfl⟩
theorem UJ:aG Tryz.prog 192 ax:=an (z:=.nilFunc) ⟨_,Tryz.underlying192,rfl⟩
theorem UK:aG Tryz.prog 193 ax:=an (z:=.nilFunc) ⟨_,Tryz.underlying193,rfl⟩
theorem UL:aG Tryz.prog 194 ax:=an (z:=.nilFunc) ⟨_,Tryz.underlying194,rfl⟩
theorem UM:aG Tryz.prog 195 ax:=an (z:=.nilFunc) ⟨_,Tryz.underlying195,rfl⟩
def PT:TI:=⟨.arr 3 3,3,24,[.val (.int .i64 0),.val (.int .i64 0),.val (.int .i64 0)]⟩
theorem UN:aG Tryz.prog 196 PT:=an (z:=.agg #[(.int .i64 0),(.int .i64 0),(.int .i64 0)]) (by kernel_rfl:Tryz.prog.underlying 196=some (.array 3 3))
theorem UO:aG Tryz.prog 197 ax:=an (z:=.nilFunc) ⟨_,Tryz.underlying197,rfl⟩
theorem UP:aG Tryz.prog 198 ax:=an (z:=.nilFunc) ⟨_,Tryz.underlying198,rfl⟩
theorem UQ:aG Tryz.prog 199 ax:=an (z:=.nilFunc) ⟨_,Tryz.underlying199,rfl⟩
theorem UR:aG Tryz.prog 200 ax:=an (z:=.nilFunc) ⟨_,Tryz.underlying200,rfl⟩
theorem US:aG Tryz.prog 201 ax:=an (z:=.nilFunc) ⟨_,Tryz.underlying201,rfl⟩
theorem UT:aG Tryz.prog 202 ax:=an (z:=.nilFunc) ⟨_,Tryz.underlying202,rfl⟩
theorem UU:aG Tryz.prog 203 ax:=an (z:=.nilFunc) ⟨_,Tryz.underlying203,rfl⟩
theorem UW:aG Tryz.prog 204 ax:=an (z:=.nilFunc) ⟨_,Tryz.underlying204,rfl⟩
def PU:TI:=⟨.aO 50,1,24,[.val (.slice none 0 0)]⟩
theorem UX:aG Tryz.prog 205 PU:=an (z:=(.slice none 0 0)) (by kernel_rfl:Tryz.prog.underlying 205=some (.slice 50))
def PV:TI:=⟨.agg [(0,3,1),(1,3,1),(2,205,1)],3,40,[.val (.int .i64 0),.val (.int .i64 0),.val (.slice none 0 0)]⟩
theorem UY:aG Tryz.prog 206 PV:=an (z:=.agg #[(.int .i64 0),(.int .i64 0),(.slice none 0 0)]) ⟨av,av,av⟩
def PW:TI:=⟨.agg [(0,3,1),(1,3,1),(2,205,1)],3,40,[.val (.int .i64 0),.val (.int .i64 0),.val (.slice none 0 0)]⟩
theorem UZ:aG Tryz.prog 207 PW:=an (z:=.agg #[(.int .i64 0),(.int .i64 0),(.slice none 0 0)]) ⟨av,av,av⟩
theorem U0:aG Tryz.prog 209 ax:=an (z:=.nilFunc) ⟨_,Tryz.underlying209,rfl⟩
theorem U1:aG Tryz.prog 210 ax:=an (z:=.nilFunc) ⟨_,Tryz.underlying210,rfl⟩
theorem U2:aG Tryz.prog 211 ax:=an (z:=.nilFunc) ⟨_,Tryz.underlying211,rfl⟩
theorem U3:aG Tryz.prog 213 ax:=an (z:=.nilFunc) ⟨_,Tryz.underlying213,rfl⟩
theorem U4:aG Tryz.prog 214 ax:=an (z:=.nilFunc) ⟨_,Tryz.underlying214,rfl⟩
theorem U5:aG Tryz.prog 215 ax:=an (z:=.nilFunc) ⟨_,Tryz.underlying215,rfl⟩
theorem U6:aG Tryz.prog 216 ax:=an (z:=.nilFunc) ⟨_,Tryz.underlying216,rfl⟩
theorem U7:aG Tryz.prog 217 ax:=an (z:=.nilFunc) ⟨_,Tryz.underlying217,rfl⟩
theorem U8:aG Tryz.prog 218 ax:=an (z:=.nilFunc) ⟨_,Tryz.underlying218,rfl⟩
theorem U9:aG Tryz.prog 219 ax:=an (z:=.nilFunc) ⟨_,Tryz.underlying219,rfl⟩
theorem Va:aG Tryz.prog 220 ax:=an (z:=.nilFunc) ⟨_,Tryz.underlying220,rfl⟩
theorem Vb:aG Tryz.prog 221 ax:=an (z:=.nilFunc) ⟨_,Tryz.underlying221,rfl⟩
theorem Vc:aG Tryz.prog 222 ax:=an (z:=.nilFunc) ⟨_,Tryz.underlying222,rfl⟩
theorem Vd:aG Tryz.prog 223 ax:=an (z:=.nilFunc) ⟨_,Tryz.underlying223,rfl⟩
theorem Ve:aG Tryz.prog 224 ax:=an (z:=.nilFunc) ⟨_,Tryz.underlying224,rfl⟩
theorem Vf:aG Tryz.prog 226 ax:=an (z:=.nilFunc) ⟨_,Tryz.underlying226,rfl⟩
theorem Vg:aG Tryz.prog 227 ax:=an (z:=.nilFunc) ⟨_,Tryz.underlying227,rfl⟩
def PX:TI:=⟨.aO 46,1,24,[.val (.slice none 0 0)]⟩
theorem Vh:aG Tryz.prog 228 PX:=an (z:=(.slice none 0 0)) (by kernel_rfl:Tryz.prog.underlying 228=some (.slice 46))
theorem Vi:aG Tryz.prog 230 ax:=an (z:=.nilFunc) ⟨_,Tryz.underlying230,rfl⟩
theorem Vj:aG Tryz.prog 231 ax:=an (z:=.nilFunc) ⟨_,Tryz.underlying231,rfl⟩
theorem Vk:aG Tryz.prog 232 ax:=an (z:=.nilFunc) ⟨_,Tryz.underlying232,rfl⟩
theorem Vl:aG Tryz.prog 233 ax:=an (z:=.nilFunc) ⟨_,Tryz.underlying233,rfl⟩
theorem Vm:aG Tryz.prog 234 ax:=an (z:=.nilFunc) ⟨_,Tryz.underlying234,rfl⟩
theorem Vn:aG Tryz.prog 235 ax:=an (z:=.nilFunc) ⟨_,Tryz.underlying235,rfl⟩
theorem Vo:aG Tryz.prog 236 ax:=an (z:=.nilFunc) ⟨_,Tryz.underlying236,rfl⟩
theorem Vp:aG Tryz.prog 237 ax:=an (z:=.nilFunc) ⟨_,Tryz.underlying237,rfl⟩
theorem Vq:aG Tryz.prog 238 ax:=an (z:=.nilFunc) ⟨_,Tryz.underlying238,rfl⟩
theorem Vr:aG Tryz.prog 239 ax:=an (z:=.nilFunc) ⟨_,Tryz.underlying239,rfl⟩
theorem Vs:aG Tryz.prog 241 ax:=an (z:=.nilFunc) ⟨_,Tryz.underlying241,rfl⟩
theorem Vt:aG Tryz.prog 242 ax:=an (z:=.nilFunc) ⟨_,Tryz.underlying242,rfl⟩
theorem Vu:aG Tryz.prog 243 ax:=an (z:=.nilFunc) ⟨_,Tryz.underlying243,rfl⟩
theorem Vv:aG Tryz.prog 244 ax:=an (z:=.nilFunc) ⟨_,Tryz.underlying244,rfl⟩
theorem Vw:aG Tryz.prog 245 ax:=an (z:=.nilFunc) ⟨_,Tryz.underlying245,rfl⟩
def PY:TI:=⟨.aO 27,1,24,[.val (.slice none 0 0)]⟩
theorem Vx:aG Tryz.prog 246 PY:=an (z:=(.slice none 0 0)) (by kernel_rfl:Tryz.prog.underlying 246=some (.slice 27))
theorem Vy:aG Tryz.prog 247 ax:=an (z:=.nilFunc) ⟨_,Tryz.underlying247,rfl⟩
theorem Vz:aG Tryz.prog 248 ax:=an (z:=.nilFunc) ⟨_,Tryz.underlying248,rfl⟩
theorem VA:aG Tryz.prog 249 ax:=an (z:=.nilFunc) ⟨_,Tryz.underlying249,rfl⟩
theorem VB:aG Tryz.prog 250 ax:=an (z:=.nilFunc) ⟨_,Tryz.underlying250,rfl⟩
theorem VC:aG Tryz.prog 251 ax:=an (z:=.nilFunc) ⟨_,Tryz.underlying251,rfl⟩
theorem VD:aG Tryz.prog 252 ax:=an (z:=.nilFunc) ⟨_,Tryz.underlying252,rfl⟩
theorem VE:aG Tryz.prog 253 ax:=an (z:=.nilFunc) ⟨_,Tryz.underlying253,rfl⟩
theorem VF:aG Tryz.prog 254 ax:=an (z:=.nilFunc) ⟨_,Tryz.underlying254,rfl⟩
theorem VG:aG Tryz.prog 255 ax:=an (z:=.nilFunc) ⟨_,Tryz.underlying255,rfl⟩
theorem VH:aG Tryz.prog 256 ax:=an (z:=.nilFunc) ⟨_,Tryz.underlying256,rfl⟩
theorem VI:aG Tryz.prog 257 ax:=an (z:=.nilFunc) ⟨_,Tryz.underlying257,rfl⟩
theorem VJ:aG Tryz.prog 258 ax:=an (z:=.nilFunc) ⟨_,Tryz.underlying258,rfl⟩
theorem VK:aG Tryz.prog 259 ax:=an (z:=.nilFunc) ⟨_,Tryz.underlying259,rfl⟩
theorem VL:aG Tryz.prog 260 ax:=an (z:=.nilFunc) ⟨_,Tryz.underlying260,rfl⟩
theorem VM:aG Tryz.prog 261 ax:=an (z:=.nilFunc) ⟨_,Tryz.underlying261,rfl⟩
def PZ:TI:=⟨.aO 9,1,24,[.val (.slice none 0 0)]⟩
theorem VN:aG Tryz.prog 262 PZ:=an (z:=(.slice none 0 0)) (by kernel_rfl:Tryz.prog.underlying 262=some (.slice 9))
theorem VO:aG Tryz.prog 263 ax:=an (z:=.nilFunc) ⟨_,Tryz.underlying263,rfl⟩
def P0:TI:=⟨.ptr 269,1,8,[.val (.pointer none)]⟩
theorem VP:aG Tryz.prog 264 P0:=an (z:=(.pointer none)) (by kernel_rfl:Tryz.prog.underlying 264=some (.pointer 269))
theorem VQ:aG Tryz.prog 265 ax:=an (z:=.nilFunc) ⟨_,Tryz.underlying265,rfl⟩
theorem VR:aG Tryz.prog 266 ax:=an (z:=.nilFunc) ⟨_,Tryz.underlying266,rfl⟩
theorem VS:aG Tryz.prog 267 ax:=an (z:=.nilFunc) ⟨_,Tryz.underlying267,rfl⟩
def P1:TI:=⟨.agg [(0,188,1),(1,3,1),(2,33,1),(3,52,5)],8,112,[.val (.slice none 0 0),.val (.int .i64 0),.val (.slice none 0 0),.frac 0]⟩
theorem VT:aG Tryz.prog 268 P1:=an (z:=.agg #[(.slice none 0 0),(.int .i64 0),(.slice none 0 0),(.int .u64 0),(.string .empty),(.bool false),(.int .u64 0),(.string .empty)]) ⟨av,av,av⟩
def P2:TI:=⟨.agg [(0,188,1),(1,3,1),(2,33,1),(3,52,5)],8,112,[.val (.slice none 0 0),.val (.int .i64 0),.val (.slice none 0 0),.frac 0]⟩
theorem VU:aG Tryz.prog 269 P2:=an (z:=.agg #[(.slice none 0 0),(.int .i64 0),(.slice none 0 0),(.int .u64 0),(.string .empty),(.bool false),(.int .u64 0),(.string .empty)]) ⟨av,av,av⟩
theorem VV:aG Tryz.prog 270 ax:=an (z:=.nilFunc) ⟨_,Tryz.underlying270,rfl⟩
theorem VW:aG Tryz.prog 271 ax:=an (z:=.nilFunc) ⟨_,Tryz.underlying271,rfl⟩
theorem VX:aG Tryz.prog 272 ax:=an (z:=.nilFunc) ⟨_,Tryz.underlying272,rfl⟩
theorem VY:aG Tryz.prog 273 ax:=an (z:=.nilFunc) ⟨_,Tryz.underlying273,rfl⟩
theorem VZ:aG Tryz.prog 274 ax:=an (z:=.nilFunc) ⟨_,Tryz.underlying274,rfl⟩
theorem V0:aG Tryz.prog 275 ax:=an (z:=.nilFunc) ⟨_,Tryz.underlying275,rfl⟩
theorem V1:aG Tryz.prog 276 ax:=an (z:=.nilFunc) ⟨_,Tryz.underlying276,rfl⟩
theorem V3:aG Tryz.prog 277 ax:=an (z:=.nilFunc) ⟨_,Tryz.underlying277,rfl⟩
theorem V4:aG Tryz.prog 279 ax:=an (z:=.nilFunc) ⟨_,Tryz.underlying279,rfl⟩
theorem V5:aG Tryz.prog 280 ax:=an (z:=.nilFunc) ⟨_,Tryz.underlying280,rfl⟩
theorem V6:aG Tryz.prog 281 ax:=an (z:=.nilFunc) ⟨_,Tryz.underlying281,rfl⟩
theorem V7:aG Tryz.prog 282 ax:=an (z:=.nilFunc) ⟨_,Tryz.underlying282,rfl⟩
theorem V8:aG Tryz.prog 283 ax:=an (z:=.nilFunc) ⟨_,Tryz.underlying283,rfl⟩
theorem V9:aG Tryz.prog 284 ax:=an (z:=.nilFunc) ⟨_,Tryz.underlying284,rfl⟩
theorem Wa:aG Tryz.prog 285 ax:=an (z:=.nilFunc) ⟨_,Tryz.underlying285,rfl⟩
theorem Wb:aG Tryz.prog 286 ax:=an (z:=.nilFunc) ⟨_,Tryz.underlying286,rfl⟩
theorem Wc:aG Tryz.prog 287 ax:=an (z:=.nilFunc) ⟨_,Tryz.underlying287,rfl⟩
theorem Wd:aG Tryz.prog 288 ax:=an (z:=.nilFunc) ⟨_,Tryz.underlying288,rfl⟩
theorem We:aG Tryz.prog 289 ax:=an (z:=.nilFunc) ⟨_,Tryz.underlying289,rfl⟩
theorem Wf:aG Tryz.prog 290 ax:=an (z:=.nilFunc) ⟨_,Tryz.underlying290,rfl⟩
theorem Wg:aG Tryz.prog 291 ax:=an (z:=.nilFunc) ⟨_,Tryz.underlying291,rfl⟩
def P3:TI:=⟨.aO 91,1,24,[.val (.slice none 0 0)]⟩
theorem Wh:aG Tryz.prog 292 P3:=an (z:=(.slice none 0 0)) (by kernel_rfl:Tryz.prog.underlying 292=some (.slice 91))
def P5:TI:=⟨.agg [(0,207,3),(3,50,3),(6,3,1)],7,80,[.val (.int .i64 0),.val (.int .i64 0),.val (.slice none 0 0),.int 0,.val (.int .i64 0)]⟩
theorem Wi:aG Tryz.prog 293 P5:=an (z:=.agg #[(.int .i64 0),(.int .i64 0),(.slice none 0 0),(.int .u64 0),(.string .empty),(.bool false),(.int .i64 0)]) ⟨av,av,av⟩
def P6:TI:=⟨.agg [(0,207,3),(3,50,3),(6,3,1)],7,80,[.val (.int .i64 0),.val (.int .i64 0),.val (.slice none 0 0),.int 0,.val (.int .i64 0)]⟩
theorem Wj:aG Tryz.prog 294 P6:=an (z:=.agg #[(.int .i64 0),(.int .i64 0),(.slice none 0 0),(.int .u64 0),(.string .empty),(.bool false),(.int .i64 0)]) ⟨av,av,av⟩
theorem Wl:aG Tryz.prog 295 ax:=an (z:=.nilFunc) ⟨_,Tryz.underlying295,rfl⟩
theorem Wm:aG Tryz.prog 296 ax:=an (z:=.nilFunc) ⟨_,Tryz.underlying296,rfl⟩
theorem Wn:aG Tryz.prog 297 ax:=an (z:=.nilFunc) ⟨_,Tryz.underlying297,rfl⟩
theorem Wo:aG Tryz.prog 298 ax:=an (z:=.nilFunc) ⟨_,Tryz.underlying298,rfl⟩
theorem Wp:aG Tryz.prog 299 ax:=an (z:=.nilFunc) ⟨_,Tryz.underlying299,rfl⟩
theorem Wq:aG Tryz.prog 300 ax:=an (z:=.nilFunc) ⟨_,Tryz.underlying300,rfl⟩
theorem Wr:aG Tryz.prog 301 ax:=an (z:=.nilFunc) ⟨_,Tryz.underlying301,rfl⟩
theorem Ws:aG Tryz.prog 302 ax:=an (z:=.nilFunc) ⟨_,Tryz.underlying302,rfl⟩
theorem Wt:aG Tryz.prog 303 ax:=an (z:=.nilFunc) ⟨_,Tryz.underlying303,rfl⟩
theorem Wu:aG Tryz.prog 304 ax:=an (z:=.nilFunc) ⟨_,Tryz.underlying304,rfl⟩
theorem Wv:aG Tryz.prog 305 ax:=an (z:=.nilFunc) ⟨_,Tryz.underlying305,rfl⟩
theorem Ww:aG Tryz.prog 306 ax:=an (z:=.nilFunc) ⟨_,Tryz.underlying306,rfl⟩
theorem Wx:aG Tryz.prog 307 ax:=an (z:=.nilFunc) ⟨_,Tryz.underlying307,rfl⟩
theorem Wy:aG Tryz.prog 308 ax:=an (z:=.nilFunc) ⟨_,Tryz.underlying308,rfl⟩
theorem Wz:aG Tryz.prog 309 ax:=an (z:=.nilFunc) ⟨_,Tryz.underlying309,rfl⟩
theorem WA:aG Tryz.prog 310 ax:=an (z:=.nilFunc) ⟨_,Tryz.underlying310,rfl⟩
theorem WB:aG Tryz.prog 311 ax:=an (z:=.nilFunc) ⟨_,Tryz.underlying311,rfl⟩
theorem WC:aG Tryz.prog 313 ax:=an (z:=.nilFunc) ⟨_,Tryz.underlying313,rfl⟩
theorem WD:aG Tryz.prog 314 ax:=an (z:=.nilFunc) ⟨_,Tryz.underlying314,rfl⟩
theorem WE:aG Tryz.prog 315 ax:=an (z:=.nilFunc) ⟨_,Tryz.underlying315,rfl⟩
def P7:TI:=⟨.aO 23,1,24,[.val (.slice none 0 0)]⟩
theorem WG:aG Tryz.prog 316 P7:=an (z:=(.slice none 0 0)) (by kernel_rfl:Tryz.prog.underlying 316=some (.slice 23))
theorem WH:aG Tryz.prog 317 ax:=an (z:=.nilFunc) ⟨_,Tryz.underlying317,rfl⟩
theorem WI:aG Tryz.prog 318 ax:=an (z:=.nilFunc) ⟨_,Tryz.underlying318,rfl⟩
theorem WJ:aG Tryz.prog 319 ax:=an (z:=.nilFunc) ⟨_,Tryz.underlying319,rfl⟩
theorem WK:aG Tryz.prog 320 ax:=an (z:=.nilFunc) ⟨_,Tryz.underlying320,rfl⟩
theorem WM:aG Tryz.prog 322 ax:=an (z:=.nilFunc) ⟨_,Tryz.underlying322,rfl⟩
theorem WN:aG Tryz.prog 323 ax:=an (z:=.nilFunc) ⟨_,Tryz.underlying323,rfl⟩
def P8:TI:=⟨.aO 4,1,24,[.val (.slice none 0 0)]⟩
theorem WO:aG Tryz.prog 324 P8:=an (z:=(.slice none 0 0)) (by kernel_rfl:Tryz.prog.underlying 324=some (.slice 4))
theorem WQ:aG Tryz.prog 326 ax:=an (z:=.nilFunc) ⟨_,Tryz.underlying326,rfl⟩
theorem WR:aG Tryz.prog 327 ax:=an (z:=.nilFunc) ⟨_,Tryz.underlying327,rfl⟩
def P9:TI:=⟨.aO 38,1,24,[.val (.slice none 0 0)]⟩
theorem WS:aG Tryz.prog 328 P9:=an (z:=(.slice none 0 0)) (by kernel_rfl:Tryz.prog.underlying 328=some (.slice 38))
theorem WT:aG Tryz.prog 330 ax:=an (z:=.nilFunc) ⟨_,Tryz.underlying330,rfl⟩
theorem WU:aG Tryz.prog 332 ax:=an (z:=.nilFunc) ⟨_,Tryz.underlying332,rfl⟩
theorem WV:aG Tryz.prog 333 ax:=an (z:=.nilFunc) ⟨_,Tryz.underlying333,rfl⟩
def Qa:TI:=⟨.int .u64,1,8,[.val (.int .u64 0)]⟩
theorem WW:aG Tryz.prog 334 Qa:=an (z:=(.int .u64 0)) (by kernel_rfl:Tryz.prog.underlying 334=some (.int .u64))
def Qb:TI:=⟨.agg [(0,52,5)],5,56,[.frac 0]⟩
theorem WX:aG Tryz.prog 335 Qb:=an (z:=.agg #[(.int .u64 0),(.string .empty),(.bool false),(.int .u64 0),(.string .empty)]) ⟨av,av,av⟩
def Qc:TI:=⟨.agg [(0,52,5)],5,56,[.frac 0]⟩
theorem WY:aG Tryz.prog 336 Qc:=an (z:=.agg #[(.int .u64 0),(.string .empty),(.bool false),(.int .u64 0),(.string .empty)]) ⟨av,av,av⟩
theorem WZ:aG Tryz.prog 337 ax:=an (z:=.nilFunc) ⟨_,Tryz.underlying337,rfl⟩
theorem W1:aG Tryz.prog 338 ax:=an (z:=.nilFunc) ⟨_,Tryz.underlying338,rfl⟩
theorem W2:aG Tryz.prog 339 ax:=an (z:=.nilFunc) ⟨_,Tryz.underlying339,rfl⟩
def Qd:TI:=⟨.ptr 342,1,8,[.val (.pointer none)]⟩
theorem W3:aG Tryz.prog 340 Qd:=an (z:=(.pointer none)) (by kernel_rfl:Tryz.prog.underlying 340=some (.pointer 342))
def Qe:TI:=⟨.agg [(0,340,1),(1,61,1)],2,32,[.val (.pointer none),.val (.slice none 0 0)]⟩
theorem W5:aG Tryz.prog 341 Qe:=an (z:=.agg #[(.pointer none),(.slice none 0 0)]) ⟨av,av,av⟩
def Qf:TI:=⟨.agg [(0,340,1),(1,61,1)],2,32,[.val (.pointer none),.val (.slice none 0 0)]⟩
theorem W6:aG Tryz.prog 342 Qf:=an (z:=.agg #[(.pointer none),(.slice none 0 0)]) ⟨av,av,av⟩
theorem W7:aG Tryz.prog 343 ax:=an (z:=.nilFunc) ⟨_,Tryz.underlying343,rfl⟩
theorem W8:aG Tryz.prog 347 ax:=an (z:=.nilFunc) ⟨_,Tryz.underlying347,rfl⟩
theorem W9:aG Tryz.prog 348 ax:=an (z:=.nilFunc) ⟨_,Tryz.underlying348,rfl⟩
theorem Xa:aG Tryz.prog 349 ax:=an (z:=.nilFunc) ⟨_,Tryz.underlying349,rfl⟩
theorem Xb:aG Tryz.prog 350 ax:=an (z:=.nilFunc) ⟨_,Tryz.underlying350,rfl⟩
theorem Xc:aG Tryz.prog 352 ax:=an (z:=.nilFunc) ⟨_,Tryz.underlying352,rfl⟩
theorem Xd:aG Tryz.prog 354 ax:=an (z:=.nilFunc) ⟨_,Tryz.underlying354,rfl⟩
theorem Xe:aG Tryz.prog 355 ax:=an (z:=.nilFunc) ⟨_,Tryz.underlying355,rfl⟩
theorem Xf:aG Tryz.prog 357 ax:=an (z:=.nilFunc) ⟨_,Tryz.underlying357,rfl⟩
theorem Xg:aG Tryz.prog 358 ax:=an (z:=.nilFunc) ⟨_,Tryz.underlying358,rfl⟩
theorem Xh:aG Tryz.prog 359 ax:=an (z:=.nilFunc) ⟨_,Tryz.underlying359,rfl⟩
theorem Xi:aG Tryz.prog 360 ax:=an (z:=.nilFunc) ⟨_,Tryz.underlying360,rfl⟩
theorem Xj:aG Tryz.prog 361 ax:=an (z:=.nilFunc) ⟨_,Tryz.underlying361,rfl⟩
theorem Xk:aG Tryz.prog 363 ax:=an (z:=.nilFunc) ⟨_,Tryz.underlying363,rfl⟩
theorem Xl:aG Tryz.prog 364 ax:=an (z:=.nilFunc) ⟨_,Tryz.underlying364,rfl⟩
theorem Xm:aG Tryz.prog 365 ax:=an (z:=.nilFunc) ⟨_,Tryz.underlying365,rfl⟩
theorem Xn:aG Tryz.prog 366 ax:=an (z:=.nilFunc) ⟨_,Tryz.underlying366,rfl⟩
theorem Xo:aG Tryz.prog 367 ax:=an (z:=.nilFunc) ⟨_,Tryz.underlying367,rfl⟩
theorem Xp:aG Tryz.prog 368 ax:=an (z:=.nilFunc) ⟨_,Tryz.underlying368,rfl⟩
theorem Xq:aG Tryz.prog 370 ax:=an (z:=.nilFunc) ⟨_,Tryz.underlying370,rfl⟩
theorem Xr:aG Tryz.prog 372 ax:=an (z:=.nilFunc) ⟨_,Tryz.underlying372,rfl⟩
theorem Xs:aG Tryz.prog 373 ax:=an (z:=.nilFunc) ⟨_,Tryz.underlying373,rfl⟩
theorem Xt:aG Tryz.prog 374 ax:=an (z:=.nilFunc) ⟨_,Tryz.underlying374,rfl⟩
theorem Xu:aG Tryz.prog 375 ax:=an (z:=.nilFunc) ⟨_,Tryz.underlying375,rfl⟩
theorem Xv:aG Tryz.prog 376 ax:=an (z:=.nilFunc) ⟨_,Tryz.underlying376,rfl⟩
theorem Xw:aG Tryz.prog 378 ax:=an (z:=.nilFunc) ⟨_,Tryz.underlying378,rfl⟩
theorem Xx:aG Tryz.prog 379 ax:=an (z:=.nilFunc) ⟨_,Tryz.underlying379,rfl⟩
theorem Xy:aG Tryz.prog 380 ax:=an (z:=.nilFunc) ⟨_,Tryz.underlying380,rfl⟩
def Qg:TI:=⟨.ptr 52,1,8,[.val (.pointer none)]⟩
theorem Xz:aG Tryz.prog 381 Qg:=an (z:=(.pointer none)) (by kernel_rfl:Tryz.prog.underlying 381=some (.pointer 52))
theorem XA:aG Tryz.prog 382 ax:=an (z:=.nilFunc) ⟨_,Tryz.underlying382,rfl⟩
theorem XB:aG Tryz.prog 384 ax:=an (z:=.nilFunc) ⟨_,Tryz.underlying384,rfl⟩
theorem XC:aG Tryz.prog 385 ax:=an (z:=.nilFunc) ⟨_,Tryz.underlying385,rfl⟩
def Qh:TI:=⟨.ptr 336,1,8,[.val (.pointer none)]⟩
theorem XD:aG Tryz.prog 386 Qh:=an (z:=(.pointer none)) (by kernel_rfl:Tryz.prog.underlying 386=some (.pointer 336))
def Qi:TI:=⟨.ptr 5,1,8,[.val (.pointer none)]⟩
theorem XE:aG Tryz.prog 387 Qi:=an (z:=(.pointer none)) (by kernel_rfl:Tryz.prog.underlying 387=some (.pointer 5))
theorem XF:aG Tryz.prog 388 ax:=an (z:=.nilFunc) ⟨_,Tryz.underlying388,rfl⟩
theorem XG:aG Tryz.prog 389 ax:=an (z:=.nilFunc) ⟨_,Tryz.underlying389,rfl⟩
theorem XH:aG Tryz.prog 390 ax:=an (z:=.nilFunc) ⟨_,Tryz.underlying390,rfl⟩
theorem XI:aG Tryz.prog 392 ax:=an (z:=.nilFunc) ⟨_,Tryz.underlying392,rfl⟩
theorem XJ:aG Tryz.prog 393 ax:=an (z:=.nilFunc) ⟨_,Tryz.underlying393,rfl⟩
theorem XK:aG Tryz.prog 394 ax:=an (z:=.nilFunc) ⟨_,Tryz.underlying394,rfl⟩
theorem XL:aG Tryz.prog 395 ax:=an (z:=.nilFunc) ⟨_,Tryz.underlying395,rfl⟩
theorem XM:aG Tryz.prog 396 ax:=an (z:=.nilFunc) ⟨_,Tryz.underlying396,rfl⟩
theorem XN:aG Tryz.prog 397 ax:=an (z:=.nilFunc) ⟨_,Tryz.underlying397,rfl⟩
theorem XO:aG Tryz.prog 398 ax:=an (z:=.nilFunc) ⟨_,Tryz.underlying398,rfl⟩
theorem XP:aG Tryz.prog 399 ax:=an (z:=.nilFunc) ⟨_,Tryz.underlying399,rfl⟩
theorem XQ:aG Tryz.prog 401 ax:=an (z:=.nilFunc) ⟨_,Tryz.underlying401,rfl⟩
theorem XR:aG Tryz.prog 402 ax:=an (z:=.nilFunc) ⟨_,Tryz.underlying402,rfl⟩
def Qj:TI:=⟨.arr 24 5,24,24,[.val (.int .u8 0),.val (.int .u8 0),.val (.int .u8 0),.val (.int .u8 0),.val (.int .u8 0),.val (.int .u8 0),.val (.int .u8 0),.val (.int .u8 0),.val (.int .u8 0),.val (.int .u8 0),.val (.int .u8 0),.val (.int .u8 0),.val (.int .u8 0),.val (.int .u8 0),.val (.int .u8 0),.val (.int .u8 0),.val (.int .u8 0),.val (.int .u8 0),.val (.int .u8 0),.val (.int .u8 0),.val (.int .u8 0),.val (.int .u8 0),.val (.int .u8 0),.val (.int .u8 0)]⟩
theorem XS:aG Tryz.prog 403 Qj:=an (z:=.agg #[(.int .u8 0),(.int .u8 0),(.int .u8 0),(.int .u8 0),(.int .u8 0),(.int .u8 0),(.int .u8 0),(.int .u8 0),(.int .u8 0),(.int .u8 0),(.int .u8 0),(.int .u8 0),(.int .u8 0),(.int .u8 0),(.int .u8 0),(.int .u8 0),(.int .u8 0),(.int .u8 0),(.int .u8 0),(.int .u8 0),(.int .u8 0),(.int .u8 0),(.int .u8 0),(.int .u8 0)]) (by kernel_rfl:Tryz.prog.underlying 403=some (.array 24 5))
theorem XT:aG Tryz.prog 404 ax:=an (z:=.nilFunc) ⟨_,Tryz.underlying404,rfl⟩
theorem XU:aG Tryz.prog 405 ax:=an (z:=.nilFunc) ⟨_,Tryz.underlying405,rfl⟩
theorem XV:aG Tryz.prog 407 ax:=an (z:=.nilFunc) ⟨_,Tryz.underlying407,rfl⟩
theorem XW:aG Tryz.prog 408 ax:=an (z:=.nilFunc) ⟨_,Tryz.underlying408,rfl⟩
theorem XX:aG Tryz.prog 409 ax:=an (z:=.nilFunc) ⟨_,Tryz.underlying409,rfl⟩
theorem XZ:aG Tryz.prog 410 ax:=an (z:=.nilFunc) ⟨_,Tryz.underlying410,rfl⟩
def Qk:TI:=⟨.arr 20 44,20,160,[.val (.int .u64 0),.val (.int .u64 0),.val (.int .u64 0),.val (.int .u64 0),.val (.int .u64 0),.val (.int .u64 0),.val (.int .u64 0),.val (.int .u64 0),.val (.int .u64 0),.val (.int .u64 0),.val (.int .u64 0),.val (.int .u64 0),.val (.int .u64 0),.val (.int .u64 0),.val (.int .u64 0),.val (.int .u64 0),.val (.int .u64 0),.val (.int .u64 0),.val (.int .u64 0),.val (.int .u64 0)]⟩
theorem X0:aG Tryz.prog 411 Qk:=an (z:=.agg #[(.int .u64 0),(.int .u64 0),(.int .u64 0),(.int .u64 0),(.int .u64 0),(.int .u64 0),(.int .u64 0),(.int .u64 0),(.int .u64 0),(.int .u64 0),(.int .u64 0),(.int .u64 0),(.int .u64 0),(.int .u64 0),(.int .u64 0),(.int .u64 0),(.int .u64 0),(.int .u64 0),(.int .u64 0),(.int .u64 0)]) (by kernel_rfl:Tryz.prog.underlying 411=some (.array 20 44))
def Ql:TI:=⟨.arr 65 5,65,65,[.val (.int .u8 0),.val (.int .u8 0),.val (.int .u8 0),.val (.int .u8 0),.val (.int .u8 0),.val (.int .u8 0),.val (.int .u8 0),.val (.int .u8 0),.val (.int .u8 0),.val (.int .u8 0),.val (.int .u8 0),.val (.int .u8 0),.val (.int .u8 0),.val (.int .u8 0),.val (.int .u8 0),.val (.int .u8 0),.val (.int .u8 0),.val (.int .u8 0),.val (.int .u8 0),.val (.int .u8 0),.val (.int .u8 0),.val (.int .u8 0),.val (.int .u8 0),.val (.int .u8 0),.val (.int .u8 0),.val (.int .u8 0),.val (.int .u8 0),.val (.int .u8 0),.val (.int .u8 0),.val (.int .u8 0),.val (.int .u8 0),.val (.int .u8 0),.val (.int .u8 0),.val (.int .u8 0),.val (.int .u8 0),.val (.int .u8 0),.val (.int .u8 0),.val (.int .u8 0),.val (.int .u8 0),.val (.int .u8 0),.val (.int .u8 0),.val (.int .u8 0),.val (.int .u8 0),.val (.int .u8 0),.val (.int .u8 0),.val (.int .u8 0),.val (.int .u8 0),.val (.int .u8 0),.val (.int .u8 0),.val (.int .u8 0),.val (.int .u8 0),.val (.int .u8 0),.val (.int .u8 0),.val (.int .u8 0),.val (.int .u8 0),.val (.int .u8 0),.val (.int .u8 0),.val (.int .u8 0),.val (.int .u8 0),.val (.int .u8 0),.val (.int .u8 0),.val (.int .u8 0),.val (.int .u8 0),.val (.int .u8 0),.val (.int .u8 0)]⟩
theorem X1:aG Tryz.prog 412 Ql:=an (z:=.agg #[(.int .u8 0),(.int .u8 0),(.int .u8 0),(.int .u8 0),(.int .u8 0),(.int .u8 0),(.int .u8 0),(.int .u8 0),(.int .u8 0),(.int .u8 0),(.int .u8 0),(.int .u8 0),(.int .u8 0),(.int .u8 0),(.int .u8 0),(.int .u8 0),(.int .u8 0),(.int .u8 0),(.int .u8 0),(.int .u8 0),(.int .u8 0),(.int .u8 0),(.int .u8 0),(.int .u8 0),(.int .u8 0),(.int .u8 0),(.int .u8 0),(.int .u8 0),(.int .u8 0),(.int .u8 0),(.int .u8 0),(.int .u8 0),(.int .u8 0),(.int .u8 0),(.int .u8 0),(.int .u8 0),(.int .u8 0),(.int .u8 0),(.int .u8 0),(.int .u8 0),(.int .u8 0),(.int .u8 0),(.int .u8 0),(.int .u8 0),(.int .u8 0),(.int .u8 0),(.int .u8 0),(.int .u8 0),(.int .u8 0),(.int .u8 0),(.int .u8 0),(.int .u8 0),(.int .u8 0),(.int .u8 0),(.int .u8 0),(.int .u8 0),(.int .u8 0),(.int .u8 0),(.int .u8 0),(.int .u8 0),(.int .u8 0),(.int .u8 0),(.int .u8 0),(.int .u8 0),(.int .u8 0)]) (by kernel_rfl:Tryz.prog.underlying 412=some (.array 65 5))
theorem X2:aG Tryz.prog 413 ax:=an (z:=.nilFunc) ⟨_,Tryz.underlying413,rfl⟩
def Qm:TI:=⟨.arr 32 5,32,32,[.val (.int .u8 0),.val (.int .u8 0),.val (.int .u8 0),.val (.int .u8 0),.val (.int .u8 0),.val (.int .u8 0),.val (.int .u8 0),.val (.int .u8 0),.val (.int .u8 0),.val (.int .u8 0),.val (.int .u8 0),.val (.int .u8 0),.val (.int .u8 0),.val (.int .u8 0),.val (.int .u8 0),.val (.int .u8 0),.val (.int .u8 0),.val (.int .u8 0),.val (.int .u8 0),.val (.int .u8 0),.val (.int .u8 0),.val (.int .u8 0),.val (.int .u8 0),.val (.int .u8 0),.val (.int .u8 0),.val (.int .u8 0),.val (.int .u8 0),.val (.int .u8 0),.val (.int .u8 0),.val (.int .u8 0),.val (.int .u8 0),.val (.int .u8 0)]⟩
theorem X3:aG Tryz.prog 414 Qm:=an (z:=.agg #[(.int .u8 0),(.int .u8 0),(.int .u8 0),(.int .u8 0),(.int .u8 0),(.int .u8 0),(.int .u8 0),(.int .u8 0),(.int .u8 0),(.int .u8 0),(.int .u8 0),(.int .u8 0),(.int .u8 0),(.int .u8 0),(.int .u8 0),(.int .u8 0),(.int .u8 0),(.int .u8 0),(.int .u8 0),(.int .u8 0),(.int .u8 0),(.int .u8 0),(.int .u8 0),(.int .u8 0),(.int .u8 0),(.int .u8 0),(.int .u8 0),(.int .u8 0),(.int .u8 0),(.int .u8 0),(.int .u8 0),(.int .u8 0)]) (by kernel_rfl:Tryz.prog.underlying 414=some (.array 32 5))
def Qn:TI:=⟨.arr 64 5,64,64,[.val (.int .u8 0),.val (.int .u8 0),.val (.int .u8 0),.val (.int .u8 0),.val (.int .u8 0),.val (.int .u8 0),.val (.int .u8 0),.val (.int .u8 0),.val (.int .u8 0),.val (.int .u8 0),.val (.int .u8 0),.val (.int .u8 0),.val (.int .u8 0),.val (.int .u8 0),.val (.int .u8 0),.val (.int .u8 0),.val (.int .u8 0),.val (.int .u8 0),.val (.int .u8 0),.val (.int .u8 0),.val (.int .u8 0),.val (.int .u8 0),.val (.int .u8 0),.val (.int .u8 0),.val (.int .u8 0),.val (.int .u8 0),.val (.int .u8 0),.val (.int .u8 0),.val (.int .u8 0),.val (.int .u8 0),.val (.int .u8 0),.val (.int .u8 0),.val (.int .u8 0),.val (.int .u8 0),.val (.int .u8 0),.val (.int .u8 0),.val (.int .u8 0),.val (.int .u8 0),.val (.int .u8 0),.val (.int .u8 0),.val (.int .u8 0),.val (.int .u8 0),.val (.int .u8 0),.val (.int .u8 0),.val (.int .u8 0),.val (.int .u8 0),.val (.int .u8 0),.val (.int .u8 0),.val (.int .u8 0),.val (.int .u8 0),.val (.int .u8 0),.val (.int .u8 0),.val (.int .u8 0),.val (.int .u8 0),.val (.int .u8 0),.val (.int .u8 0),.val (.int .u8 0),.val (.int .u8 0),.val (.int .u8 0),.val (.int .u8 0),.val (.int .u8 0),.val (.int .u8 0),.val (.int .u8 0),.val (.int .u8 0)]⟩
theorem X4:aG Tryz.prog 415 Qn:=an (z:=.agg #[(.int .u8 0),(.int .u8 0),(.int .u8 0),(.int .u8 0),(.int .u8 0),(.int .u8 0),(.int .u8 0),(.int .u8 0),(.int .u8 0),(.int .u8 0),(.int .u8 0),(.int .u8 0),(.int .u8 0),(.int .u8 0),(.int .u8 0),(.int .u8 0),(.int .u8 0),(.int .u8 0),(.int .u8 0),(.int .u8 0),(.int .u8 0),(.int .u8 0),(.int .u8 0),(.int .u8 0),(.int .u8 0),(.int .u8 0),(.int .u8 0),(.int .u8 0),(.int .u8 0),(.int .u8 0),(.int .u8 0),(.int .u8 0),(.int .u8 0),(.int .u8 0),(.int .u8 0),(.int .u8 0),(.int .u8 0),(.int .u8 0),(.int .u8 0),(.int .u8 0),(.int .u8 0),(.int .u8 0),(.int .u8 0),(.int .u8 0),(.int .u8 0),(.int .u8 0),(.int .u8 0),(.int .u8 0),(.int .u8 0),(.int .u8 0),(.int .u8 0),(.int .u8 0),(.int .u8 0),(.int .u8 0),(.int .u8 0),(.int .u8 0),(.int .u8 0),(.int .u8 0),(.int .u8 0),(.int .u8 0),(.int .u8 0),(.int .u8 0),(.int .u8 0),(.int .u8 0)]) (by kernel_rfl:Tryz.prog.underlying 415=some (.array 64 5))
theorem X5:aG Tryz.prog 424 ax:=an (z:=.nilFunc) ⟨_,Tryz.underlying424,rfl⟩
def Qo:TI:=⟨.agg [(0,9,1)],1,16,[.val (.string .empty)]⟩
theorem X7:aG Tryz.prog 429 Qo:=an (z:=.agg #[(.string .empty)]) ⟨av,av,av⟩
def A7:List (TypeId×TI):=[(1,ax),(2,D8),(3,Sd),(4,ti4),(5,ti5),(9,ti9),(12,Z3),(13,Z5),(21,Z7),(22,Z9),(23,Np),(24,aac),(25,Sf),(26,aag),(27,aai),(28,ax),(29,ax),(30,ax),(31,ax),(32,ax),(33,Nq),(34,ax),(35,ax),(36,Nr),(37,aat),(38,Ns),(39,ax),(40,aax),(42,ax),(43,ax),(44,Nt),(45,aaC),(46,Nu),(47,aaF),(48,aaH),(49,aaJ),(50,Nv),(51,aaM),(52,EF),(53,ax),(54,Nw),(56,ax),(57,ax),(58,ax),(59,ax),(60,ax),(61,aaW),(62,ax),(63,ax),(64,ax),(65,ax),(66,ax),(67,ax),(69,ax),(70,aa5),(71,ax),(73,ax),(74,Nx),(75,ax),(76,ax),(77,Ny),(78,abd),(79,Nz),(80,abg),(81,NA),(83,ax),(84,ax),(86,ax),(87,ax),(88,ax),(89,abo),(90,abq),(91,abt),(92,ax),(93,ax),(94,ax),(95,ax),(96,ax),(97,ax),(98,ax),(99,ax),(100,ax),(101,ax),(102,ax),(103,ax),(104,ax),(105,ax),(107,ax),(108,ax),(110,ax),(111,ax),(112,PG),(113,PH),(114,ax),(115,ax),(116,ax),(117,ax),(118,ax),(119,ax),(120,ax),(121,ax),(122,ax),(123,ax),(125,ax),(126,ax),(127,ax),(128,ax),(129,ax),(130,ax),(131,ax),(132,ax),(133,ax),(134,ax),(135,ax),(136,ax),(137,ax),(138,ax),(139,ax),(140,ax),(141,ax),(142,PI),(143,ax),(144,ax),(145,ax),(146,ax),(147,ax),(148,ax),(149,ax),(150,ax),(151,ax),(152,ax),(153,ax),(155,ax),(157,ax),(159,ax),(160,ax),(161,ax),(162,ax),(163,ax),(164,ax),(165,ax),(166,PJ),(168,ax),(169,ax),(170,ax),(171,PK),(172,PL),(174,ax),(175,ax),(176,ax),(177,ax),(178,PN),(179,ax),(180,ax),(181,ax),(182,ax),(184,ax),(185,ax),(186,PO),(187,ax),(188,PQ),(189,PR),(190,PS),(191,ax),(192,ax),(193,ax),(194,ax),(195,ax),(196,PT),(197,ax),(198,ax),(199,ax),(200,ax),(201,ax),(202,ax),(203,ax),(204,ax),(205,PU),(206,PV),(207,PW),(209,ax),(210,ax),(211,ax),(213,ax),(214,ax),(215,ax),(216,ax),(217,ax),(218,ax),(219,ax),(220,ax),(221,ax),(222,ax),(223,ax),(224,ax),(226,ax),(227,ax),(228,PX),(230,ax),(231,ax),(232,ax),(233,ax),(234,ax),(235,ax),(236,ax),(237,ax),(238,ax),(239,ax),(241,ax),(242,ax),(243,ax),(244,ax),(245,ax),(246,PY),(247,ax),(248,ax),(249,ax),(250,ax),(251,ax),(252,ax),(253,ax),(254,ax),(255,ax),(256,ax),(257,ax),(258,ax),(259,ax),(260,ax),(261,ax),(262,PZ),(263,ax),(264,P0),(265,ax),(266,ax),(267,ax),(268,P1),(269,P2),(270,ax),(271,ax),(272,ax),(273,ax),(274,ax),(275,ax),(276,ax),(277,ax),(279,ax),(280,ax),(281,ax),(282,ax),(283,ax),(284,ax),(285,ax),(286,ax),(287,ax),(288,ax),(289,ax),(290,ax),(291,ax),(292,P3),(293,P5),(294,P6),(295,ax),(296,ax),(297,ax),(298,ax),(299,ax),(300,ax),(301,ax),(302,ax),(303,ax),(304,ax),(305,ax),(306,ax),(307,ax),(308,ax),(309,ax),(310,ax),(311,ax),(313,ax),(314,ax),(315,ax),(316,P7),(317,ax),(318,ax),(319,ax),(320,ax),(322,ax),(323,ax),(324,P8),(326,ax),(327,ax),(328,P9),(330,ax),(332,ax),(333,ax),(334,Qa),(335,Qb),(336,Qc),(337,ax),(338,ax),(339,ax),(340,Qd),(341,Qe),(342,Qf),(343,ax),(347,ax),(348,ax),(349,ax),(350,ax),(352,ax),(354,ax),(355,ax),(357,ax),(358,ax),(359,ax),(360,ax),(361,ax),(363,ax),(364,ax),(365,ax),(366,ax),(367,ax),(368,ax),(370,ax),(372,ax),(373,ax),(374,ax),(375,ax),(376,ax),(378,ax),(379,ax),(380,ax),(381,Qg),(382,ax),(384,ax),(385,ax),(386,Qh),(387,Qi),(388,ax),(389,ax),(390,ax),(392,ax),(393,ax),(394,ax),(395,ax),(396,ax),(397,ax),(398,ax),(399,ax),(401,ax),(402,ax),(403,Qj),(404,ax),(405,ax),(407,ax),(408,ax),(409,ax),(410,ax),(411,Qk),(412,Ql),(413,ax),(414,Qm),(415,Qn),(424,ax),(429,Qo)]
theorem aJ:ic Tryz.prog A7:=⟨adD,adE,adF,adG,adH,adI,Z4,Z6,Z8,aaa,aab,aad,aaf,aah,aaj,aak,aal,aam,aan,aao,aap,aaq,aar,aas,aau,aav,aaw,aay,aaz,aaA,aaB,aaD,aaE,aaG,aaI,aaK,aaL,aaN,aaO,aaP,aaQ,aaR,aaS,aaT,aaU,aaV,aaX,aaY,aaZ,aa0,aa1,aa2,aa3,aa4,aa6,aa7,aa8,aa9,aba,abb,abc,abe,abf,abh,abi,abj,abk,abl,abm,abn,abp,abr,abu,abv,abw,abx,aby,abz,abA,abB,abC,Sg,Sh,Si,Sj,Sk,Sl,Sn,Sp,Sq,Sr,Ss,Su,Sv,Sw,Sy,Sz,SA,SB,SC,SD,SE,SF,SG,SH,SI,SJ,SK,SL,SM,SN,SO,SP,SQ,SR,SS,SU,SX,SY,SZ,S0,S1,S2,S3,S4,S5,S6,S7,S8,S9,Ua,Ub,Uc,Ud,Ue,Uf,Ug,Uh,Ui,Uj,Uk,Ul,Um,Un,Uo,Uq,Ur,Us,Ut,Uu,Uv,Uw,Ux,Uy,Uz,UA,UB,UC,UD,UE,UF,UG,UH,UI,UJ,UK,UL,UM,UN,UO,UP,UQ,UR,US,UT,UU,UW,UX,UY,UZ,U0,U1,U2,U3,U4,U5,U6,U7,U8,U9,Va,Vb,Vc,Vd,Ve,Vf,Vg,Vh,Vi,Vj,Vk,Vl,Vm,Vn,Vo,Vp,Vq,Vr,Vs,Vt,Vu,Vv,Vw,Vx,Vy,Vz,VA,VB,VC,VD,VE,VF,VG,VH,VI,VJ,VK,VL,VM,VN,VO,VP,VQ,VR,VS,VT,VU,VV,VW,VX,VY,VZ,V0,V1,V3,V4,V5,V6,V7,V8,V9,Wa,Wb,Wc,Wd,We,Wf,Wg,Wh,Wi,Wj,Wl,Wm,Wn,Wo,Wp,Wq,Wr,Ws,Wt,Wu,Wv,Ww,Wx,Wy,Wz,WA,WB,WC,WD,WE,WG,WH,WI,WJ,WK,WM,WN,WO,WQ,WR,WS,WT,WU,WV,WW,WX,WY,WZ,W1,W2,W3,W5,W6,W7,W8,W9,Xa,Xb,Xc,Xd,Xe,Xf,Xg,Xh,Xi,Xj,Xk,Xl,Xm,Xn,Xo,Xp,Xq,Xr,Xs,Xt,Xu,Xv,Xw,Xx,Xy,Xz,XA,XB,XC,XD,XE,XF,XG,XH,XI,XJ,XK,XL,XM,XN,XO,XP,XQ,XR,XS,XT,XU,XV,XW,XX,XZ,X0,X1,X2,X3,X4,X5,X7,trivial⟩
theorem jz {t:TypeId} {ti:TI} (h:du A7 t=some ti):aG Tryz.prog t ti:=ic.get aJ h
theorem Q3 {p:Prop} (h:p:=by first|omega|decide|(simp only[tl0,en,List.length_replicate,List.length_set,List.length_map,List.length_zipWith,List.length_take,List.length_append,List.length_cons,List.length_nil];omega)):p:=h
theorem Q4 {p:Prop} (h:p:=by (first|exact au.refl _|exact mu.kF (au.refl _) rfl|(refine mu.one rfl rfl ?_;skip)|(refine mu.ck ?_;skip))):p:=h
theorem Q5 {p:Prop} (h:p:=by exact (I6 rfl (ak rfl) (jz rfl) rfl (Nat.succ_ne_zero _) rfl)):p:=h
theorem Q6 {p:Prop} (h:p:=by first|decide|omega|(simp only[tl0,en,List.length_replicate,List.length_set,List.length_map,List.length_zipWith,List.length_take,List.length_append,List.length_cons,List.length_nil];omega)):p:=h
theorem Q7 {p:Prop} (h:p:=by exact (Hl rfl (ak rfl) (jz rfl) rfl rfl (Nat.succ_ne_zero _) rfl)):p:=h
theorem Q8 {p:Prop} (h:p:=by exact (Nl rfl rfl rfl (ak rfl) (jz rfl) rfl)):p:=h
theorem Q9 {p:Prop} (h:p:=by first|rfl|(simp[bn,bP,bN, *];done)):p:=h
theorem jw {p:Prop} (h:p:=by exact (gK (α:=Int) (d:=0) rfl (ak rfl) (ak rfl) (jz rfl) rfl (jz rfl) rfl aa)):p:=h
theorem mP {p:Prop} (h:p:=by exact (gK (α:=List Rat) (d:=[]) rfl (ak rfl) (ak rfl) (jz rfl) rfl (jz rfl) rfl aa)):p:=h
theorem EG {p:Prop} (h:p:=by repeat(first|exact EH.nil|refine EH.cons rfl ?_ ?_|exact kH.same (fun h=>h)|exact kH.same EI|exact kH.same (fun _=>rfl)|refine kH.one (fun h=>h) ?_|refine kH.one EI ?_|exact WL.refl|refine WL.eq ?_|refine WL.any rfl ?_|exact kH.dead)):p:=h
theorem og {p:Prop} (h:p:=by exact (gK (α:=Rat) (d:=0) rfl (ak rfl) (ak rfl) (jz rfl) rfl (jz rfl) rfl aa)):p:=h
theorem dO {p:Prop} (h:p:=by exact (JB rfl (ak rfl) (ak rfl))):p:=h
theorem dP {p:Prop} (h:p:=by exact (JC rfl (ak rfl) (ak rfl))):p:=h
theorem Ga {p:Prop} (h:p:=by exact (zF rfl (ak rfl) (fc rfl) (fc rfl) (.inl rfl) (jz rfl) rfl (jz rfl) rfl aa)):p:=h
theorem Zs {p:Prop} (h:p:=by (first|exact au.refl _|exact mu.kF (au.refl _) rfl|(refine mu.one rfl rfl ?_;skip)|(refine mu.ck ?_;(repeat(first|exact dF.bP rfl|exact kC.nil|refine kC.cons ?_ ?_|exact dF.R9|refine dF.agg ?_))))):p:=h
theorem IG {p:Prop} (h:p:=by exact (um (α:=Rat) (d:=0) rfl (ak rfl) (ak rfl) (jz rfl) rfl (jz rfl) rfl aa)):p:=h
theorem Cj {p:Prop} (h:p:=by repeat(first|exact aA|refine JM rfl ?_)):p:=h
theorem Q20 {p:Prop} (h:p:=by (first|exact au.refl _|exact mu.kF (au.refl _) rfl|(refine mu.one rfl rfl ?_;skip)|(refine mu.ck ?_;(repeat(first|exact dF.bP rfl|exact kC.nil|refine kC.cons ?_ ?_|(refine dF.cb rfl ?_;(first|rfl|omega|(simp<;>fail)|(simp<;>omega)))|refine dF.agg ?_))))):p:=h
theorem Q21 {p:Prop} (h:p:=by (first|exact au.refl _|exact mu.kF (au.refl _) rfl|(refine mu.one rfl rfl ?_;skip)|(refine mu.ck ?_;(repeat(first|exact dF.bP rfl|exact kC.nil|refine kC.cons ?_ ?_|exact dF.R9))))):p:=h
theorem Q22 {p:Prop} (h:p:=by (first|exact au.refl _|exact mu.kF (au.refl _) rfl|(refine mu.one rfl rfl ?_;skip)|(refine mu.ck ?_;(repeat(first|exact dF.bP rfl|exact kC.nil|refine kC.cons ?_ ?_|(refine dF.cb rfl ?_;(first|rfl|omega|(simp<;>fail)|(simp<;>omega)))))))):p:=h
theorem uq {p:Prop} (h:p:=by exact (AW rfl (ak rfl))):p:=h
theorem X8 {p:Prop} (h:p:=by exact (gK (α:=Int×Int) (d:=(0,0)) rfl (ak rfl) (ak rfl) (jz rfl) rfl (jz rfl) rfl aa)):p:=h
theorem yN {p:Prop} (h:p:=by exact (CQ rfl rfl rfl)):p:=h
theorem NB {p:Prop} (h:p:=by repeat(first|exact get_nil|refine dH rfl ?_)):p:=h
theorem Q27 {p:Prop} (h:p:=by (first|exact au.refl _|exact mu.kF (au.refl _) rfl|(refine mu.one rfl rfl ?_;(repeat(first|(refine dF.cb rfl ?_;(first|rfl|omega|(simp<;>fail)|(simp<;>omega))))))|(refine mu.ck ?_;skip))):p:=h
theorem Q28 {p:Prop} (h:p:=by (first|exact au.refl _|exact mu.kF (au.refl _) rfl|(refine mu.one rfl rfl ?_;(repeat(first|exact dF.bP rfl|exact kC.nil|refine kC.cons ?_ ?_|refine dF.agg ?_|(refine dF.seq rfl (by first|rfl|(apply bN;intro _;rfl)) ?_;(first|rfl|omega|(simp<;>fail)|(simp<;>omega))))))|(refine mu.ck ?_;skip))):p:=h
theorem Q29 {p:Prop} (h:p:=by repeat(first|exact NC.nil|refine NC.cons ?_ ?_|exact Wk.nil|exact Wk.refl|refine Wk.agg ?_)):p:=h
theorem Q30 {p:Prop} (h:p:=by exact (CY rfl (ak rfl) (ak rfl) (jz rfl) rfl (jz rfl) rfl rfl (by simp only[CX];omega))):p:=h
theorem Q31 {p:Prop} (h:p:=by intro m hm;simp only[List.mem_cons,List.not_mem_nil,or_false]at hm;obtain rfl:=hm;assumption):p:=h
theorem Q32 {p:Prop} (h:p:=by exact (um (α:=Int) (d:=0) rfl (ak rfl) (ak rfl) (jz rfl) rfl (jz rfl) rfl aa)):p:=h
theorem IH {p:Prop} (h:p:=by have:=h.2;split<;>omega):p:=h
theorem Q34 {p:Prop} (h:p:=by (first|exact au.refl _|exact mu.kF (au.refl _) rfl|(refine mu.one rfl rfl ?_;(repeat(first|exact dF.bP rfl|exact kC.nil|refine kC.cons ?_ ?_|(refine dF.cb rfl ?_;(first|rfl|omega|(simp<;>fail)|(simp<;>omega)))|refine dF.agg ?_)))|(refine mu.ck ?_;skip))):p:=h
theorem Q35 {p:Prop} (h:p:=by intro m hm;simp only[List.mem_cons,List.not_mem_nil,or_false]at hm;rcases hm with rfl|rfl<;>assumption):p:=h
theorem Qp {p:Prop} (h:p:=by rw[Nat.succ_mul];omega):p:=h
theorem Zt {p:Prop} (h:p:=by rw[Int.natAbs_natCast];omega):p:=h
theorem Q38 {p:Prop} (h:p:=by have:=Int.sign_nonneg_iff.2 (show 0≤(a:Int) - b by omega);omega):p:=h
theorem Q39 {p:Prop} (h:p:=by show 0+c≤List.length _;omega):p:=h
theorem tl0:ti5.bytes=1∧Np.bytes=4∧Sd.bytes=8∧D8.bytes=8∧ti9.bytes=16∧EF.bytes=56∧NA.bytes=56∧Nr.bytes=24∧Nw.bytes=24∧Nv.bytes=32∧Nt.bytes=8∧ti4.bytes=1∧Ny.bytes=24∧Nz.bytes=32∧Nx.bytes=24∧Ns.bytes=40∧Nq.bytes=24∧Nu.bytes=24:=⟨rfl,rfl,rfl,rfl,rfl,rfl,rfl,rfl,rfl,rfl,rfl,rfl,rfl,rfl,rfl,rfl,rfl,rfl⟩
theorem bO:Tryz.prog.follows .mixedOrders=true:=av
theorem bT (Z:List Nat) {f:FuncId} {fn':Func} {code:Code} {args:List SV} {c:SV} (hf:Tryz.prog.funcs[f]?=some fn') (h:∀ W0 w0 ρ0,Env.OK ⟨Tryz.prog,A7,W0,w0,fn'.ntmps,ρ0,[],Z,none⟩→A6 ⟨Tryz.prog,A7,W0,w0,fn'.ntmps,ρ0,[],Z,none⟩ code (IE A7 fn'.results.toList fun sv _=>au sv c) (enum 0 args) []) (hb:fn'.body=some code:=by exact rfl) (hn:(fn'.name=="runtime.NumGoroutine")=false:=by kernel_rfl) (ha:bn args=true:=by exact rfl) (hc:bP c=true:=by exact rfl) (hnt:Nat.ble args.length fn'.ntmps=true:=by kernel_rfl) (hp:args.all bx=true:=by exact rfl):ab Tryz.prog f args [] c [] []:=ZV (Z:=Z) aJ bO hf hb hn ha hc hnt hp h
theorem fZ (Z:List Nat) {f:FuncId} {fn':Func} {code:Code} {args:List SV} {c:SV} (hf:Tryz.prog.funcs[f]?=some fn') (h:∀ w0 ρ0,Env.OK ⟨Tryz.prog,A7,fun _=>False,w0,fn'.ntmps,ρ0,[],Z,none⟩→A6 ⟨Tryz.prog,A7,fun _=>False,w0,fn'.ntmps,ρ0,[],Z,none⟩ code (IE A7 fn'.results.toList fun sv hp=>mu sv hp c) (enum 0 args) []) (hb:fn'.body=some code:=by exact rfl) (hn:(fn'.name=="runtime.NumGoroutine")=false:=by kernel_rfl) (ha:bn args=true:=by first|rfl|(simp[bn,bP,bN, *];done)) (hc:bP c=true:=by first|rfl|(simp[bn,bP,bN, *];done)) (hnt:Nat.ble args.length fn'.ntmps=true:=by kernel_rfl) (hp:args.all bx=true:=by exact rfl):ab Tryz.prog f args [] c [] []:=ZZ (Z:=Z) aJ bO hf hb hn ha hc hnt hp h
def ez:List TypeId:=[25,46,48,50,52,336]
theorem cy:xg Tryz.prog ez:=by
 have h:ez.all (fun t=> !Tryz.prog.stoodInHeld t&&(Tryz.prog.fieldsOf t).toList.all (fun f=>f.name != "_"))=true:=av
 intro t ht;have:=List.all_eq_true.1 h t ht;simpa using this
end Go.Proofs.YtfpagioknjjacaaGreatDoor
