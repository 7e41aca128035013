/- The texts SxH, SxI, SxN, SxO, SxP, SxR, SxS, SxW, SxX, SxT, SxU, SxV, SxY. -/
import Derived.Tactics
import Derived.Scope
import Derived.KernelRfl
import Derived.Carry
import Derived.OpenShut
import Derived.Deep.Slices
import Derived.Lib.LaidTab
import Derived.Laws.CopyRow
import Derived.Test.YtfpagioknjjacaaGreatDoorQMModesCount1
namespace Go.Sx
structure fC where
 rt:List Nat
 rk:List Nat
 wt:Option Nat
 wk:List Nat
def ax:List (Nat×aA)→List Nat
 |[]=>[]
 |(k,_)::r=>k::ax r
theorem aP {l:List (Nat×aA)} {k:Nat}:k∈ax l↔∃b,(k,b)∈l:=by
 induction l with
 |nil=>simp[ax]
 |cons x l ih=>
  obtain⟨j,b⟩:=x
  simp only[ax,List.mem_cons,ih,Prod.mk.injEq]
  constructor
  ·rintro(rfl|⟨b',h⟩)
   ·exact⟨b,.inl ⟨rfl,rfl⟩⟩
   ·exact⟨b',.inr h⟩
  ·rintro⟨b',⟨rfl,rfl⟩|h⟩
   ·exact .inl rfl
   ·exact .inr ⟨b',h⟩
def Du (dst:Option Nat) (c:SV) (fr:List (Nat×SV)):List (Nat×SV):=
 match dst with
 |some d=>(d,c)::fr
 |none=>fr
def eD (hp:List (Nat×aA)) (k:Nat) (b:aA):List (Nat×aA):=
 match hp with
 |[]=>[(k,b)]
 |(j,c)::r=>match Nat.beq j k with
  |true=>(k,b)::r
  |false=>(j,c)::eD r k b
def xc (ks:List (Nat×aA)) (hp:List (Nat×aA)):List (Nat×aA):=
 match ks with
 |[]=>hp
 |(k,b)::r=>eD (xc r hp) k b
theorem bN {k:Nat} {b:aA}:∀(hp:List (Nat×aA)) (j:Nat),find (eD hp k b) j=if j=k then some b else find hp j
 |[],j=>by
  simp only[eD,find]
  cases h:Nat.beq k j with
  |true=>rw[if_pos (Nat.eq_of_beq_eq_true h).symm]
  |false=>rw[if_neg];rintro rfl;simp[Nat.beq_refl]at h
 |(i,c)::r,j=>by
  have ih:=bN (k:=k) (b:=b) r j
  simp only[eD]
  cases h:Nat.beq i k with
  |true=>
   have Kh:=Nat.eq_of_beq_eq_true h
   subst Kh
   simp only[find]
   cases h2:Nat.beq i j with
   |true=>rw[if_pos (Nat.eq_of_beq_eq_true h2).symm]
   |false=>rw[if_neg];rintro rfl;simp[Nat.beq_refl]at h2
  |false=>
   simp only[find]
   cases h2:Nat.beq i j with
   |true=>
    have Ki:=Nat.eq_of_beq_eq_true h2
    subst Ki
    rw[if_neg]
    rintro rfl
    simp[Nat.beq_refl]at h
   |false=>exact ih
theorem zT:∀(ks hp:List (Nat×aA)) (j:Nat),find (xc ks hp) j=match find ks j with
  |some b=>some b
  |none=>find hp j
 |[],hp,j=>by simp[xc,find]
 |(k,b)::r,hp,j=>by
  have ih:=zT r hp j
  simp only[xc,bN,find]
  cases h:Nat.beq k j with
  |true=>rw[if_pos (Nat.eq_of_beq_eq_true h).symm]
  |false=>rw[if_neg (by rintro rfl;simp[Nat.beq_refl]at h),ih]
def fn (fr:List (Nat×SV)) (hp:List (Nat×aA)):Loc→LV
 |.t n=>.t (lk fr n)
 |.k n=>.k (find hp n)
theorem FM (dst:Option Nat) (c:SV) (ks:List (Nat×aA)) (fr:List (Nat×SV)) (hp:List (Nat×aA)):lay dst c ks (fn fr hp)=fn (Du dst c fr) (xc ks hp):=by
 funext l
 cases l with
 |t n=>
  simp only[lay,fn]
  cases dst with
  |none=>simp[Du]
  |some d=>
   simp only[Option.some.injEq,Du,lk]
   cases h:Nat.beq d n with
   |true=>rw[if_pos (Nat.eq_of_beq_eq_true h)]
   |false=>rw[if_neg (by rintro rfl;simp[Nat.beq_refl]at h)]
 |k n=>
  simp only[lay,fn,zT]
  cases find ks n<;>rfl
structure Env where
 P:Program
 T:List (TypeId×TI)
 W0:Nat→Prop
 w0:World
 n:Nat
 ρ0:bI
 fx:List Nat
 Z:List Nat
 ro:Option Nat
structure Ext (E:Env) (ρ:bI):Prop where
 le:E.ρ0.Le ρ
 aT:∀b o,ρ.aT b=some o→E.ρ0.aT b=some o∨E.w0.heap.size≤b
 fix:∀k,k∈E.fx→ρ.key k=E.ρ0.key k
def RR (E:Env) (s:Loc→LV) (a:Act) (w:World):Prop:=∃ρ,Ext E ρ∧(∀k,k∈E.fx→(s (.k k)).blk≠none)∧R E.W0 E.w0 E.n ρ s a w
def xd (E:Env) (ops:Array Oper) (o:Oper) (fr:List (Nat×SV)) (hp:List (Nat×aA)) (f:fC) (c:SV) (ks:List (Nat×aA)):Prop:=
 f.wt=o.dst∧(∀k,k∈f.wk↔∃b,(k,b)∈ks)∧
  ∀s,(∀t,t∈f.rt→s (.t t)=fn fr hp (.t t))→(∀k,k∈f.rk∨k∈f.wk→s (.k k)=fn fr hp (.k k))→∀a w,RR E s a w→
   (if Region.wanted o (yielded ops a.tmps)then goes E.P o a w (fun a' w'=>RR E (lay o.dst c ks s) a' w')else RR E (lay o.dst c ks s) (a.put o.dst undef) w)
def zU (n:Nat):Option Nat→Bool
 |none=>true
 |some d=>Nat.blt d n
def xe (F:SV→(SV→Prop)→Prop) (l:List SV):(List SV→Prop)→Prop:=
 List.rec (motive:=fun _=>(List SV→Prop)→Prop) (fun K=>K []) (fun c _ ih K=>F c fun c'=>ih fun l'=>K (c'::l')) l
def pt (F:SV→(SV→Prop)→Prop) (c:SV) (K:SV→Prop):Prop:=match c with
  |.agg cs=>xe F cs fun l=>K (.agg l)
  |.cC cs=>xe F cs fun l=>K (.cC l)
  |.any=>K .any
  |.val v=>K (.val v)
  |.ptr k s i r=>K (.ptr k s i r)
  |.aK k s i n=>K (.aK k s i n)
  |.nat n=>K (.nat n)
  |.int z=>K (.int z)
  |.frac q=>K (.frac q)
  |.atom p=>K (.atom p)
  |.clo f a b=>K (.clo f a b)
  |.yld l rc ts a=>K (.yld l rc ts a)
def FN (c:SV) (K:SV→Prop):Prop:=pt (pt (pt (pt fun c K=>K c))) c K
def rB (b:aA) (K:aA→Prop):Prop:=match b with
 |⟨ty,wr,d⟩=>match d with
  |.one cs=>xe FN cs fun l=>K ⟨ty,wr,.one l⟩
  |.ints kd xs=>K ⟨ty,wr,.ints kd xs⟩
  |.cd xs=>K ⟨ty,wr,.cd xs⟩
  |.seq w xs=>K ⟨ty,wr,.seq w xs⟩
  |.dead=>K ⟨ty,wr,.dead⟩
  |.loop rc=>K ⟨ty,wr,.loop rc⟩
def By (l:List (Nat×aA)):(List (Nat×aA)→Prop)→Prop:=
 List.rec (motive:=fun _=>(List (Nat×aA)→Prop)→Prop) (fun K=>K []) (fun x _ ih K=>match x with
  |(k,b)=>rB b fun b'=>ih fun r'=>K ((k,b')::r')) l
def xf (l:List Nat):(List Nat→Prop)→Prop:=
 List.rec (motive:=fun _=>(List Nat→Prop)→Prop) (fun K=>K []) (fun x _ ih K=>ih fun r'=>K (x::r')) l
def Bz (l:List (Nat×SV)):(List (Nat×SV)→Prop)→Prop:=
 List.rec (motive:=fun _=>(List (Nat×SV)→Prop)→Prop) (fun K=>K []) (fun x _ ih K=>match x with
  |(t,c)=>ih fun r'=>K ((t,c)::r')) l
def KK (d:Option Nat) (K:Option Nat→Prop):Prop:=match d with
 |none=>K none
 |some t=>K (some t)
def SD (dst:Option Nat) (c:SV) (fr:List (Nat×SV)) (K:List (Nat×SV)→Prop):Prop:=match dst with
 |some d=>K ((d,c)::fr)
 |none=>K fr
def Hi (hp:List (Nat×aA)) (k:Nat) (b:aA):(List (Nat×aA)→Prop)→Prop:=
 List.rec (motive:=fun _=>(List (Nat×aA)→Prop)→Prop) (fun K=>K [(k,b)]) (fun x r ih K=>match x with
  |(j,c)=>match Nat.beq j k with
   |true=>K ((k,b)::r)
   |false=>ih fun r'=>K ((j,c)::r')) hp
def KM (ks hp:List (Nat×aA)):(List (Nat×aA)→Prop)→Prop:=
 List.rec (motive:=fun _=>(List (Nat×aA)→Prop)→Prop) (fun K=>K hp) (fun x _ ih K=>match x with
  |(k,b)=>ih fun bW=>Hi bW k b K) ks
theorem uj {F:SV→(SV→Prop)→Prop} (hF:∀c K,F c K=K c):∀(l:List SV) (K:List SV→Prop),xe F l K=K l
 |[],K=>rfl
 |c::l,K=>by
  show F c (fun c'=>xe F l fun l'=>K (c'::l'))=_
  rw[hF,uj hF l]
theorem nm {F:SV→(SV→Prop)→Prop} (hF:∀c K,F c K=K c) (c:SV) (K:SV→Prop):pt F c K=K c:=by
 cases c<;>simp only[pt,uj hF]
theorem zW (c:SV) (K:SV→Prop):FN c K=K c:=nm (nm (nm (nm fun _ _=>rfl))) c K
theorem Dv (b:aA) (K:aA→Prop):rB b K=K b:=by
 obtain⟨ty,wr,d⟩:=b
 cases d<;>simp only[rB,uj zW]
theorem zX:∀(l:List (Nat×aA)) (K:List (Nat×aA)→Prop),By l K=K l
 |[],K=>rfl
 |(k,b)::l,K=>by
  show rB b (fun b'=>By l fun r'=>K ((k,b')::r'))=_
  rw[Dv,zX l]
theorem zY:∀(l:List Nat) (K:List Nat→Prop),xf l K=K l
 |[],K=>rfl
 |x::l,K=>by
  show xf l (fun r'=>K (x::r'))=_
  rw[zY l]
theorem z6:∀(l:List (Nat×SV)) (K:List (Nat×SV)→Prop),Bz l K=K l
 |[],K=>rfl
 |(t,c)::l,K=>by
  show Bz l (fun r'=>K ((t,c)::r'))=_
  rw[z6 l]
theorem Ja (d:Option Nat) (K:Option Nat→Prop):KK d K=K d:=by cases d<;>rfl
theorem KN (dst:Option Nat) (c:SV) (fr:List (Nat×SV)) (K:List (Nat×SV)→Prop):SD dst c fr K=K (Du dst c fr):=by cases dst<;>rfl
theorem Dw:∀(hp:List (Nat×aA)) (k:Nat) (b:aA) (K:List (Nat×aA)→Prop),Hi hp k b K=K (eD hp k b)
 |[],k,b,K=>rfl
 |(j,c)::r,k,b,K=>by
  show(match Nat.beq j k with
   |true=>K ((k,b)::r)
   |false=>Hi r k b fun r'=>K ((j,c)::r'))=_
  simp only[eD,Dw r]
  cases Nat.beq j k<;>rfl
theorem Dx:∀(ks hp:List (Nat×aA)) (K:List (Nat×aA)→Prop),KM ks hp K=K (xc ks hp)
 |[],hp,K=>rfl
 |(k,b)::r,hp,K=>by
  show KM r hp (fun bW=>Hi bW k b K)=_
  rw[Dx r,Dw,xc]
def z7 (dst:Option Nat) (rt:List Nat) (fr:List (Nat×SV)) (hp:List (Nat×aA)) (fs:List fC) (c:SV) (fk new upd:List (Nat×aA)) (K:List (Nat×SV)→List (Nat×aA)→List fC→Prop):Prop:=
 KK dst fun dst=>FN c fun c=>By new fun new=>By upd fun upd=>SD dst c fr fun fr'=>KM (upd++new) hp fun bW=>
  xf rt fun rt=>xf (ax fk) fun rk=>xf (ax (upd++new)) fun wk=>K fr' bW (⟨rt,rk,dst,wk⟩::fs)
theorem KO (dst:Option Nat) (rt:List Nat) (fr:List (Nat×SV)) (hp:List (Nat×aA)) (fs:List fC) (c:SV) (fk new upd:List (Nat×aA)) (K:List (Nat×SV)→List (Nat×aA)→List fC→Prop):
  z7 dst rt fr hp fs c fk new upd K=K (Du dst c fr) (xc (upd++new) hp) (⟨rt,ax fk,dst,ax (upd++new)⟩::fs):=by
 simp only[z7,Ja,zW,zX,KN,Dx,zY]
def BA (E:Env) (ops:List Oper) (o:Oper) (_:List Oper) (ih:List (Nat×SV)→List (Nat×aA)→List fC→(List (Nat×SV)→List (Nat×aA)→List fC→Prop)→Prop)
  (fr:List (Nat×SV)) (hp:List (Nat×aA)) (fs:List fC) (K:List (Nat×SV)→List (Nat×aA)→List fC→Prop):Prop:=
  match zU E.n o.dst with
  |false=>False
  |true=>
   match o.guard with
   |none=>Bz (pick fr (looks o)) fun p=>exec E.P E.T E.Z p hp o fun c fk new upd=>z7 o.dst (looks o) fr hp fs c fk new upd fun fr' bW fs'=>ih fr' bW fs' K
   |some (j,want)=>
    match (ops[j]?).bind (·.dst)with
    |none=>False
    |some d=>match lk fr d with
     |some (.val (.bool b))=>
      (b=want→Bz (pick fr (looks o)) fun p=>exec E.P E.T E.Z p hp o fun c fk new upd=>z7 o.dst (d::looks o) fr hp fs c fk new upd fun fr' bW fs'=>ih fr' bW fs' K)∧
      (b= !want→z7 o.dst [d] fr hp fs (.cC []) [] [] [] fun fr' bW fs'=>ih fr' bW fs' K)
     |some (.cC [])=>z7 o.dst [d] fr hp fs (.cC []) [] [] [] fun fr' bW fs'=>ih fr' bW fs' K
     |_=>False
def VJ (fr:List (Nat×SV)) (hp:List (Nat×aA)) (fs:List fC) (K:List (Nat×SV)→List (Nat×aA)→List fC→Prop):Prop:=K fr hp fs
def lex (E:Env) (ops:List Oper) (l:List Oper):List (Nat×SV)→List (Nat×aA)→List fC→(List (Nat×SV)→List (Nat×aA)→List fC→Prop)→Prop:=
 List.rec (motive:=fun _=>List (Nat×SV)→List (Nat×aA)→List fC→(List (Nat×SV)→List (Nat×aA)→List fC→Prop)→Prop) VJ (BA E ops) l
theorem lex_nil (E:Env) (ops:List Oper) (fr:List (Nat×SV)) (hp:List (Nat×aA)) (fs:List fC) (K:List (Nat×SV)→List (Nat×aA)→List fC→Prop):lex E ops [] fr hp fs K=K fr hp fs:=rfl
theorem KP (E:Env) (ops:List Oper) (o:Oper) (r:List Oper) (fr:List (Nat×SV)) (hp:List (Nat×aA)) (fs:List fC) (K:List (Nat×SV)→List (Nat×aA)→List fC→Prop):
  lex E ops (o::r) fr hp fs K=BA E ops o r (lex E ops r) fr hp fs K:=rfl
theorem BB {E:Env} {s:Loc→LV} {a:Act} {w:World} {dst:Option Nat} (h:RR E s a w) (hd:zU E.n dst=true):RR E (lay dst (.cC []) [] s) (a.put dst undef) w:=by
 obtain⟨ρ,hle,hfx,h⟩:=h
 have hk:∀k,lay dst (.cC []) [] s (.k k)=s (.k k):=fun k=>by simp[lay,find]
 refine⟨ρ,hle,fun k hf=>by rw[hk];exact hfx k hf, ?_⟩
 refine {defers:= ?_,size:= ?_,fr:= ?_,bw:=h.bw,hp:= ?_}
 ·have:(a.put dst undef).defers=a.defers:=by cases dst<;>simp[Act.put]
  rw[this];exact h.defers
 ·cases dst<;>simp[Act.put,h.size]
 ·intro t sv ht
  simp only[lay]at ht
  by_cases hdt:dst=some t
  ·rw[if_pos hdt]at ht
   cases ht
   have:(a.put dst undef).tmps.getD t undef=undef:=by
    subst hdt
    simp only[zU]at hd
    have aI:t<E.n:=by simpa [Nat.blt_eq]using hd
    simp[Act.put,h.size,aI]
   rw[this]
   simp only[Has]
   exact⟨[],by simp[au],by simp[undef]⟩
  ·rw[if_neg hdt]at ht
   have:(a.put dst undef).tmps.getD t undef=a.tmps.getD t undef:=by
    cases Fv:dst with
    |none=>rfl
    |some d=>
     have a7:d≠t:=fun he=>hdt (by rw[Fv,he])
     simp[Act.put,Array.getElem?_setIfInBounds_ne a7]
   rw[this];exact h.fr t sv ht
 ·exact {
   blk:=fun k b hb=>h.hp.blk k b (by rwa [hk]at hb)
   sep:=fun k k' x x' b b' h1 h2 h3 h4 hb fV=>h.hp.sep k k' x x' b b' h1 h2 h3 h4 (by rwa [hk]at hb) (by rwa [hk]at fV)
   own:=fun k b x hb=>h.hp.own k b x (by rwa [hk]at hb)
   ud:=fun k x hx=>by rw[hk];exact h.hp.ud k x hx
   aT:=h.hp.aT
   ep:=fun k b x hb=>h.hp.ep k b x (by rwa [hk]at hb)}
theorem Hj {E:Env} {ops:Array Oper} {o:Oper} {fr:List (Nat×SV)} {hp:List (Nat×aA)} {c:SV} {fk new upd:List (Nat×aA)} {rt:List Nat}
  (hd:zU E.n o.dst=true) (hop:bL E.P o (pick fr (looks o)) fk c new upd) (mj:∀j b,(j,b)∈fk→find hp j=some b) (eO:∀j b,(j,b)∈new→find hp j=none)
  (hupd:∀j b,(j,b)∈upd→∃b0,(j,b0)∈fk∧b0.wr=true∧b0.data.live=true∧b.wr=true) (hrt:∀t,t∈looks o→t∈rt)
  (hw:∀s,(∀t,t∈rt→s (.t t)=fn fr hp (.t t))→∀a w,RR E s a w→Region.wanted o (yielded ops a.tmps)=true):
  xd E ops o fr hp ⟨rt,ax fk,o.dst,ax (upd++new)⟩ c (upd++new):=by
 refine⟨rfl,fun k=>aP,fun s ht hk a w hR=> ?_⟩
 rw[if_pos (hw s ht a w hR)]
 obtain⟨ρ,hle,hfx,hR⟩:=hR
 have kE:∀k,(∃b,(k,b)∈fk)∨(∃b,(k,b)∈upd++new)→(s (.k k)).blk=find hp k:=by
  intro k h
  rw[hk k (h.imp aP.2 aP.2)]
  rfl
 have aI:∀d,o.dst=some d→d<E.n:=fun d h=>by rw[h]at hd;simpa [zU,Nat.blt_eq]using hd
 refine ug ?_ (Kw hop hR (fun t sv h=>by rw[ht t (hrt t (mr h).2)];exact(mr h).1) (fun k b h=>by rw[kE k (.inl ⟨b,h⟩)];exact mj k b h)
  (fun k b h=>by rw[kE k (.inr ⟨b,List.mem_append.2 (.inr h)⟩)];exact eO k b h) hupd aI)
 rintro a' w' ⟨ρ',h1,h4,h3,h2⟩
 refine⟨ρ',⟨hle.le.trans h1,fun b o hb=>(h3 b o hb).elim (hle.aT b o) .inr,fun k hf=>by rw[h4 k (hfx k hf)];exact hle.fix k hf⟩,fun k hf=> ?_,h2⟩
 simp only[lay]
 cases find (upd++new) k with
 |some b=>simp[LV.blk]
 |none=>exact hfx k hf
theorem xg {E:Env} {ops:Array Oper} {o:Oper} {fr:List (Nat×SV)} {hp:List (Nat×aA)} {rt:List Nat} (hd:zU E.n o.dst=true)
  (hw:∀s,(∀t,t∈rt→s (.t t)=fn fr hp (.t t))→∀a w,RR E s a w→Region.wanted o (yielded ops a.tmps)=false):
  xd E ops o fr hp ⟨rt,[],o.dst,[]⟩ (.cC []) []:=by
 refine⟨rfl,fun k=>by simp,fun s ht _ a w hR=> ?_⟩
 rw[hw s ht a w hR]
 simp only[Bool.false_eq_true,if_false]
 exact BB hR hd
structure Rec where
 f:fC
 o:Oper
 c:SV
 ks:List (Nat×aA)
 fr:List (Nat×SV)
 hp:List (Nat×aA)
def Jb (E:Env) (ops:Array Oper):List Oper→List (Nat×SV)→List (Nat×aA)→List Rec→List (Nat×SV)→List (Nat×aA)→Prop
 |[],fr,hp,recs,fr',bW=>recs=[]∧fr'=fr∧bW=hp
 |o::l,fr,hp,recs,fr',bW=>∃rc rest,recs=rc::rest∧rc.o=o∧rc.fr=fr∧rc.hp=hp∧xd E ops o fr hp rc.f rc.c rc.ks∧Jb E ops l (Du o.dst rc.c fr) (xc rc.ks hp) rest fr' bW
theorem xh {ops:Array Oper} {a:Act} {j d:Nat} (h:(ops[j]?).bind (·.dst)=some d) {b:Bool} (hv:a.tmps.getD d undef= .bool b):yielded ops a.tmps j=some b:=by
 unfold yielded
 rw[h]
 have:a.tmps[d]? =some (.bool b):=by
  rw[Array.getD_eq_getD_getElem?]at hv
  cases hx:a.tmps[d]? with
  |none=>rw[hx]at hv;simp[undef]at hv
  |some v=>rw[hx]at hv;simp at hv;rw[hv]
 simp[this]
theorem zu {ops:Array Oper} {a:Act} {j d:Nat} (h:(ops[j]?).bind (·.dst)=some d) (hv:a.tmps.getD d undef=undef):yielded ops a.tmps j=none:=by
 unfold yielded
 rw[h]
 rw[Array.getD_eq_getD_getElem?]at hv
 cases hx:a.tmps[d]? with
 |none=>simp[hx]
 |some v=>rw[hx]at hv;simp[undef]at hv;simp[hx,hv]
theorem Dy {E:Env} (hT:db E.P E.T) {ops:List Oper} {K:List (Nat×SV)→List (Nat×aA)→List fC→Prop}:∀(l:List Oper) (fr:List (Nat×SV)) (hp:List (Nat×aA)) (fs:List fC),lex E ops l fr hp fs K→
  ∃recs fr' bW,Jb E ops.toArray l fr hp recs fr' bW∧K fr' bW ((recs.map (·.f)).reverse++fs)
 |[],fr,hp,fs,h=>⟨[],fr,hp,⟨rfl,rfl,rfl⟩,by simpa [lex_nil]using h⟩
 |o::l,fr,hp,fs,h=>by
  rw[KP]at h
  unfold BA at h
  simp only[KO,z6]at h
  split at h
  ·exact h.elim
  ·rename_i hd
   have PG:∀(f:fC) (c:SV) (ks:List (Nat×aA)),xd E ops.toArray o fr hp f c ks→lex E ops l (Du o.dst c fr) (xc ks hp) (f::fs) K→
     ∃recs fr' bW,Jb E ops.toArray (o::l) fr hp recs fr' bW∧K fr' bW ((recs.map (·.f)).reverse++fs):=by
    intro f c ks hs hl
    obtain⟨recs,fr',bW,h1,h2⟩:=Dy hT l _ _ _ hl
    exact⟨⟨f,o,c,ks,fr,hp⟩::recs,fr',bW,⟨_,_,rfl,rfl,rfl,rfl,hs,h1⟩,by simpa using h2⟩
   split at h
   ·rename_i hg
    obtain⟨c,fk,new,upd,h1,h2,h3,h4,h5⟩:=zS hT h
    exact PG _ _ _ (Hj hd h1 h2 h3 h4 (fun t ht=>ht) (fun s _ a w _=>by simp[Region.wanted,hg])) h5
   ·rename_i j want hg
    split at h
    ·exact h.elim
    ·rename_i d hj
     have oc:((ops.toArray)[j]?).bind (·.dst)=some d:=by simpa using hj
     have bF:∀(sv:SV) (rt:List Nat),lk fr d=some sv→d∈rt→∀s,(∀t,t∈rt→s (.t t)=fn fr hp (.t t))→∀a w,RR E s a w→∃ρ,Has ρ sv (a.tmps.getD d undef):=by
      intro sv rt hlk Fv s hs a w hR
      obtain⟨ρ,_,_,hR⟩:=hR
      exact⟨ρ,hR.fr d sv (by rw[hs d Fv];simp[fn,hlk,LV.sv])⟩
     split at h
     ·rename_i b hlk
      rcases(show b=want∨b= !want by cases b<;>cases want<;>simp)with hb|hb
      ·obtain⟨c,fk,new,upd,h1,h2,h3,h4,h5⟩:=zS hT (h.1 hb)
       refine PG _ _ _ (Hj (rt:=d::looks o) hd h1 h2 h3 h4 (fun t ht=>List.mem_cons_of_mem _ ht) (fun s hs a w hR=> ?_)) h5
       obtain⟨ρ,hv⟩:=bF _ _ hlk (List.mem_cons_self ..) s hs a w hR
       have:=xh oc (aJ hv)
       simp[Region.wanted,hg,this,hb]
      ·refine PG _ _ _ (xg (rt:=[d]) hd (fun s hs a w hR=> ?_)) (h.2 hb)
       obtain⟨ρ,hv⟩:=bF _ _ hlk (List.mem_cons_self ..) s hs a w hR
       have:=xh oc (aJ hv)
       simp[Region.wanted,hg,this,hb]
     ·rename_i hlk
      refine PG _ _ _ (xg (rt:=[d]) hd (fun s hs a w hR=> ?_)) h
      obtain⟨ρ,hv⟩:=bF _ _ hlk (List.mem_cons_self ..) s hs a w hR
      simp only[Has,au]at hv
      obtain⟨z,rfl,hv⟩:=hv
      have:=zu oc (by rw[hv];rfl)
      simp[Region.wanted,hg,this]
     ·exact h.elim
theorem z8 {E:Env} {ops:Array Oper} {Q:Exit→Act→World→Prop}:∀(l:List Oper) (fr:List (Nat×SV)) (hp:List (Nat×aA)) (recs:List Rec) (fr':List (Nat×SV)) (bW:List (Nat×aA)),Jb E ops l fr hp recs fr' bW→
  (∀a w,RR E (fn fr' bW) a w→Q .normal a w)→∀a w,RR E (fn fr hp) a w→wpListIn (Kc E.ro) 0 E.P ops Q l a w
 |[],fr,hp,recs,fr',bW,h,hQ,a,w,hR=>by
  obtain⟨_,rfl,rfl⟩:=h
  exact hQ a w hR
 |o::l,fr,hp,recs,fr',bW,h,hQ,a,w,hR=>by
  obtain⟨rc,rest,rfl,_,_,_,⟨_,_,hs⟩,h2⟩:=h
  have ih:=z8 l _ _ _ _ _ h2 hQ
  have:=hs (fn fr hp) (fun _ _=>rfl) (fun _ _=>rfl) a w hR
  unfold wpListIn
  split
  ·rename_i hw
   rw[if_pos hw]at this
   refine zK (ug ?_ this)
   intro a' w' kC
   rw[FM]at kC
   exact ih a' w' kC
  ·rename_i hw
   rw[if_neg hw,FM]at this
   exact⟨fun _ _=>trivial,ih _ _ this⟩
def qo (acc:List Nat):List Edge→Nat
 |[]=>0
 |e::r=>match Region.binds .any e with
  |true=>2^e.on|||(acc.getD e.on 0|||qo acc r)
  |false=>qo acc r
def Aa:List Oper→List Nat→List Nat
 |[],acc=>acc
 |o::r,acc=>Aa r (acc++[qo acc o.after.toList])
def rC (i:Nat):List Edge→Bool
 |[]=>true
 |e::r=>match Region.binds .any e with
  |true=>Nat.blt e.on i&&rC i r
  |false=>rC i r
def rD:Nat→List Oper→Bool
 |_,[]=>true
 |i,o::r=>rC i o.after.toList&&rD (i+1) r
def vI (x:Nat):List Nat→Bool
 |[]=>false
 |y::r=>Nat.beq x y||vI x r
def meets:List Nat→List Nat→Bool
 |[],_=>false
 |x::r,l=>vI x l||meets r l
def SE:Option Nat→List Nat
 |none=>[]
 |some d=>[d]
def Dz (f g:fC):Bool:=
 meets (SE f.wt) g.rt||(meets (SE f.wt) (SE g.wt)||(meets (SE g.wt) f.rt||(meets f.wk g.rk||(meets f.wk g.wk||meets g.wk f.rk))))
def DA (f:fC) (m:Nat):Nat→List fC→Bool
 |_,[]=>true
 |i,g::r=>(!Dz g f||Nat.testBit m i)&&DA f m (i+1) r
def BC (ms:List Nat) (done:List fC):Nat→List fC→Bool
 |_,[]=>true
 |j,f::r=>DA f (ms.getD j 0) 0 done&&BC ms (done++[f]) (j+1) r
def indep (ops:List Oper) (fs:List fC):Bool:=rD 0 ops&&BC (Aa ops []) [] 0 fs
theorem jg {x:Nat}:∀{l:List Nat},vI x l=true↔x∈l
 |[]=>by simp[vI]
 |y::r=>by
  simp only[vI,Bool.or_eq_true,List.mem_cons,jg,Nat.beq_eq]
theorem Ab:∀{l r:List Nat},meets l r=true↔∃x,x∈l∧x∈r
 |[],r=>by simp[meets]
 |y::l,r=>by
  simp only[meets,Bool.or_eq_true,jg,Ab,List.mem_cons]
  constructor
  ·rintro(h|⟨x,h1,h2⟩)
   ·exact⟨y,.inl rfl,h⟩
   ·exact⟨x,.inr h1,h2⟩
  ·rintro⟨x,rfl|h1,h2⟩
   ·exact .inl h2
   ·exact .inr ⟨x,h1,h2⟩
theorem rE {ops:Array Oper} {o:Oper} {j:Nat} (ho:ops[j]? =some o) {acc:List Nat} (hacc:∀k m i,acc[k]? =some m→Nat.testBit m i=true→n9 ops k i):
  ∀(es:List Edge),(∀e∈es,e∈o.after)→∀i,Nat.testBit (qo acc es) i=true→n9 ops j i
 |[],_,i,h=>by simp[qo]at h
 |e::r,hes,i,h=>by
  have ih:=rE ho hacc r (fun x hx=>hes x (List.mem_cons_of_mem _ hx)) i
  unfold qo at h
  split at h
  ·rename_i hb
   rw[Nat.testBit_or,Nat.testBit_or,Nat.testBit_two_pow]at h
   have he:=hes e (List.mem_cons_self ..)
   simp only[Bool.or_eq_true,decide_eq_true_eq]at h
   rcases h with h|h|h
   ·rw[←h];exact .one ho he hb
   ·cases hg:acc[e.on]? with
    |none=>simp[hg]at h
    |some m=>
     have:acc.getD e.on 0=m:=by simp[hg]
     rw[this]at h
     exact .trans (.one ho he hb) (hacc _ _ _ hg h)
   ·exact ih h
  ·exact ih h
theorem vd {ops:Array Oper}:∀(l:List Oper) (acc:List Nat),(∀j,l[j]? =ops[acc.length+j]?)→(∀k m i,acc[k]? =some m→Nat.testBit m i=true→n9 ops k i)→
  ∀k m i,(Aa l acc)[k]? =some m→Nat.testBit m i=true→n9 ops k i
 |[],acc,_,h=>by simpa [Aa]using h
 |o::r,acc,hl,h=>by
  have h0:ops[acc.length]? =some o:=by have:=hl 0;simpa using this.symm
  refine vd r (acc++[qo acc o.after.toList]) (fun j=> ?_) (fun k m i hk hb=> ?_)
  ·have:=hl (j+1)
   simpa [Nat.add_assoc,Nat.add_comm 1 j]using this
  ·rcases Nat.lt_trichotomy k acc.length with aI|rfl|Sw
   ·rw[List.getElem?_append_left aI]at hk
    exact h k m i hk hb
   ·simp at hk
    subst hk
    exact rE h0 h _ (fun e he=>by simpa using he) i hb
   ·rw[List.getElem?_eq_none (by simp;omega)]at hk
    cases hk
theorem nq {i:Nat}:∀{es:List Edge},rC i es=true→∀e∈es,Region.binds .any e=true→e.on<i
 |e::r,h,x,hx,hb=>by
  unfold rC at h
  rcases List.mem_cons.1 hx with rfl|hx
  ·rw[hb]at h
   simp only[Bool.and_eq_true,Nat.blt_eq]at h
   exact h.1
  ·split at h
   ·simp only[Bool.and_eq_true]at h
    exact nq h.2 x hx hb
   ·exact nq h x hx hb
theorem zx (l:List Oper):∀i:Nat,rD i l=true→∀j o,l[j]? =some o→∀e∈o.after,Region.binds .any e=true→e.on<i+j:=by
 induction l with
 |nil=>intro i _ j o ho;simp at ho
 |cons o r ih=>
  intro i h j o' ho e he hb
  simp only[rD,Bool.and_eq_true]at h
  cases j with
  |zero=>
   simp only[List.getElem?_cons_zero,Option.some.injEq]at ho
   rw[←ho]at he
   exact nq h.1 e (by simpa using he) hb
  |succ j=>
   have:=ih (i+1) h.2 j o' (by simpa using ho) e he hb
   omega
theorem xi {f:fC} {m:Nat}:∀{l:List fC} {i:Nat},DA f m i l=true→∀j g,l[j]? =some g→Dz g f=true→Nat.testBit m (i+j)=true
 |g::r,i,h,0,g',hg,hc=>by
  simp only[DA,Bool.and_eq_true]at h
  simp at hg
  subst hg
  simpa [hc]using h.1
 |g::r,i,h,j+1,g',hg,hc=>by
  simp only[DA,Bool.and_eq_true]at h
  have:=xi h.2 j g' (by simpa using hg) hc
  rw[show i+(j+1)=i+1+j from by omega]
  exact this
theorem ve {ms:List Nat}:∀{l done:List fC} {j0:Nat},done.length=j0→BC ms done j0 l=true→∀i j f g,i<j→j0≤j→(done++l)[i]? =some f→(done++l)[j]? =some g→Dz f g=true→Nat.testBit (ms.getD j 0) i=true
 |[],done,j0,hd,_,i,j,f,g,_,hj,_,hg,_=>by
  rw[List.append_nil,List.getElem?_eq_none aa]at hg
  cases hg
 |x::l,done,j0,hd,h,i,j,f,g,Ki,hj,hf,hg,hc=>by
  simp only[BC,Bool.and_eq_true]at h
  rcases Nat.eq_or_lt_of_le hj with rfl|aI
  ·rw[List.getElem?_append_right aa]at hg
   simp[hd]at hg
   subst hg
   rw[List.getElem?_append_left aa]at hf
   have:=xi h.1 i f hf hc
   simpa using this
  ·exact ve (l:=l) (done:=done++[x]) (j0:=j0+1) (by simp[hd]) h.2 i j f g Ki aa (by simpa using hf) (by simpa using hg) hc
def jK (rc:Rec):ja Loc LV where
 rd:=fun
  |.t t=>decide (t∈rc.f.rt)
  |.k k=>decide (k∈rc.f.rk)
 wr:=fun
  |.t t=>decide (rc.o.dst=some t)
  |.k k=>(find rc.ks k).isSome
 val:=fun
  |.t _=>.t (some rc.c)
  |.k k=>.k (find rc.ks k)
theorem xj (rc:Rec) (s:Loc→LV):(jK rc).ap s=lay rc.o.dst rc.c rc.ks s:=by
 funext l
 cases l with
 |t n=>simp only[ja.ap,jK,lay];by_cases h:rc.o.dst=some n<;>simp[h]
 |k n=>
  have key:∀(x:Option aA) (y:LV),(if x.isSome=true then LV.k x else y)=match x with
    |some b=>LV.k (some b)
    |none=>y:=fun x y=>by cases x<;>rfl
  exact key (find rc.ks n) (s (.k n))
def jh (recs:List Rec) (j:Nat):ja Loc LV:=
 match recs[j]? with
 |some r=>jK r
 |none=>⟨fun _=>false,fun _=>false,fun _=>.t none⟩
theorem jL {recs:List Rec} {j:Nat} {r:Rec} (h:recs[j]? =some r):jh recs j=jK r:=by simp[jh,h]
theorem BD {L V:Type} (steps:Nat→ja L V) (s0:L→V) (n:Nat):sx steps s0 (fun _=>true) (n+1)=(steps n).ap (sx steps s0 (fun _=>true) n):=by simp[sx]
theorem DB {E:Env} {ops:Array Oper}:∀{l:List Oper} {fr:List (Nat×SV)} {hp:List (Nat×aA)} {recs:List Rec} {fr':List (Nat×SV)} {bW:List (Nat×aA)},Jb E ops l fr hp recs fr' bW→
  recs.length=l.length∧(∀i rc,recs[i]? =some rc→l[i]? =some rc.o∧xd E ops rc.o rc.fr rc.hp rc.f rc.c rc.ks∧fn rc.fr rc.hp=sx (jh recs) (fn fr hp) (fun _=>true) i)∧
  fn fr' bW=sx (jh recs) (fn fr hp) (fun _=>true) l.length
 |[],fr,hp,recs,fr',bW,h=>by
  obtain⟨rfl,rfl,rfl⟩:=h
  exact⟨rfl,fun i rc h=>by simp at h,rfl⟩
 |o::l,fr,hp,recs,fr',bW,h=>by
  obtain⟨rc,rest,rfl,rfl,rfl,rfl,hs,h2⟩:=h
  obtain⟨g1,g2,g3⟩:=DB h2
  have shift:∀n,sx (jh (rc::rest)) (fn rc.fr rc.hp) (fun _=>true) (n+1)=
    sx (jh rest) (fn (Du rc.o.dst rc.c rc.fr) (xc rc.ks rc.hp)) (fun _=>true) n:=by
   intro n
   induction n with
   |zero=>rw[BD,jL (r:=rc) (by simp),xj];exact FM ..
   |succ n ih=>rw[BD,ih,BD];simp[jh]
  refine⟨by simp[g1],fun i rc' hi=> ?_, ?_⟩
  ·cases i with
   |zero=>simp at hi;subst hi;exact⟨by simp,hs,rfl⟩
   |succ i=>
    obtain⟨e1,e2,e3⟩:=g2 i rc' (by simpa using hi)
    exact⟨by simpa using e1,e2,by rw[shift];exact e3⟩
  ·rw[List.length_cons,shift];exact g3
theorem KQ {E:Env} (hm:E.P.follows .mixedOrders=true) {l:List Oper} {Q:Exit→Act→World→Prop} {fr:List (Nat×SV)} {hp:List (Nat×aA)} {recs:List Rec} {fr':List (Nat×SV)} {bW:List (Nat×aA)}
  (h:Jb E l.toArray l fr hp recs fr' bW) (hi:indep l (recs.map (·.f))=true) (hQ:∀a w,RR E (fn fr' bW) a w→Q .normal a w) (id:Nat) (a:Act) (w:World) (hR:RR E (fn fr hp) a w):
  (Code.region id l.toArray true).wpIn (Kc E.ro) 0 E.P Q a w:=by
 obtain⟨g1,g2,g3⟩:=DB h
 simp only[indep,Bool.and_eq_true]at hi
 have oi:∀i,i<l.length→∃rc,recs[i]? =some rc:=fun i hi=>⟨recs[i],by simp[g1,hi]⟩
 refine IZ (Rel:=RR E) (steps:=jh recs) (s0:=fn fr hp) hm ?_ ?_ ?_ ?_ a w ?_
 ·intro i hi s' hs' a w hR
  obtain⟨rc,hrc⟩:=oi i (by simpa using hi)
  obtain⟨e1,⟨e2,e3,e4⟩,e5⟩:=g2 i rc hrc
  rw[jL hrc]at hs' ⊢
  rw[←e5]at hs'
  have:=e4 s' (fun t ht=>hs' _ (.inl (by simpa [jK]using ht))) (fun k hk=>hs' _ (by
   rcases hk with hk|hk
   ·exact .inl (by simpa [jK]using hk)
   ·right
    obtain⟨b,hb⟩:=(e3 k).1 hk
    simp only[jK]
    cases hf:find rc.ks k with
    |some b'=>rfl
    |none=>exact absurd hb (po hf b))) a w hR
  unfold wpOpIn
  have ho:l.toArray[i]? =some rc.o:=by simpa using e1
  rw[ho]
  simp only[xj]
  split
  ·rename_i hw
   rw[if_pos hw]at this
   exact zK this
  ·rename_i hw
   rw[if_neg hw]at this
   exact⟨fun _ _=>trivial,this⟩
 ·intro i j Ki hj hc
  have oc:j<l.length:=by simpa using hj
  obtain⟨ri,hri⟩:=oi i aa
  obtain⟨rj,hrj⟩:=oi j oc
  obtain⟨_,⟨i2,i3,_⟩,_⟩:=g2 i ri hri
  obtain⟨_,⟨j2,j3,_⟩,_⟩:=g2 j rj hrj
  rw[jL hri,jL hrj]at hc
  have wki:∀k,(find ri.ks k).isSome=true→k∈ri.f.wk:=fun k hk=>by
   cases hf:find ri.ks k with
   |none=>rw[hf]at hk;cases hk
   |some b=>exact(i3 k).2 ⟨b,jc hf⟩
  have wkj:∀k,(find rj.ks k).isSome=true→k∈rj.f.wk:=fun k hk=>by
   cases hf:find rj.ks k with
   |none=>rw[hf]at hk;cases hk
   |some b=>exact(j3 k).2 ⟨b,jc hf⟩
  have zJ:Dz ri.f rj.f=true:=by
   obtain⟨loc,hc⟩:=hc
   simp only[Dz,Bool.or_eq_true,Ab]
   cases loc with
   |t n=>
    simp only[jK,decide_eq_true_eq]at hc
    rcases hc with⟨h1,h2|h2⟩|⟨h1,h2⟩
    ·exact .inl ⟨n,by rw[i2,h1];simp[SE],h2⟩
    ·exact .inr (.inl ⟨n,by rw[i2,h1];simp[SE],by rw[j2,h2];simp[SE]⟩)
    ·exact .inr (.inr (.inl ⟨n,by rw[j2,h2];simp[SE],h1⟩))
   |k n=>
    simp only[jK,decide_eq_true_eq]at hc
    rcases hc with⟨h1,h2|h2⟩|⟨h1,h2⟩
    ·exact .inr (.inr (.inr (.inl ⟨n,wki n h1,h2⟩)))
    ·exact .inr (.inr (.inr (.inr (.inl ⟨n,wki n h1,wkj n h2⟩))))
    ·exact .inr (.inr (.inr (.inr (.inr ⟨n,wkj n h2,h1⟩))))
  have VK:=ve (l:=recs.map (·.f)) (done:=[]) (j0:=0) rfl hi.2 i j ri.f rj.f Ki (Nat.zero_le _) (by simp[hri]) (by simp[hrj]) zJ
  cases hmj:(Aa l [])[j]? with
  |none=>simp[hmj]at VK
  |some m=>
   have:(Aa l []).getD j 0=m:=by simp[hmj]
   rw[this]at VK
   exact vd l [] (by simp) (by simp) j m i hmj VK
 ·intro i o ho e he hb
  have:=zx l 0 hi.1 i o (by simpa using ho) e he hb
  omega
 ·intro a w hR
  rw[List.size_toArray,←g3]at hR
  exact hQ a w hR
 ·obtain⟨ρ,h1,h3,h2⟩:=hR
  exact⟨ρ,h1,h3,{h2 with bw:=⟨h2.bw.os,h2.bw.tape,h2.bw.output,h2.bw.size,h2.bw.block⟩,hp:=⟨h2.hp.blk,h2.hp.sep,h2.hp.own,h2.hp.ud,h2.hp.aT,h2.hp.ep⟩}⟩
end Go.Sx
namespace Go.Sx
abbrev bK:=Exit→List (Nat×SV)→List (Nat×aA)→Prop
def Ac (E:Env) (K:bK):Exit→Act→World→Prop:=fun e a w=>∃fr hp,K e fr hp∧RR E (fn fr hp) a w
def SW (E:Env) (c:Code) (K:bK) (fr:List (Nat×SV)) (hp:List (Nat×aA)):Prop:=
 ∀a w,RR E (fn fr hp) a w→c.wpIn (Kc E.ro) 0 E.P (Ac E K) a w
theorem SW.mono {E:Env} {c:Code} {K K':bK} {fr:List (Nat×SV)} {hp:List (Nat×aA)} (h:SW E c K fr hp) (hk:∀e fr hp,K e fr hp→K' e fr hp):SW E c K' fr hp:=
 fun a w hR=>Code.wpIn_mono (fun _ _ _ ⟨fr,hp,h1,h2⟩=>⟨fr,hp,hk _ _ _ h1,h2⟩) (h a w hR)
structure dG (E:Env) (c:Code) (K:bK) (fr:List (Nat×SV)) (hp:List (Nat×aA)):Prop where
 run:SW E c K fr hp
def oj (E:Env):Code→bK→List (Nat×SV)→List (Nat×aA)→Prop
 |.skip,K,fr,hp=>K .normal fr hp
 |.region id ops draw,K,fr,hp=>match inN (100000+id) E.Z with
  |true=>dG E (.region id ops draw) K fr hp
  |false=>lex E ops.toList ops.toList fr hp [] fun fr' bW fs=>match draw with
   |true=>indep ops.toList fs.reverse=true∧K .normal fr' bW
   |false=>K .normal fr' bW
 |.seq a b,K,fr,hp=>oj E a (fun e fr' bW=>match e with
  |.normal=>oj E b K fr' bW
  |e=>K e fr' bW) fr hp
 |.cond c a b,K,fr,hp=>match ev fr c with
  |some (.val (.bool t))=>(t=true→oj E a K fr hp)∧(t=false→oj E b K fr hp)
  |_=>False
 |.block id c,K,fr,hp=>oj E c (fun e fr' bW=>match e with
  |.exit i=>match Nat.beq i id with
   |true=>K .normal fr' bW
   |false=>K (.exit i) fr' bW
  |e=>K e fr' bW) fr hp
 |.exit id,K,fr,hp=>K (.exit id) fr hp
 |.ret,K,fr,hp=>K .ret fr hp
 |.scope c,K,fr,hp=>oj E c (fun e fr' bW=>match e with
  |.goto _=>False
  |e=>K e fr' bW) fr hp
 |.label _,K,fr,hp=>K .normal fr hp
 |c,K,fr,hp=>dG E c K fr hp
def VL (K:bK) (fr:List (Nat×SV)) (hp:List (Nat×aA)):Prop:=K .normal fr hp
def Hk (E:Env) (ops:Array Oper) (draw:Bool) (K:bK) (fr:List (Nat×SV)) (hp:List (Nat×aA)):Prop:=lex E ops.toList ops.toList fr hp [] fun fr' bW fs=>match draw with
  |true=>indep ops.toList fs.reverse=true∧K .normal fr' bW
  |false=>K .normal fr' bW
def KT (E:Env) (id:Nat) (ops:Array Oper) (draw:Bool) (K:bK) (fr:List (Nat×SV)) (hp:List (Nat×aA)):Prop:=match inN (100000+id) E.Z with
 |true=>dG E (.region id ops draw) K fr hp
 |false=>Hk E ops draw K fr hp
def KU (_ _:Code) (iha ihb:bK→List (Nat×SV)→List (Nat×aA)→Prop) (K:bK) (fr:List (Nat×SV)) (hp:List (Nat×aA)):Prop:=iha (fun e fr' bW=>match e with
  |.normal=>ihb K fr' bW
  |e=>K e fr' bW) fr hp
def FO (c:Operand) (_ _:Code) (iha ihb:bK→List (Nat×SV)→List (Nat×aA)→Prop) (K:bK) (fr:List (Nat×SV)) (hp:List (Nat×aA)):Prop:=match ev fr c with
  |some (.val (.bool t))=>(t=true→iha K fr hp)∧(t=false→ihb K fr hp)
  |_=>False
def BE (id:Nat) (_:Code) (ih:bK→List (Nat×SV)→List (Nat×aA)→Prop) (K:bK) (fr:List (Nat×SV)) (hp:List (Nat×aA)):Prop:=ih (fun e fr' bW=>match e with
  |.exit i=>match Nat.beq i id with
   |true=>K .normal fr' bW
   |false=>K (.exit i) fr' bW
  |e=>K e fr' bW) fr hp
def VM (E:Env) (c:Code) (_:bK→List (Nat×SV)→List (Nat×aA)→Prop) (K:bK) (fr:List (Nat×SV)) (hp:List (Nat×aA)):Prop:=dG E (.loop c) K fr hp
def PH (E:Env) (f:Operand) (ps:Array Tmp) (a b:Code) (_ _:bK→List (Nat×SV)→List (Nat×aA)→Prop) (K:bK) (fr:List (Nat×SV)) (hp:List (Nat×aA)):Prop:=dG E (.rangeFunc f ps a b) K fr hp
def VN (id:Nat) (K:bK) (fr:List (Nat×SV)) (hp:List (Nat×aA)):Prop:=K (.exit id) fr hp
def BF (_:Code) (ih:bK→List (Nat×SV)→List (Nat×aA)→Prop) (K:bK) (fr:List (Nat×SV)) (hp:List (Nat×aA)):Prop:=ih (fun e fr' bW=>match e with
  |.goto _=>False
  |e=>K e fr' bW) fr hp
def PI (_:Nat) (K:bK) (fr:List (Nat×SV)) (hp:List (Nat×aA)):Prop:=K .normal fr hp
def VO (E:Env) (l:Nat) (K:bK) (fr:List (Nat×SV)) (hp:List (Nat×aA)):Prop:=dG E (.goto l) K fr hp
def ac8 (K:bK) (fr:List (Nat×SV)) (hp:List (Nat×aA)):Prop:=K .ret fr hp
def KV (E:Env) (l:String) (K:bK) (fr:List (Nat×SV)) (hp:List (Nat×aA)):Prop:=dG E (.refuse l) K fr hp
def BG (E:Env) (c:Code):bK→List (Nat×SV)→List (Nat×aA)→Prop:=
 Code.rec (motive:=fun _=>bK→List (Nat×SV)→List (Nat×aA)→Prop) VL (KT E) KU FO BE (VM E) (PH E) VN BF PI (VO E) ac8 (KV E) c
theorem VP (E:Env) (c:Code):BG E c=oj E c:=by
 induction c with
 |seq a b iha ihb=>
  funext K fr hp
  show KU a b (BG E a) (BG E b) K fr hp=_
  rw[iha,ihb]
  simp only[oj,KU]
 |cond c a b iha ihb=>
  funext K fr hp
  show FO c a b (BG E a) (BG E b) K fr hp=_
  rw[iha,ihb]
  simp only[oj,FO]
 |block id c ih=>
  funext K fr hp
  show BE id c (BG E c) K fr hp=_
  rw[ih]
  simp only[oj,BE]
 |scope c ih=>
  funext K fr hp
  show BF c (BG E c) K fr hp=_
  rw[ih]
  simp only[oj,BF]
 |_=>funext K fr hp;simp only[oj];rfl
structure Env.OK (E:Env):Prop where
 Fy:db E.P E.T
 mixed:E.P.follows .mixedOrders=true
 ud:∀k x,E.ρ0.key k=some x→k∈E.fx
theorem rF {E:Env} (hE:E.OK) {id:Nat} {ops:Array Oper} {draw:Bool} {K:bK} {fr:List (Nat×SV)} {hp:List (Nat×aA)} (h:Hk E ops draw K fr hp):SW E (.region id ops draw) K fr hp:=by
 intro a w hR
 simp only[Hk]at h
 obtain⟨recs,fr',bW,h1,h2⟩:=Dy hE.Fy _ _ _ _ h
 have ig:K .normal fr' bW→∀a w,RR E (fn fr' bW) a w→Ac E K .normal a w:=fun h3 a w hR=>⟨fr',bW,h3,hR⟩
 cases draw with
 |false=>
  have ig:=ig h2
  have:=z8 _ _ _ _ _ _ h1 ig a w hR
  exact wpIn_region_list (by simpa using this)
 |true=>
  have hi:=h2.1
  have ig:=ig h2.2
  simp only[List.append_nil,List.reverse_reverse]at hi
  have:=KQ hE.mixed h1 hi ig id a w hR
  simpa using this
theorem kG {E:Env} (hE:E.OK) {id:Nat} {ops:Array Oper} {draw:Bool} {K:bK} {fr:List (Nat×SV)} {hp:List (Nat×aA)} (h:Hk E ops draw K fr hp):dG E (.region id ops draw) K fr hp:=⟨rF hE h⟩
theorem gu {P:Program} {b:Frame} {a:Act} {k:List Item} {cs:List Frame} {w:World} {c:Code}:step P (lone (b.atR a (.code (.scope c)::k)) cs w)= .next (lone (b.atR a (.code c:: .inScope c::k)) cs w):=
 step_lone_go (by simp[stepG,stepG.exec,Frame.atR])
theorem zy {P:Program} {b:Frame} {a:Act} {k:List Item} {cs:List Frame} {w:World} {c:Code}:step P (lone (b.atR a (.inScope c::k)) cs w)= .next (lone (b.atR a k) cs w):=
 step_lone_go (by simp[stepG,stepG.exec,Frame.atR])
theorem p5 {F:Fence} {n:Nat} {P:Program} {Q:Exit→Act→World→Prop} {a:Act} {w:World} {c:Code} (h:c.wpIn F n P (Exit.noGoto Q) a w):(Code.scope c).wpIn F n P Q a w:=by
 intro b k cs hro hb hr
 obtain⟨e,a₁,w₁,hq,iB⟩:=h b (.inScope c::k) cs hro hb hr
 have h0:(lone (b.atR a (.code (.scope c)::k)) cs w).fenced P F:=fenced_calm hb hr rfl
 cases e with
 |normal=>exact⟨.normal,a₁,w₁,hq,.head h0 gu (StepsIn.trans iB (.one (fenced_calm hb hr rfl) zy))⟩
 |exit id=>
  have hx:exitTo id (.inScope c::k)=exitTo id k:=by simp[exitTo]
  exact⟨.exit id,a₁,w₁,hq,fun k' hk=>.head h0 gu (iB.1 k' (by rw[hx];exact hk)),fun hr' hk=>let ⟨k₁,h1,h2⟩:=iB.2 hr' (by rw[hx];exact hk);⟨k₁,h1,.head h0 gu h2⟩⟩
 |goto l=>exact hq.elim
 |ret=>exact⟨_,a₁,w₁,hq,.of_steps (.one h0 gu) iB⟩
 |panic ch=>exact⟨_,a₁,w₁,hq,.of_steps (.one h0 gu) iB⟩
 |outgrown=>exact⟨_,a₁,w₁,hq,.of_steps (.one h0 gu) iB⟩
theorem gg {E:Env} (hE:E.OK):∀(c:Code) (K:bK) (fr:List (Nat×SV)) (hp:List (Nat×aA)),oj E c K fr hp→SW E c K fr hp
 |.skip,K,fr,hp,h=>fun a w hR=>wpIn_skip ⟨fr,hp,h,hR⟩
 |.region id ops draw,K,fr,hp,h=>by
  simp only[oj]at h
  split at h
  ·exact h.run
  ·exact rF hE h
 |.seq x y,K,fr,hp,h=>by
  intro a w hR
  simp only[oj]at h
  refine wpIn_seq (Code.wpIn_mono ?_ (gg hE x _ fr hp h a w hR))
  rintro e a' w' ⟨fr',bW,h1,h2⟩
  cases e<;>first|exact gg hE y K fr' bW h1 a' w' h2|exact⟨fr',bW,h1,h2⟩
 |.cond c x y,K,fr,hp,h=>by
  intro a w hR
  simp only[oj]at h
  split at h
  ·rename_i t ht
   have hv:a.eval c= .bool t:=by
    obtain⟨ρ,_,_,hR⟩:=hR
    have:Has ρ (.val (.bool t)) (a.eval c):=by
     cases c with
     |tmp u=>exact hR.fr u _ (by simp only[fn,LV.sv];exact ht)
     |const v=>exact ak (fr:=[]) (by simpa [ev]using ht) ρ a (fun _ _ h=>by cases h)
     |func f=>simp[ev]at ht
     |global g=>simp[ev]at ht
    exact aJ this
   refine wpIn_cond_split hv (fun hb=>gg hE x K fr hp (h.1 hb) a w hR) (fun hb=>gg hE y K fr hp (h.2 hb) a w hR)
  ·exact h.elim
 |.block id c,K,fr,hp,h=>by
  intro a w hR
  simp only[oj]at h
  refine wpIn_block (Code.wpIn_mono ?_ (gg hE c _ fr hp h a w hR))
  rintro e a' w' ⟨fr',bW,h1,h2⟩
  cases e with
  |exit i=>
   simp only[Exit.inBlock]
   simp only at h1
   split at h1
   ·rename_i hb
    rw[if_pos (Nat.eq_of_beq_eq_true hb)]
    exact⟨fr',bW,h1,h2⟩
   ·rename_i hb
    rw[if_neg (by rintro rfl;simp[Nat.beq_refl]at hb)]
    exact⟨fr',bW,h1,h2⟩
  |_=>exact⟨fr',bW,h1,h2⟩
 |.exit id,K,fr,hp,h=>fun a w hR=>wpIn_exit ⟨fr,hp,h,hR⟩
 |.ret,K,fr,hp,h=>fun a w hR=>wpIn_ret ⟨fr,hp,h,hR⟩
 |.loop c,K,fr,hp,h=>h.run
 |.rangeFunc _ _ _ _,K,fr,hp,h=>h.run
 |.scope c,K,fr,hp,h=>by
  intro a w hR
  simp only[oj]at h
  refine p5 (Code.wpIn_mono ?_ (gg hE c _ fr hp h a w hR))
  rintro e a' w' ⟨fr',bW,h1,h2⟩
  cases e<;>first|exact h1.elim|exact⟨fr',bW,h1,h2⟩
 |.label _,K,fr,hp,h=>fun a w hR=>wpIn_label ⟨fr,hp,h,hR⟩
 |.goto _,K,fr,hp,h=>h.run
 |.refuse _,K,fr,hp,h=>h.run
theorem iC {E:Env} (hE:E.OK) (c:Code) (K:bK) (fr:List (Nat×SV)) (hp:List (Nat×aA)) (h:BG E c K fr hp):SW E c K fr hp:=
 gg hE c K fr hp (by rw[VP]at h;exact h)
theorem BH {E:Env} {c:Code} {K:bK} {fr:List (Nat×SV)} {hp:List (Nat×aA)} (I:Nat→List (Nat×SV)→List (Nat×aA)→Prop) (m:Nat) (h0:I m fr hp)
  (h:∀m fr hp,I m fr hp→SW E c (fun e fr' bW=>match e with
   |.normal=>∃m',m'<m∧I m' fr' bW
   |e=>K e fr' bW) fr hp):SW E (.loop c) K fr hp:=by
 intro a w hR b k cs hro hb hr
 have key:∀m fr hp a w,I m fr hp→RR E (fn fr hp) a w→
   ∃e a' w',Ac E K e a' w'∧ArrivesIn (Machine.fenced E.P (Kc E.ro)) E.P (lone (b.atR a (.code c:: .inLoop c::k)) cs w) b k cs e a' w':=by
  intro m
  induction m using Nat.strongRecOn with
  |_ m ih=>
   intro fr hp a w hI hR
   obtain⟨e,a₁,w₁,⟨fr',bW,hq,kC⟩,iB⟩:=h m fr hp hI a w hR b (.inLoop c::k) cs hro hb hr
   cases e with
   |normal=>
    obtain⟨m',aI,Hl⟩:=hq
    obtain⟨e₂,a₂,w₂,hq₂,harr₂⟩:=ih m' aI fr' bW a₁ w₁ Hl kC
    exact⟨e₂,a₂,w₂,hq₂,.of_steps (StepsIn.trans iB (.one (fenced_calm hb hr rfl) stepR_inLoop)) harr₂⟩
   |exit id=>exact⟨_,a₁,w₁,⟨fr',bW,hq,kC⟩,.pass (x:=.inLoop c) rfl (fun _ _=>.inl (by simp)) iB⟩
   |goto l=>exact⟨_,a₁,w₁,⟨fr',bW,hq,kC⟩,.pass (x:=.inLoop c) rfl (fun _ _=>.inl (by simp)) iB⟩
   |ret=>exact⟨_,a₁,w₁,⟨fr',bW,hq,kC⟩,.pass (x:=.inLoop c) rfl (fun _ _=>.inl (by simp)) iB⟩
   |panic ch=>exact⟨_,a₁,w₁,⟨fr',bW,hq,kC⟩,.pass (x:=.inLoop c) rfl (fun _ _=>.inl (by simp)) iB⟩
   |outgrown=>exact⟨_,a₁,w₁,⟨fr',bW,hq,kC⟩,.pass (x:=.inLoop c) rfl (fun _ _=>.inl (by simp)) iB⟩
 obtain⟨e,a',w',hq,iB⟩:=key m fr hp a w h0 hR
 exact⟨e,a',w',hq,.of_steps (.one (fenced_calm hb hr rfl) stepR_loop) iB⟩
def BI (T:List (TypeId×TI)) (fr:List (Nat×SV)) (hp:List (Nat×aA)):ResultVar→Option (Option Prop×SV)
 |.tmp t=>match lk fr t with
  |some c=>match bp c with
   |true=>some (none,c)
   |false=>none
  |none=>none
 |.cell a ty=>match lk fr a,df T ty with
  |some (.ptr key s i r),some ti=>match find hp key with
   |some blk=>match elem blk.data s i with
    |some (ob,cs)=>match sub 64 cs r ti.size,ti.size with
     |some l,_+1=>match dN ti l with
      |some c=>match bp c with
       |true=>some (ob,c)
       |false=>none
      |none=>none
     |_,_=>none
    |none=>none
   |none=>none
  |_,_=>none
def both:Option Prop→Option Prop→Option Prop
 |none,q=>q
 |p,none=>p
 |some p,some q=>some (p∧q)
theorem Ad {p q:Option Prop} (h:Bm (both p q)):Bm p∧Bm q:=by
 cases p<;>cases q<;>first|exact⟨trivial,h⟩|exact⟨h,trivial⟩|exact h
def kH (T:List (TypeId×TI)) (fr:List (Nat×SV)) (hp:List (Nat×aA)):List ResultVar→Option (Option Prop×List SV)
 |[]=>some (none,[])
 |r::rs=>match BI T fr hp r,kH T fr hp rs with
  |some (ob,c),some (ob',l)=>some (both ob ob',c::l)
  |_,_=>none
def qb:List SV→SV
 |[c]=>c
 |l=>.cC l
def Kj (T:List (TypeId×TI)) (rs:List ResultVar) (K:SV→List (Nat×aA)→Prop):bK:=fun e fr hp=>match e with
 |.normal=>match kH T fr hp rs with
  |some (ob,l)=>Vq ob (K (qb l) hp)
  |none=>False
 |.ret=>match kH T fr hp rs with
  |some (ob,l)=>Vq ob (K (qb l) hp)
  |none=>False
 |_=>False
def BJ (tmps:Array Value):ResultVar→Sem Value
 |.tmp t=>pure (tmps.getD t undef)
 |.cell p t=>do loadVar t (←asAddr (tmps.getD p undef))
theorem FP {E:Env} (hE:E.OK) {fr:List (Nat×SV)} {hp:List (Nat×aA)} {r:ResultVar} {ob:Option Prop} {c:SV} (h:BI E.T fr hp r=some (ob,c)) (jG:Bm ob) {ρ:bI} {a:Act} {w:World} (hR:R E.W0 E.w0 E.n ρ (fn fr hp) a w):
  ∃v,(BJ a.tmps r).run E.P w= .ok v w∧Has ρ c v∧bp c=true:=by
 cases r with
 |tmp t=>
  simp only[BI]at h
  split at h
  ·rename_i d hd
   split at h
   ·rename_i bW
    simp only[Option.some.injEq,Prod.mk.injEq]at h
    obtain⟨rfl,rfl⟩:=h
    exact⟨_,rfl,hR.fr t d (by simp only[fn,LV.sv];exact hd),bW⟩
   ·simp at h
  ·simp at h
 |cell p ty=>
  simp only[BI]at h
  split at h
  ·rename_i key s i r ti hx rv
   split at h
   ·rename_i blk eC
    split at h
    ·rename_i ob' cs he
     split at h
     ·rename_i l _ hs fG
      split at h
      ·rename_i d hd
       split at h
       ·rename_i bW
        simp only[Option.some.injEq,Prod.mk.injEq]at h
        obtain⟨rfl,rfl⟩:=h
        have hv:=hR.fr p _ (by simp only[fn,LV.sv];exact hx)
        simp only[Has,aG]at hv
        obtain⟨_,⟨b,n,bJ,rfl⟩,bF⟩:=hv
        simp only[ct,SV.aU,if_true,List.headD_cons]at bF
        obtain⟨v,h1,h2⟩:=He (hE.Fy.get rv) bJ (hR.hp.blk _ _ (by simp only[fn,LV.blk];exact eC)) he jG hs aa hd
        exact⟨v,by simp only[BJ,bF,asAddr,Sem.run_bind,Sem.run_pure,Result.andThen_ok,h1],h2,bW⟩
       ·simp at h
      ·simp at h
     ·simp at h
    ·simp at h
   ·simp at h
  ·simp at h
theorem xk {E:Env} (hE:E.OK) {fr:List (Nat×SV)} {hp:List (Nat×aA)} {ρ:bI} {a:Act} {w:World} (hR:R E.W0 E.w0 E.n ρ (fn fr hp) a w):∀(rs:List ResultVar) (ob:Option Prop) (l:List SV),kH E.T fr hp rs=some (ob,l)→Bm ob→
  ∃vs:List Value,(rs.mapM (BJ a.tmps)).run E.P w= .ok vs w∧
   (∃z,au ρ l z∧vs=List.zipWith ct l z)∧(∀c∈l,bp c=true)∧l.length=rs.length
 |[],ob,l,h,_=>by
  simp only[kH,Option.some.injEq,Prod.mk.injEq]at h
  obtain⟨_,rfl⟩:=h
  exact⟨[],rfl,⟨[],by simp[au],rfl⟩,by simp,rfl⟩
 |r::rs,ob,l,h,jG=>by
  unfold kH at h
  split at h
  ·rename_i ob1 c ob2 l' h1 h2
   simp only[Option.some.injEq,Prod.mk.injEq]at h
   obtain⟨rfl,rfl⟩:=h
   obtain⟨v,e1,e2,e3⟩:=FP hE h1 (Ad jG).1 hR
   obtain⟨vs,f1,⟨z,f2,rfl⟩,f3,f4⟩:=xk hE hR rs ob2 l' h2 (Ad jG).2
   obtain⟨x,g1,rfl⟩:=Df e3 e2
   refine⟨ct c x::List.zipWith ct l' z, ?_,⟨x::z,by simp only[au];exact⟨x,z,rfl,g1,f2⟩,rfl⟩, ?_,by simp[f4]⟩
   ·rw[List.mapM_cons,Sem.run_bind,e1]
    simp only[Result.andThen_ok,Sem.run_bind,f1,Sem.run_pure]
   ·intro d hd
    rcases List.mem_cons.1 hd with rfl|hd
    ·exact e3
    ·exact f3 d hd
  ·simp at h
theorem lW {E:Env} (hE:E.OK) {fn':Func} {fr:List (Nat×SV)} {hp:List (Nat×aA)} {ρ:bI} {a:Act} {w:World} (hR:R E.W0 E.w0 E.n ρ (fn fr hp) a w) {ob:Option Prop} {l:List SV}
  (h:kH E.T fr hp fn'.results.toList=some (ob,l)) (jG:Bm ob):∃v,(results fn' a.tmps).run E.P w= .ok v w∧Has ρ (qb l) v:=by
 obtain⟨vs,h1,⟨z,h2,rfl⟩,h3,h4⟩:=xk hE hR _ ob l h jG
 have hz:l.length=z.length:=by
  clear h h1 h3 h4
  induction l generalizing z with
  |nil=>simp only[au]at h2;subst h2;rfl
  |cons c l ih=>simp only[au]at h2;obtain⟨x,r,rfl,_,h⟩:=h2;simp[ih r h]
 refine⟨if l.length=1 then(List.zipWith ct l z).headD undef else .tuple (List.zipWith ct l z).toArray, ?_, ?_⟩
 ·have VQ:results fn' a.tmps=(do
    let vs ←fn'.results.mapM (BJ a.tmps)
    pure (if h:vs.size=1 then vs[0]else .tuple vs)):=by
   unfold results
   congr 1
  rw[VQ,Array.mapM_eq_mapM_toList,Sem.run_bind,Sem.run_map,h1]
  simp only[Result.andThen_ok,Sem.run_pure,List.size_toArray,List.length_zipWith,hz,Nat.min_self]
  congr 1
  by_cases hl:z.length=1
  ·rw[dif_pos hl,if_pos hl]
   obtain⟨c,rfl⟩:=List.length_eq_one_iff.1 (hz.trans hl)
   obtain⟨x,rfl⟩:=List.length_eq_one_iff.1 hl
   rfl
  ·rw[dif_neg hl,if_neg hl]
 ·have hp:=h3
  match l,z,h2,hz with
  |[c],z,h2,hz=>
   simp only[au]at h2
   obtain⟨x,r,rfl,g1,rfl⟩:=h2
   have:=h3 c (by simp)
   simp only[qb,List.length_singleton,if_true]
   have:Has ρ c (ct c x):=by
    cases c<;>simp[bp]at this<;>simp only[Has]<;>exact⟨x,g1,rfl⟩
   simpa using this
  |[],z,h2,hz=>simp only[qb,Has];exact⟨z,h2,by simp⟩
  |c::d::l,z,h2,hz=>simp only[qb,Has];exact⟨z,h2,by simp⟩
def enum:Nat→List SV→List (Nat×SV)
 |_,[]=>[]
 |i,c::l=>(i,c)::enum (i+1) l
theorem rG:∀(l:List SV) (i t:Nat) (c:SV),lk (enum i l) t=some c→i≤t∧l[t - i]? =some c
 |d::l,i,t,c,h=>by
  unfold enum lk at h
  split at h
  ·rename_i hb
   have:=Nat.eq_of_beq_eq_true hb
   subst this
   cases h
   simp
  ·rename_i hb
   obtain⟨h1,h2⟩:=rG l (i+1) t c h
   refine⟨aa, ?_⟩
   rw[show t - i=(t - (i+1))+1 from by omega]
   simpa using h2
def aq (c d:SV):Prop:=∀ρ v,Has ρ c v→Has ρ d v
theorem aq.refl (c:SV):aq c c:=fun _ _ h=>h
def shut:List Nat→World→World
 |[],w=>w
 |D::Ds,w=>shut Ds (w.putObj D (.deferred none))
theorem Ae:∀(Ds:List Nat) (w:World),(shut Ds w).heap.size=w.heap.size
 |[],_=>rfl
 |D::Ds,w=>by rw[shut,Ae Ds,World.putObj_size]
theorem pw:∀(Ds:List Nat) (w:World) (b:Nat),b∉Ds→(shut Ds w).heap[b]? =w.heap[b]?
 |[],_,_,_=>rfl
 |D::Ds,w,b,h=>by
  simp only[List.mem_cons,not_or]at h
  rw[shut,pw Ds _ b h.2,World.putObj_heap_other h.1]
theorem Af:∀(Ds:List Nat) (w:World),(shut Ds w).os=w.os∧(shut Ds w).tape=w.tape∧(shut Ds w).output=w.output
 |[],_=>⟨rfl,rfl,rfl⟩
 |D::Ds,w=>Af Ds (w.putObj D (.deferred none))
theorem R.shut {W0:Nat→Prop} {w0:World} {n:Nat} {ρ:bI} {s:Loc→LV} {a:Act} {w:World} (h:R W0 w0 n ρ s a w) {Ds:List Nat}
  (hd:∀D∈Ds,w0.heap.size≤D∧w.heap[D]? =some (.deferred (some []))∧ρ.aT D=none):R W0 w0 n ρ s {a with defers:=[]} (Sx.shut Ds w):=by
 obtain⟨r1,r2,r3⟩:=Af Ds w
 refine {defers:=.nil,size:=h.size,fr:=h.fr,bw:= ?_,hp:= ?_}
 ·refine⟨r1.trans h.bw.os,r2.trans h.bw.tape,r3.trans h.bw.output,by rw[Ae];exact h.bw.size,fun b hb hw=> ?_⟩
  rw[pw,h.bw.block b hb hw]
  intro hm
  have:=(hd b hm).1
  omega
 ·refine {blk:=fun k b hb=> ?_,sep:=h.hp.sep,own:=h.hp.own,ud:=h.hp.ud,aT:=fun b o hb=> ?_,ep:=h.hp.ep}
  ·rcases h.hp.blk k b hb with h4|⟨b',t',vs,ex,h4,h5,h6⟩|h4
   ·exact .inl h4
   ·refine .inr (.inl ⟨b',t',vs,ex,h4, ?_,h6⟩)
    rw[pw _ _ _ (fun hm=>by rw[(hd b' hm).2.1]at h5;exact Data.jF (Option.some.inj h5).symm)]
    exact h5
   ·exact .inr (.inr h4)
  ·rw[pw _ _ _ (fun hm=>by rw[(hd b hm).2.2]at hb;cases hb)]
   exact h.hp.aT b o hb
theorem oM {P:Program} {fn':Func} {tmps:Array Value} {Q:Ending→World→Prop}:∀(Ds:List Nat) (w:World),Ds.Nodup→(∀D∈Ds,w.heap[D]? =some (.deferred (some [])))→
  (∃v,(results fn' tmps).run P (shut Ds w)= .ok v (shut Ds w)∧Q (.returned v) (shut Ds w))→LeavesInM Fence.wide 0 P fn' tmps Q (Ds.map mk1) .returning w
 |[],w,_,_,h=>by
  simp only[List.map_nil,LeavesInM,LeavesIn]
  exact h
 |D::Ds,w,hn,hd,h=>by
  rw[List.nodup_cons]at hn
  refine⟨by simp,.inl ⟨D,w.putObj D (.deferred none),rfl,run_takeDeferred (hd D (List.mem_cons_self ..)),oM Ds _ hn.2 (fun D' hD'=> ?_) h⟩⟩
  have a7:D'≠D:=by rintro rfl;exact hn.1 hD'
  rw[World.putObj_heap_other a7]
  exact hd D' (List.mem_cons_of_mem _ hD')
theorem jM {E:Env} {f:FuncId} {fn':Func} {code:Code} {args:Array Value} {w:World} {Q:Ending→World→Prop} {K:bK} (hro:E.ro=none) (hf:E.P.funcs[f]? =some fn') (hb:fn'.body=some code)
  (hK1:∀ch fr hp,¬K (.panic ch) fr hp) (hK2:∀fr hp,¬K .outgrown fr hp)
  (O9:code.wpIn (Kc E.ro) 0 E.P (Ac E K) {tmps:=args++Array.replicate (fn'.ntmps - args.size) undef,defers:=[]} w)
  (h:∀e a' w',a'.defers=[]→Ac E K e a' w'→bodyPost E.P fn' Q e a' w'):Calls E.P f args w Q:=by
 rw[hro]at O9
 refine callsIn_wide.1 (callsIn_of_wp_marks (n:=0) hf hb trivial (wpIn_mono (F:=Fence.wide) O9 ?_))
 rintro e a' w' ⟨fr,hp,hk,ρ,hx,hfx,hR⟩
 obtain⟨Ds,d1,d2,d3⟩:=hR.defers
 have:=h e {a' with defers:=[]} (shut Ds w') rfl ⟨fr,hp,hk,ρ,hx,hfx,hR.shut d3⟩
 cases e with
 |normal=>
  simp only[bodyPostM,d1]
  exact oM Ds w' d2 (fun D hD=>(d3 D hD).2.1) this.2
 |ret=>
  simp only[bodyPostM,d1]
  exact oM Ds w' d2 (fun D hD=>(d3 D hD).2.1) this.2
 |panic ch=>exact absurd hk (hK1 _ _ _)
 |outgrown=>exact absurd hk (hK2 _ _)
 |exit id=>exact this
 |goto l=>exact this
theorem ac9 {P:Program} {T:List (TypeId×TI)} {Z:List Nat} (hT:db P T) (hm:P.follows .mixedOrders=true) {f:FuncId} {fn':Func} {code:Code} (hf:P.funcs[f]? =some fn') (hb:fn'.body=some code)
  (hn:(fn'.name== "runtime.NumGoroutine")=false) {args:List SV} {c:SV} (ha:aV args=true) (hc:bA c=true) (hnt:Nat.ble args.length fn'.ntmps=true) (hpass:args.all bp=true)
  (h:∀W0 w0 ρ0,Env.OK ⟨P,T,W0,w0,fn'.ntmps,ρ0,[],Z,none⟩→BG ⟨P,T,W0,w0,fn'.ntmps,ρ0,[],Z,none⟩ code (Kj T fn'.results.toList fun sv _=>aq sv c) (enum 0 args) []):af P f args [] c [] []:=by
 have KW:=Nat.le_of_ble_eq_true hnt
 refine .inl ⟨⟨fn',hf,hn,by rw[hb];rfl⟩,fun ρ w z hz BK=> ?_⟩
 let ρ1:bI:=⟨fun _=>none,ρ.aT,ρ.b7⟩
 let E:Env:=⟨P,T,fun _=>False,w,fn'.ntmps,ρ1,[],Z,none⟩
 have hE:E.OK:=⟨hT,hm,fun k x hx=>by cases hx⟩
 have pq:z.length=args.length:=by
  clear h hnt KW hpass ha
  induction args generalizing z with
  |nil=>simp only[au]at hz;subst hz;rfl
  |cons c l ih=>simp only[au]at hz;obtain⟨x,r,rfl,_,h⟩:=hz;simp[ih r h]
 have Jc:=b5 (ρ:=ρ) (ρ':=ρ1) (fun b o hb=>hb) args z ha hz
 have oi:∀(l:List SV) (y:List (List Value)),au ρ1 l y→l.all bp=true→∀(j:Nat) (c:SV),l[j]? =some c→∃v,(List.zipWith ct l y)[j]? =some v∧Has ρ1 c v:=by
  intro l
  induction l with
  |nil=>intro y _ _ j c h;simp at h
  |cons d l ih=>
   intro y hy hp j c hj
   simp only[au]at hy
   obtain⟨x,r,rfl,g1,g2⟩:=hy
   simp only[List.all_cons,Bool.and_eq_true]at hp
   cases j with
   |zero=>
    simp at hj
    subst hj
    refine⟨ct d x,by simp, ?_⟩
    have Fz:=hp.1
    cases d<;>simp[bp]at Fz<;>simp only[Has]<;>exact⟨x,g1,rfl⟩
   |succ j=>simpa using ih r g2 hp.2 j c (by simpa using hj)
 have oe:((List.zipWith ct args z).toArray++Array.replicate (fn'.ntmps - (List.zipWith ct args z).toArray.size) undef).size=fn'.ntmps:=by
  simp[pq]
  omega
 have hR:R E.W0 E.w0 E.n ρ1 (fn (enum 0 args) []) {tmps:=(List.zipWith ct args z).toArray++Array.replicate (fn'.ntmps - (List.zipWith ct args z).toArray.size) undef,defers:=[]} w:={
  defers:=.nil
  size:=oe
  fr:=fun t sv ht=>by
   simp only[fn,LV.sv]at ht
   obtain⟨_,h2⟩:=rG args 0 t sv ht
   obtain⟨v,h3,h4⟩:=oi args z Jc hpass t sv (by simpa using h2)
   have aI:t<(List.zipWith ct args z).length:=(List.getElem?_eq_some_iff.1 h3).1
   have:((List.zipWith ct args z).toArray++Array.replicate (fn'.ntmps - (List.zipWith ct args z).toArray.size) undef).getD t undef=v:=by
    rw[Array.getD_eq_getD_getElem?,Array.getElem?_append_left (by simpa using aI)]
    simp[h3]
   rw[this];exact h4
  bw:=.refl _ _
  hp:={
   blk:=fun k b hb=>by simp[fn,find,LV.blk]at hb
   sep:=fun k k' x x' b b' hx=>by cases hx
   own:=fun k b x hb=>by simp[fn,find,LV.blk]at hb
   ud:=fun k x hx=>by cases hx
   aT:=BK.aT
   ep:=fun k b x hb=>by simp[fn,find,LV.blk]at hb}}
 have O9:=iC hE code _ _ _ (h E.W0 w ρ1 hE) _ w ⟨ρ1,⟨.refl _,fun b o hb=>.inl hb,(fun _ h=>by cases h)⟩,(fun _ h=>by cases h),hR⟩
 refine jM (E:=E) rfl hf hb (fun _ _ _ h=>h) (fun _ _ h=>h) O9 ?_
 rintro e a' w' hdf ⟨fr',bW,hK,ρ',hext,_,kC⟩
 have fin:∀ob l,kH T fr' bW fn'.results.toList=some (ob,l)→Bm ob→aq (qb l) c→a'.defers=[]∧∃v,(results fn' a'.tmps).run P w'= .ok v w'∧∃v' ρ'',Ending.returned v= .returned v'∧jb ρ w c [] [] v' ρ'' w':=by
  intro ob l h1 h2 h3
  obtain⟨v,r1,r2⟩:=lW hE kC h1 h2
  refine⟨hdf,v,r1,v,⟨ρ.key,ρ'.aT,ρ'.b7⟩,rfl,⟨⟨fun k x hx=>hx,fun b o hb=>hext.le.aT b o hb⟩, ?_,fun _ _=>rfl, ?_,(fun k b h=>by rcases h with h|h<;>cases h),(fun _ _ _ h=>by cases h),(fun k b x h=>by cases h),(fun k b k' b' x x' h=>by cases h), ?_⟩⟩
  ·exact nc (ρ:=ρ') (ρ':=⟨ρ.key,ρ'.aT,ρ'.b7⟩) (fun b o hb=>hb) c v hc (h3 ρ' v r2)
  ·exact kC.bw.mono (fun b _ hb=>hb.elim)
  ·intro b o hb
   rcases hext.aT b o hb with h4|h4
   ·exact .inl h4
   ·exact .inr ⟨h4,kC.hp.aT b o hb,fun k blk x h=>by cases h⟩
 cases e<;>simp only[Kj]at hK<;>simp only[bodyPost]
 ·split at hK
  ·rename_i ob l hl;exact fin ob l hl (b6 hK).1 (b6 hK).2
  ·exact hK.elim
 ·split at hK
  ·rename_i ob l hl;exact fin ob l hl (b6 hK).1 (b6 hK).2
  ·exact hK.elim
end Go.Sx
namespace Go.Sx
mutual
def eE (σ:Nat→Nat):SV→SV
 |.ptr k s i r=>.ptr (σ k) s i r
 |.aK k s i n=>.aK (σ k) s i n
 |.agg cs=>.agg (kJ σ cs)
 |.cC vs=>.cC (kJ σ vs)
 |.clo f a b=>.clo f (kJ σ a) (kJ σ b)
 |.yld k rc ts a=>.yld (σ k) rc ts (kJ σ a)
 |.any=>.any
 |.val v=>.val v
 |.nat n=>.nat n
 |.int z=>.int z
 |.frac q=>.frac q
 |.atom p=>.atom p
def kJ (σ:Nat→Nat):List SV→List SV
 |[]=>[]
 |c::l=>eE σ c::kJ σ l
end
mutual
def refs:SV→List Nat
 |.ptr k _ _ _=>[k]
 |.aK k _ _ _=>[k]
 |.agg cs=>fN cs
 |.cC vs=>fN vs
 |.clo _ a b=>fN a++fN b
 |.yld k _ _ a=>k::fN a
 |_=>[]
def fN:List SV→List Nat
 |[]=>[]
 |c::l=>refs c++fN l
end
def zz (σ:Nat→Nat):Data→Data
 |.one cs=>.one (kJ σ cs)
 |.seq w xs=>.seq w xs
 |.ints k xs=>.ints k xs
 |.cd xs=>.cd xs
 |.dead=>.dead
 |.loop rc=>.loop rc
def oN:Data→List Nat
 |.one cs=>fN cs
 |.seq _ _=>[]
 |_=>[]
def dE (σ:Nat→Nat) (b:aA):aA:=⟨b.ty,b.wr,zz σ b.data⟩
def jC (σ:Nat→Nat):List (Nat×aA)→List (Nat×aA)
 |[]=>[]
 |(k,b)::r=>(σ k,dE σ b)::jC σ r
theorem FQ (σ:Nat→Nat) (c:SV):(eE σ c).aU=c.aU:=by cases c<;>simp[eE,SV.aU]
theorem xl (σ:Nat→Nat) (c:SV) (x:List Value):ct (eE σ c) x=ct c x:=by simp[ct,FQ]
theorem px (σ:Nat→Nat):∀(l:List SV) (z:List (List Value)),List.zipWith ct (kJ σ l) z=List.zipWith ct l z
 |[],z=>by simp[kJ]
 |c::l,[]=>by simp[kJ]
 |c::l,x::z=>by simp[kJ,xl,px σ l z]
mutual
theorem rH {ρ ρ':bI} {σ:Nat→Nat} (hi:ρ'.aT=ρ.aT):∀(c:SV) (x:List Value),(∀k∈refs c,ρ'.key (σ k)=ρ.key k)→(aG ρ' (eE σ c) x↔aG ρ c x)
 |.any,_,_=>by simp only[eE,aG]
 |.val _,_,_=>by simp only[eE,aG]
 |.nat _,_,_=>by simp only[eE,aG]
 |.int _,_,_=>by simp only[eE,aG]
 |.frac _,_,_=>by simp only[eE,aG]
 |.atom p,_,_=>by simp only[eE,aG,hi]
 |.ptr k s i r,_,h=>by simp only[eE,aG,h k (by simp[refs])]
 |.aK k s i n,_,h=>by simp only[eE,aG,h k (by simp[refs])]
 |.agg cs,_,h=>by
  simp only[eE,aG]
  constructor
  ·rintro⟨z,h1,h2⟩;exact⟨z,(dh hi cs z (by simpa [refs]using h)).1 h1,h2⟩
  ·rintro⟨z,h1,h2⟩;exact⟨z,(dh hi cs z (by simpa [refs]using h)).2 h1,h2⟩
 |.cC vs,_,_=>by simp only[eE,aG]
 |.clo f a b,_,h=>by
  have ha:∀k∈fN a,ρ'.key (σ k)=ρ.key k:=fun k hk=>h k (by simp[refs,hk])
  have hb:∀k∈fN b,ρ'.key (σ k)=ρ.key k:=fun k hk=>h k (by simp[refs,hk])
  simp only[eE,aG,px]
  constructor
  ·rintro⟨fz,cz,h1,h2,h3⟩;exact⟨fz,cz,(dh hi a fz ha).1 h1,(dh hi b cz hb).1 h2,h3⟩
  ·rintro⟨fz,cz,h1,h2,h3⟩;exact⟨fz,cz,(dh hi a fz ha).2 h1,(dh hi b cz hb).2 h2,h3⟩
 |.yld k rc ts a,_,h=>by
  have h0:ρ'.key (σ k)=ρ.key k:=h k (by simp[refs])
  have ha:∀k∈fN a,ρ'.key (σ k)=ρ.key k:=fun k hk=>h k (by simp[refs,hk])
  simp only[eE,aG,px,h0]
  constructor
  ·rintro⟨l,t,h1,h2,z,h3,h4⟩;exact⟨l,t,h1,h2,z,(dh hi a z ha).1 h3,h4⟩
  ·rintro⟨l,t,h1,h2,z,h3,h4⟩;exact⟨l,t,h1,h2,z,(dh hi a z ha).2 h3,h4⟩
theorem dh {ρ ρ':bI} {σ:Nat→Nat} (hi:ρ'.aT=ρ.aT):∀(l:List SV) (z:List (List Value)),(∀k∈fN l,ρ'.key (σ k)=ρ.key k)→(au ρ' (kJ σ l) z↔au ρ l z)
 |[],_,_=>by simp only[kJ,au]
 |c::l,_,h=>by
  have hc:∀k∈refs c,ρ'.key (σ k)=ρ.key k:=fun k hk=>h k (by simp[fN,hk])
  have hl:∀k∈fN l,ρ'.key (σ k)=ρ.key k:=fun k hk=>h k (by simp[fN,hk])
  simp only[kJ,au]
  constructor
  ·rintro⟨x,r,h1,h2,h3⟩;exact⟨x,r,h1,(rH hi c x hc).1 h2,(dh hi l r hl).1 h3⟩
  ·rintro⟨x,r,h1,h2,h3⟩;exact⟨x,r,h1,(rH hi c x hc).2 h2,(dh hi l r hl).2 h3⟩
end
theorem jN {ρ:bI} {c:SV} {v:Value} (h:bp c=true):Has ρ c v↔∃x,aG ρ c x∧v=ct c x:=by
 cases c<;>simp only[bp,Bool.false_eq_true]at h<;>simp only[Has]
theorem KX (σ:Nat→Nat) (c:SV):bp (eE σ c)=bp c:=by cases c<;>rfl
theorem vT {ρ ρ':bI} {σ:Nat→Nat} (hi:ρ'.aT=ρ.aT) (c:SV) (v:Value) (h:∀k∈refs c,ρ'.key (σ k)=ρ.key k):Has ρ' (eE σ c) v↔Has ρ c v:=by
 cases hp:bp c with
 |true=>
  rw[jN hp,jN (by rw[KX];exact hp)]
  constructor
  ·rintro⟨x,h1,h2⟩;exact⟨x,(rH hi c x h).1 h1,by rw[h2,xl]⟩
  ·rintro⟨x,h1,h2⟩;exact⟨x,(rH hi c x h).2 h1,by rw[h2,xl]⟩
 |false=>
  cases c<;>simp only[bp,Bool.true_eq_false]at hp
  case cC l=>
   simp only[eE,Has,px]
   constructor
   ·rintro⟨z,h1,h2⟩;exact⟨z,(dh hi l z (by simpa [refs]using h)).1 h1,h2⟩
   ·rintro⟨z,h1,h2⟩;exact⟨z,(dh hi l z (by simpa [refs]using h)).2 h1,h2⟩
  case any=>simp only[eE,Has]
mutual
theorem Jd (σ:Nat→Nat):∀c:SV,(eE σ c).width=c.width
 |.any=>rfl
 |.val _=>rfl
 |.nat _=>rfl
 |.int _=>rfl
 |.frac _=>rfl
 |.atom _=>rfl
 |.ptr .. =>rfl
 |.aK .. =>rfl
 |.agg cs=>by simp only[eE,SV.width];exact xm σ cs
 |.cC _=>rfl
 |.clo .. =>rfl
 |.yld .. =>rfl
theorem xm (σ:Nat→Nat):∀l:List SV,SV.cu (kJ σ l)=SV.cu l
 |[]=>rfl
 |c::l=>by simp only[kJ,SV.cu];rw[Jd σ c,xm σ l]
end
theorem DC {ρ ρ':bI} {σ:Nat→Nat} (hi:ρ'.aT=ρ.aT) (d:Data) (vs:List Value) (h:∀k∈oN d,ρ'.key (σ k)=ρ.key k):cQ ρ' (zz σ d) vs↔cQ ρ d vs:=by
 cases d
 case one cs=>
  simp only[zz,cQ]
  constructor
  ·rintro⟨z,h1,h2⟩;exact⟨z,(dh hi cs z h).1 h1,h2⟩
  ·rintro⟨z,h1,h2⟩;exact⟨z,(dh hi cs z h).2 h1,h2⟩
 case seq w xs=>
  have e:cE ρ'.aT ρ'.b7=cE ρ.aT ρ.b7:=by
   cases ρ;cases ρ';simp only at hi;subst hi;rfl
  simp only[zz,cQ,e]
 all_goals simp only[zz,cQ]
theorem cy (σ:Nat→Nat) (d:Data):(zz σ d).live=d.live:=by cases d<;>rfl
theorem FR (σ:Nat→Nat) (d:Data):(zz σ d).empty↔d.empty:=by
 cases d<;>simp[zz,Data.empty]
theorem KY (σ:Nat→Nat) (d:Data) (l:List Value) (ty:TypeId):(zz σ d).obj l ty=d.obj l ty:=by cases d<;>rfl
theorem ji {ρ ρ':bI} {σ:Nat→Nat} {w:World} (hi:ρ'.aT=ρ.aT) (k:Nat) (b:aA) (hk:ρ'.key (σ k)=ρ.key k) (h:∀k∈oN b.data,ρ'.key (σ k)=ρ.key k):gK ρ' w (σ k) (dE σ b)↔gK ρ w k b:=by
 simp only[gK,dE,hk,cy,FR,KY]
 constructor
 ·rintro(h0|⟨b',t,vs,ex,h1,h2,h3,h4⟩|h0)
  ·exact .inl h0
  ·exact .inr (.inl ⟨b',t,vs,ex,h1,h2,(DC hi b.data vs h).1 h3,h4⟩)
  ·exact .inr (.inr h0)
 ·rintro(h0|⟨b',t,vs,ex,h1,h2,h3,h4⟩|h0)
  ·exact .inl h0
  ·exact .inr (.inl ⟨b',t,vs,ex,h1,h2,(DC hi b.data vs h).2 h3,h4⟩)
  ·exact .inr (.inr h0)
def dc (l:List (Nat×Nat)) (k:Nat):Nat:=match l with
 |[]=>k
 |(a,b)::r=>match Nat.beq a k with|true=>b|false=>dc r k
def eW (σ:Nat→Nat) (fr:List (Nat×SV)):List Nat→List (Nat×SV)
 |[]=>[]
 |t::r=>match lk fr t with
  |some c=>(t,eE σ c)::eW σ fr r
  |none=>eW σ fr r
def gv (σ:Nat→Nat) (hp:List (Nat×aA)):List Nat→List (Nat×aA)
 |[]=>[]
 |k::r=>match find hp k with
  |some b=>(σ k,dE σ b)::gv σ hp r
  |none=>gv σ hp r
def er (l r:List Nat):Bool:=match l with
 |[]=>true
 |x::t=>vI x r&&er t r
theorem du {l r:List Nat} (h:er l r=true):∀x∈l,x∈r:=by
 induction l with
 |nil=>intro x hx;cases hx
 |cons y l ih=>
  simp only[er,Bool.and_eq_true]at h
  intro x hx
  rcases List.mem_cons.1 hx with rfl|hx
  ·exact jg.1 h.1
  ·exact ih h.2 x hx
def dP (ks:List Nat) (fr:List (Nat×SV)):List Nat→Bool
 |[]=>true
 |t::r=>match lk fr t with
  |some c=>er (refs c) ks&&dP ks fr r
  |none=>dP ks fr r
def dm (ks:List Nat) (hp:List (Nat×aA)):List Nat→Bool
 |[]=>true
 |k::r=>match find hp k with
  |some b=>er (oN b.data) ks&&dm ks hp r
  |none=>false
def rI (σ:Nat→Nat):List Nat→Bool
 |[]=>true
 |k::r=> !(vI (σ k) (r.map σ))&&rI σ r
def vf (σ:Nat→Nat) (ks:List Nat):List Nat→Bool
 |[]=>true
 |k::r=>(vI k ks&&Nat.beq (σ k) k)&&vf σ ks r
def gP (fx:List Nat) (σ:Nat→Nat) (ts ks:List Nat) (fr:List (Nat×SV)) (hp:List (Nat×aA)):Bool:=
 dP ks fr ts&&(dm ks hp ks&&(rI σ ks&&vf σ ks fx))
theorem qp {σ:Nat→Nat}:∀{ks:List Nat},rI σ ks=true→∀a∈ks,∀b∈ks,σ a=σ b→a=b
 |k::r,h,a,ha,b,hb,he=>by
  simp only[rI,Bool.and_eq_true,Bool.not_eq_true',←Bool.not_eq_true,jg]at h
  rcases List.mem_cons.1 ha with ha'|ha'
  ·rcases List.mem_cons.1 hb with fV|fV
   ·rw[ha',fV]
   ·exact absurd (List.mem_map.2 ⟨b,fV,by rw[←he,ha']⟩) h.1
  ·rcases List.mem_cons.1 hb with fV|fV
   ·exact absurd (List.mem_map.2 ⟨a,ha',by rw[he,fV]⟩) h.1
   ·exact qp h.2 a ha' b fV he
theorem rJ {σ:Nat→Nat} {fr:List (Nat×SV)} {ks:List Nat}:∀{ts:List Nat},dP ks fr ts=true→∀t sv,lk (eW σ fr ts) t=some sv→∃c,lk fr t=some c∧sv=eE σ c∧∀k∈refs c,k∈ks
 |u::r,h,t,sv,hl=>by
  unfold dP at h
  unfold eW at hl
  cases hu:lk fr u with
  |none=>rw[hu]at h hl;exact rJ h t sv hl
  |some c=>
   rw[hu]at h hl
   simp only[Bool.and_eq_true]at h
   simp only[lk]at hl
   cases hb:Nat.beq u t with
   |true=>
    rw[hb]at hl
    simp only[Option.some.injEq]at hl
    obtain rfl:=Nat.eq_of_beq_eq_true hb
    exact⟨c,hu,hl.symm,du h.1⟩
   |false=>rw[hb]at hl;exact rJ h.2 t sv hl
theorem qq {σ:Nat→Nat} {hp:List (Nat×aA)} {ks:List Nat}:∀{l:List Nat},dm ks hp l=true→∀k' b',find (gv σ hp l) k'=some b'→∃k∈l,σ k=k'∧∃b,find hp k=some b∧b'=dE σ b∧∀j∈oN b.data,j∈ks
 |k::r,h,k',b',hf=>by
  unfold dm at h
  unfold gv at hf
  cases hk:find hp k with
  |none=>rw[hk]at h;cases h
  |some b=>
   rw[hk]at h hf
   simp only[Bool.and_eq_true]at h
   simp only[find]at hf
   cases hb:Nat.beq (σ k) k' with
   |true=>
    rw[hb]at hf
    simp only[Option.some.injEq]at hf
    exact⟨k,List.mem_cons_self ..,Nat.eq_of_beq_eq_true hb,b,hk,hf.symm,du h.1⟩
   |false=>
    rw[hb]at hf
    obtain⟨j,h1,h2⟩:=qq h.2 k' b' hf
    exact⟨j,List.mem_cons_of_mem _ h1,h2⟩
theorem mu {σ:Nat→Nat} {hp:List (Nat×aA)} {ks:List Nat}:∀{l:List Nat},dm ks hp l=true→∀k∈l,∃b,find (gv σ hp l) (σ k)=some b
 |j::r,h,k,hk=>by
  unfold dm at h
  unfold gv
  cases hj:find hp j with
  |none=>rw[hj]at h;cases h
  |some b=>
   rw[hj]at h
   simp only[Bool.and_eq_true]at h
   simp only[find]
   cases hb:Nat.beq (σ j) (σ k)with
   |true=>exact⟨_,rfl⟩
   |false=>
    rcases List.mem_cons.1 hk with rfl|hk
    ·simp[Nat.beq_refl]at hb
    ·exact mu h.2 k hk
theorem xn {σ:Nat→Nat} {ks:List Nat}:∀{l:List Nat},vf σ ks l=true→∀k∈l,k∈ks∧σ k=k
 |j::r,h,k,hk=>by
  simp only[vf,Bool.and_eq_true,jg]at h
  rcases List.mem_cons.1 hk with rfl|hk
  ·exact⟨h.1.1,Nat.eq_of_beq_eq_true h.1.2⟩
  ·exact xn h.2 k hk
theorem py {E:Env} (hE:E.OK) {σ:Nat→Nat} {ts ks:List Nat} {fr:List (Nat×SV)} {hp:List (Nat×aA)} (h:gP E.fx σ ts ks fr hp=true) {a:Act} {w:World} (hR:RR E (fn fr hp) a w):
  RR E (fn (eW σ fr ts) (gv σ hp ks)) a w:=by
 simp only[gP,Bool.and_eq_true]at h
 obtain⟨h1,h2,h3,h4⟩:=h
 obtain⟨ρ,hext,hfx,hR⟩:=hR
 have VR:=qp h3
 have Je:=xn h4
 let ρ':bI:=⟨fun k'=>match ks.find? (fun k=>σ k==k')with
  |some k=>ρ.key k
  |none=>none,ρ.aT,ρ.b7⟩
 have bJ:∀k∈ks,ρ'.key (σ k)=ρ.key k:=by
  intro k hk
  show(match ks.find? (fun j=>σ j==σ k)with|some k=>ρ.key k|none=>none)=ρ.key k
  cases hf:ks.find? (fun j=>σ j==σ k)with
  |none=>have:=List.find?_eq_none.1 hf k hk;simp at this
  |some j=>
   have hj:=List.mem_of_find?_eq_some hf
   have hs:=List.find?_some hf
   have:j=k:=VR j hj k hk (by simpa using hs)
   rw[this]
 have KZ:∀k' x,ρ'.key k'=some x→∃k∈ks,σ k=k'∧ρ.key k=some x:=by
  intro k' x hx
  have hx:(match ks.find? (fun j=>σ j==k')with|some k=>ρ.key k|none=>none)=some x:=hx
  cases hf:ks.find? (fun j=>σ j==k')with
  |none=>rw[hf]at hx;cases hx
  |some j=>rw[hf]at hx;exact⟨j,List.mem_of_find?_eq_some hf,by simpa using List.find?_some hf,hx⟩
 have hold:∀k' b',(fn (eW σ fr ts) (gv σ hp ks) (.k k')).blk=some b'→∃k∈ks,σ k=k'∧∃b,find hp k=some b∧b'=dE σ b∧∀j∈oN b.data,j∈ks:=fun k' b' hb=>qq h2 k' b' hb
 refine⟨ρ',⟨⟨fun k x hx=> ?_,hext.le.aT⟩,hext.aT,fun k hk=> ?_⟩,fun k hk=> ?_,{defers:=hR.defers,size:=hR.size,fr:= ?_,bw:=hR.bw,hp:= ?_}⟩
 ·obtain⟨e1,e2⟩:=Je k (hE.ud k x hx)
  have:=bJ k e1
  rw[e2]at this
  rw[this];exact hext.le.key k x hx
 ·obtain⟨e1,e2⟩:=Je k hk
  have:=bJ k e1
  rw[e2]at this
  rw[this];exact hext.fix k hk
 ·obtain⟨e1,e2⟩:=Je k hk
  obtain⟨b,hb⟩:=mu (σ:=σ) h2 k e1
  rw[e2]at hb
  simp[fn,LV.blk,hb]
 ·intro t sv ht
  obtain⟨c,c1,rfl,c3⟩:=rJ h1 t sv ht
  exact(vT (ρ:=ρ) (ρ':=ρ') (σ:=σ) rfl c _ (fun k hk=>bJ k (c3 k hk))).2 (hR.fr t c (by simp only[fn,LV.sv];exact c1))
 ·constructor
  ·intro k' b' hb
   obtain⟨k,hk,rfl,b,b1,rfl,b3⟩:=hold k' b' hb
   exact(ji (ρ:=ρ) (ρ':=ρ') (σ:=σ) rfl k b (bJ k hk) (fun j hj=>bJ j (b3 j hj))).2 (hR.hp.blk k b (by simp only[fn,LV.blk];exact b1))
  ·intro k1 k2 x1 x2 b1 b2 hx1 Kv a7 he hb1 hb2 gJ gI
   obtain⟨j1,m1,rfl,c1,d1,rfl,_⟩:=hold k1 b1 hb1
   obtain⟨j2,m2,rfl,c2,d2,rfl,_⟩:=hold k2 b2 hb2
   rw[bJ j1 m1]at hx1
   rw[bJ j2 m2]at Kv
   exact hR.hp.sep j1 j2 x1 x2 c1 c2 hx1 Kv (fun h=>a7 (by rw[h])) he (by simp only[fn,LV.blk];exact d1) (by simp only[fn,LV.blk];exact d2) (by rwa [dE,cy]at gJ) (by rwa [dE,cy]at gI)
  ·intro k' b' x hb hw hl hx
   obtain⟨k,hk,rfl,b,b1,rfl,_⟩:=hold k' b' hb
   rw[bJ k hk]at hx
   exact hR.hp.own k b x (by simp only[fn,LV.blk];exact b1) hw (by rwa [dE,cy]at hl) hx
  ·intro k' x hx
   obtain⟨k,hk,rfl,_⟩:=KZ k' x hx
   obtain⟨b,hb⟩:=mu (σ:=σ) h2 k hk
   exact⟨b,by simp only[fn,LV.blk];exact hb⟩
  ·exact hR.hp.aT
  ·intro k' b' x hb hw hl hx
   obtain⟨k,hk,rfl,b,b1,rfl,_⟩:=hold k' b' hb
   rw[bJ k hk]at hx
   exact hR.hp.ep k b x (by simp only[fn,LV.blk];exact b1) hw (by rwa [dE,cy]at hl) hx
theorem vU {E:Env} (hE:E.OK) (σ:Nat→Nat) (ts ks:List Nat) {c:Code} {K:bK} {fr:List (Nat×SV)} {hp:List (Nat×aA)} (h:gP E.fx σ ts ks fr hp=true)
  (hs:SW E c K (eW σ fr ts) (gv σ hp ks)):SW E c K fr hp:=fun a w hR=>hs a w (py hE h hR)
def xo (t k s:Nat) (fr:List (Nat×SV)):List (Nat×SV):=(t,.aK k s 0 0)::fr
theorem K3 {E:Env} {t k s:Nat} {blk:aA} {fr:List (Nat×SV)} {hp:List (Nat×aA)} (ht:lk fr t=some (.val (.slice none 0 0))) (hk:find hp k=none) (he:blk.data.empty) {a:Act} {w:World} (hR:RR E (fn fr hp) a w):
  RR E (fn (xo t k s fr) ((k,blk)::hp)) a w:=by
 obtain⟨ρ,hext,hfx,hR⟩:=hR
 have p9:ρ.key k=none:=by
  cases hx:ρ.key k with
  |none=>rfl
  |some x=>
   obtain⟨b,hb⟩:=hR.hp.ud k x hx
   simp only[fn,LV.blk,hk]at hb
   cases hb
 have eC:∀j b,(fn (xo t k s fr) ((k,blk)::hp) (.k j)).blk=some b→(j=k∧b=blk)∨(j≠k∧(fn fr hp (.k j)).blk=some b):=by
  intro j b hb
  simp only[fn,LV.blk,find]at hb ⊢
  cases hj:Nat.beq k j with
  |true=>rw[hj]at hb;simp only[Option.some.injEq]at hb;exact .inl ⟨(Nat.eq_of_beq_eq_true hj).symm,hb.symm⟩
  |false=>rw[hj]at hb;exact .inr ⟨by rintro rfl;simp[Nat.beq_refl]at hj,hb⟩
 have a7:∀j x,ρ.key j=some x→j≠k:=fun j x hx h=>by rw[h,p9]at hx;cases hx
 refine⟨ρ,hext,fun j hj=> ?_,{defers:=hR.defers,size:=hR.size,fr:= ?_,bw:=hR.bw,hp:= ?_}⟩
 ·have:=hfx j hj
  simp only[fn,LV.blk,find]at this ⊢
  cases hb:Nat.beq k j with
  |true=>simp
  |false=>exact this
 ·intro u sv hu
  simp only[fn,LV.sv,xo,lk]at hu
  cases hb:Nat.beq t u with
  |true=>
   rw[hb]at hu
   simp only[Option.some.injEq]at hu
   subst hu
   obtain rfl:=Nat.eq_of_beq_eq_true hb
   have:=aJ (hR.fr t _ (by simp only[fn,LV.sv];exact ht))
   rw[this]
   exact fW (.inr ⟨rfl,none,rfl⟩)
  |false=>
   rw[hb]at hu
   exact hR.fr u sv (by simp only[fn,LV.sv];exact hu)
 ·constructor
  ·intro j b hb
   rcases eC j b hb with⟨rfl,rfl⟩|⟨_,h1⟩
   ·exact .inr (.inr ⟨p9,he⟩)
   ·exact hR.hp.blk j b h1
  ·intro j j' x x' b b' hx pZ hn hxe hb fV
   rcases eC j b hb with⟨h1,_⟩|⟨_,h1⟩
   ·exact absurd h1 (a7 j x hx)
   ·rcases eC j' b' fV with⟨h2,_⟩|⟨_,h2⟩
    ·exact absurd h2 (a7 j' x' pZ)
    ·exact hR.hp.sep j j' x x' b b' hx pZ hn hxe h1 h2
  ·intro j b x hb hw hl hx
   rcases eC j b hb with⟨h1,_⟩|⟨_,h1⟩
   ·exact absurd h1 (a7 j x hx)
   ·exact hR.hp.own j b x h1 hw hl hx
  ·intro j x hx
   obtain⟨b,hb⟩:=hR.hp.ud j x hx
   have:=a7 j x hx
   refine⟨b, ?_⟩
   simp only[fn,LV.blk,find]at hb ⊢
   cases hj:Nat.beq k j with
   |true=>exact absurd (Nat.eq_of_beq_eq_true hj).symm this
   |false=>exact hb
  ·exact hR.hp.aT
  ·intro j b x hb hw hl hx
   rcases eC j b hb with⟨h1,_⟩|⟨_,h1⟩
   ·exact absurd h1 (a7 j x hx)
   ·exact hR.hp.ep j b x h1 hw hl hx
theorem K4 {E:Env} (t k s:Nat) (blk:aA) {c:Code} {K:bK} {fr:List (Nat×SV)} {hp:List (Nat×aA)} (ht:lk fr t=some (.val (.slice none 0 0))) (hk:find hp k=none) (he:blk.data.empty)
  (hs:SW E c K (xo t k s fr) ((k,blk)::hp)):SW E c K fr hp:=fun a w hR=>hs a w (K3 ht hk he hR)
theorem dU {E:Env} {t k s:Nat} {c:Code} {K:bK} {blk:aA} {fr:List (Nat×SV)} {hp:List (Nat×aA)} (ht:lk fr t=some (.val (.slice none 0 0))) (hk:find hp k=none) (he:blk.data.empty)
  (hs:dG E c K (xo t k s fr) ((k,blk)::hp)):dG E c K fr hp:=⟨K4 t k s blk ht hk he hs.run⟩
theorem az {E:Env} (hE:E.OK) {c:Code} {K:bK} {fr:List (Nat×SV)} {hp:List (Nat×aA)} (σ:Nat→Nat) (ts ks:List Nat) (I:Nat→List (Nat×SV)→List (Nat×aA)→Prop) (m:Nat)
  (h0:gP E.fx σ ts ks fr hp=true) (hI:I m (eW σ fr ts) (gv σ hp ks))
  (h:∀m fr hp,I m fr hp→BG E c (fun e fr' bW=>match e with
   |.normal=>∃m' σ ts ks,m'<m∧gP E.fx σ ts ks fr' bW=true∧I m' (eW σ fr' ts) (gv σ bW ks)
   |e=>K e fr' bW) fr hp):dG E (.loop c) K fr hp:=by
 refine⟨?_⟩
 refine vU hE σ ts ks h0 (BH (fun m fr hp=>∃fr0 vV,(∀a w,RR E (fn fr hp) a w→RR E (fn fr0 vV) a w)∧I m fr0 vV) m ⟨_,_,fun _ _ h=>h,hI⟩ ?_)
 rintro m fr hp ⟨fr0,vV,hw,hI⟩ a w hR
 refine Code.wpIn_mono ?_ (iC hE c _ fr0 vV (h m fr0 vV hI) a w (hw a w hR))
 rintro e a' w' ⟨fr',bW,h1,h2⟩
 cases e with
 |normal=>
  obtain⟨m',σ,ts,ks,aI,hok,Hl⟩:=h1
  exact⟨fr',bW,⟨m',aI,_,_,fun a w hR=>py hE hok hR,Hl⟩,h2⟩
 |_=>exact⟨fr',bW,h1,h2⟩
end Go.Sx
namespace Go.Sx
def Fin (c:SV) (new upd:List (Nat×aA)) (sv:SV) (hp:List (Nat×aA)):Prop:=
 aq sv c∧(∀k b,(k,b)∈new→find hp k=some b)∧(∀k b,(k,b)∈upd→find hp k=some b)
def rK:List (Nat×aA)→Bool
 |[]=>true
 |(_,b)::r=>(b.wr&&b.data.live)&&rK r
def gQ:List (Nat×aA)→List Nat
 |[]=>[]
 |(_,b)::r=>oN b.data++gQ r
def oO:List Nat→Bool
 |[]=>true
 |x::r=> !(vI x r)&&oO r
structure bV (args:List SV) (fk:List (Nat×aA)) (c:SV) (new upd:List (Nat×aA)):Prop where
 VS:er (fN args) (ax fk)=true
 fkr:er (gQ fk) (ax fk)=true
 nd:oO (ax fk++ax new)=true
 VT:rK new=true
 VU:rK upd=true
 K6:∀k b,(k,b)∈upd→∃b0,(k,b0)∈fk∧b0.wr=true∧b0.data.live=true
 FT:∀k b,(k,b)∈fk→b.wr=true→b.data.live=true→∃b',(k,b')∈upd
 cr:er (refs c) (ax fk++ax new)=true
 nr:er (gQ new) (ax fk++ax new)=true
 ur:er (gQ upd) (ax fk++ax new)=true
 pass:args.all bp=true
structure bh (fk new:List (Nat×aA)) (σ:Nat→Nat):Prop where
 inj:∀q q' b b',(q,b)∈fk→(q',b')∈fk→q≠q'→b.wr=true→σ q≠σ q'
 K7:∀m m',m∈ax new→m'∈ax new→m≠m'→σ m≠σ m'
 K8:∀m q,m∈ax new→q∈ax fk→σ m≠σ q
theorem lY:∀{l:List Nat},oO l=true→l.Nodup
 |[],_=>List.nodup_nil
 |x::r,h=>by
  simp only[oO,Bool.and_eq_true,Bool.not_eq_true',←Bool.not_eq_true,jg]at h
  exact List.nodup_cons.2 ⟨h.1,lY h.2⟩
theorem jk:∀{l:List (Nat×aA)} {k:Nat} {b:aA},(ax l).Nodup→(k,b)∈l→find l k=some b
 |(j,c)::r,k,b,hn,hm=>by
  simp only[ax,List.nodup_cons]at hn
  simp only[find]
  rcases List.mem_cons.1 hm with h|h
  ·cases h;simp[Nat.beq_refl]
  ·have a7:j≠k:=by rintro rfl;exact hn.1 (aP.2 ⟨b,h⟩)
   cases hb:Nat.beq j k with
   |true=>exact absurd (Nat.eq_of_beq_eq_true hb) a7
   |false=>exact jk hn.2 h
theorem ns:∀{l:List (Nat×aA)},rK l=true→∀k b,(k,b)∈l→b.wr=true∧b.data.live=true
 |(j,c)::r,h,k,b,hm=>by
  simp only[rK,Bool.and_eq_true]at h
  rcases List.mem_cons.1 hm with h1|h1
  ·cases h1;exact h.1
  ·exact ns h.2 k b h1
theorem iD:∀{l:List (Nat×aA)} {k:Nat} {b:aA},(k,b)∈l→∀x∈oN b.data,x∈gQ l
 |(j,c)::r,k,b,hm,x,hx=>by
  simp only[gQ,List.mem_append]
  rcases List.mem_cons.1 hm with h1|h1
  ·cases h1;exact .inl hx
  ·exact .inr (iD h1 x hx)
theorem bx {σ:Nat→Nat}:∀{l:List (Nat×aA)} {k:Nat} {b:aA},(k,b)∈jC σ l↔∃q b0,(q,b0)∈l∧k=σ q∧b=dE σ b0
 |[],k,b=>by simp[jC]
 |(j,c)::r,k,b=>by
  simp only[jC,List.mem_cons,Prod.mk.injEq,bx (l:=r)]
  constructor
  ·rintro(⟨rfl,rfl⟩|⟨q,b0,h1,h2,h3⟩)
   ·exact⟨j,c,.inl ⟨rfl,rfl⟩,rfl,rfl⟩
   ·exact⟨q,b0,.inr h1,h2,h3⟩
  ·rintro⟨q,b0,⟨rfl,rfl⟩|h1,h2,h3⟩
   ·exact .inl ⟨h2,h3⟩
   ·exact .inr ⟨q,b0,h1,h2,h3⟩
theorem gw {P:Program} {T:List (TypeId×TI)} {Z:List Nat} (hT:db P T) (hm:P.follows .mixedOrders=true) {f:FuncId} {fn':Func} {code:Code} (hf:P.funcs[f]? =some fn') (hb:fn'.body=some code)
  (hn:(fn'.name== "runtime.NumGoroutine")=false) {args:List SV} {fk:List (Nat×aA)} {c:SV} {new upd:List (Nat×aA)} (hs:bV args fk c new upd) (hnt:Nat.ble args.length fn'.ntmps=true)
  (σ:Nat→Nat) (hσ:bh fk new σ)
  (h:∀W0 w0 ρ0,Env.OK ⟨P,T,W0,w0,fn'.ntmps,ρ0,ax fk,Z,none⟩→BG ⟨P,T,W0,w0,fn'.ntmps,ρ0,ax fk,Z,none⟩ code (Kj T fn'.results.toList (Fin c new upd)) (enum 0 args) fk):
  af P f (kJ σ args) (jC σ fk) (eE σ c) (jC σ new) (jC σ upd):=by
 have KW:=Nat.le_of_ble_eq_true hnt
 refine .inl ⟨⟨fn',hf,hn,by rw[hb];rfl⟩,fun ρ w z hz BK=> ?_⟩
 have SF:=lY hs.nd
 have K9:(ax fk).Nodup:=(List.nodup_append.1 SF).1
 have agX:(ax new).Nodup:=(List.nodup_append.1 SF).2.1
 have La:∀m∈ax new,m∉ax fk:=fun m hm hq=>(List.nodup_append.1 SF).2.2 m hq m hm rfl
 let ρ1:bI:=⟨fun q=>if q∈ax fk then ρ.key (σ q)else none,ρ.aT,ρ.b7⟩
 have C4:∀q∈ax fk,ρ.key (σ q)=ρ1.key q:=fun q hq=>by
  show _=if q∈ax fk then _ else _
  rw[if_pos hq]
 have Lb:∀q x,ρ1.key q=some x→q∈ax fk:=fun q x hx=>by
  have hx:(if q∈ax fk then ρ.key (σ q)else none)=some x:=hx
  by_cases hq:q∈ax fk
  ·exact hq
  ·rw[if_neg hq]at hx;cases hx
 let W0:Nat→Prop:=fun b=>∃q blk t,(q,blk)∈upd∧ρ1.key q=some (b,t)
 let E:Env:=⟨P,T,W0,w,fn'.ntmps,ρ1,ax fk,Z,none⟩
 have hE:E.OK:=⟨hT,hm,Lb⟩
 have Lc:=du hs.VS
 have Jc:au ρ1 args z:=(dh (ρ:=ρ1) (ρ':=ρ) (σ:=σ) rfl args z (fun k hk=>C4 k (Lc k hk))).1 hz
 have pq:z.length=args.length:=cJ Jc
 have oi:∀(l:List SV) (y:List (List Value)),au ρ1 l y→l.all bp=true→∀(j:Nat) (c:SV),l[j]? =some c→∃v,(List.zipWith ct l y)[j]? =some v∧Has ρ1 c v:=by
  intro l
  induction l with
  |nil=>intro y _ _ j c h;simp at h
  |cons d l ih=>
   intro y hy hp j c hj
   simp only[au]at hy
   obtain⟨x,r,rfl,g1,g2⟩:=hy
   simp only[List.all_cons,Bool.and_eq_true]at hp
   cases j with
   |zero=>
    simp at hj
    subst hj
    exact⟨ct d x,by simp,(jN hp.1).2 ⟨x,g1,rfl⟩⟩
   |succ j=>simpa using ih r g2 hp.2 j c (by simpa using hj)
 have oe:((List.zipWith ct args z).toArray++Array.replicate (fn'.ntmps - (List.zipWith ct args z).toArray.size) undef).size=fn'.ntmps:=by
  simp[pq]
  omega
 have VV:=du hs.fkr
 have oP:∀k b,find fk k=some b→(k,b)∈fk:=fun k b hb=>jc hb
 have hR:R E.W0 E.w0 E.n ρ1 (fn (enum 0 args) fk) {tmps:=(List.zipWith ct args z).toArray++Array.replicate (fn'.ntmps - (List.zipWith ct args z).toArray.size) undef,defers:=[]} w:={
  defers:=.nil
  size:=oe
  fr:=fun t sv ht=>by
   simp only[fn,LV.sv]at ht
   obtain⟨_,h2⟩:=rG args 0 t sv ht
   obtain⟨v,h3,h4⟩:=oi args z Jc hs.pass t sv (by simpa using h2)
   have aI:t<(List.zipWith ct args z).length:=(List.getElem?_eq_some_iff.1 h3).1
   have:((List.zipWith ct args z).toArray++Array.replicate (fn'.ntmps - (List.zipWith ct args z).toArray.size) undef).getD t undef=v:=by
    rw[Array.getD_eq_getD_getElem?,Array.getElem?_append_left (by simpa using aI)]
    simp[h3]
   rw[this];exact h4
  bw:=.refl _ _
  hp:={
   blk:=fun k b hb=>by
    have hm:=oP k b hb
    have:=BK.mj (σ k) (dE σ b) (bx.2 ⟨k,b,hm,rfl,rfl⟩)
    exact(ji (ρ:=ρ1) (ρ':=ρ) (σ:=σ) rfl k b (C4 k (aP.2 ⟨b,hm⟩)) (fun j hj=>C4 j (VV j (iD hm j hj)))).1 this
   sep:=fun k k' x x' b b' hx pZ a7 he hb fV hl ql=>by
    have hm:=oP k b hb
    have C5:=oP k' b' fV
    have Kd:ρ.key (σ k)=some x:=by rw[C4 k (aP.2 ⟨b,hm⟩)];exact hx
    have VW:ρ.key (σ k')=some x':=by rw[C4 k' (aP.2 ⟨b',C5⟩)];exact pZ
    cases hw:b.wr with
    |false=>rfl
    |true=>
     have:=BK.sep (σ k) (σ k') x x' (dE σ b) (dE σ b') (bx.2 ⟨k,b,hm,rfl,rfl⟩) (bx.2 ⟨k',b',C5,rfl,rfl⟩) Kd VW (hσ.inj k k' b b' hm C5 a7 hw) he (by rw[dE,cy];exact hl) (by rw[dE,cy];exact ql)
     rw[dE]at this
     rw[hw]at this;exact this
   own:=fun k b x hb hw hl hx=>by
    have hm:=oP k b hb
    obtain⟨b',hu⟩:=hs.FT k b hm hw hl
    exact .inr ⟨k,b',x.2,hu,hx⟩
   ud:=fun k x hx=>by
    obtain⟨b,hb⟩:=aP.1 (Lb k x hx)
    exact⟨b,by simp only[fn,LV.blk];exact jk K9 hb⟩
   aT:=BK.aT
   ep:=fun k b x hb hw hl hx=>by
    have hm:=oP k b hb
    have Kd:ρ.key (σ k)=some x:=by rw[C4 k (aP.2 ⟨b,hm⟩)];exact hx
    exact BK.ep (σ k) (dE σ b) x (bx.2 ⟨k,b,hm,rfl,rfl⟩) hw (by rw[dE,cy];exact hl) Kd}}
 have O9:=iC hE code _ _ _ (h E.W0 w ρ1 hE) _ w ⟨ρ1,⟨.refl _,(fun b o hb=>.inl hb),(fun _ _=>rfl)⟩,(fun k hk=>by
  obtain⟨b,hb⟩:=aP.1 hk
  simp only[fn,LV.blk,jk K9 hb]
  simp),hR⟩
 rw[px]
 refine jM (E:=E) rfl hf hb (fun _ _ _ h=>h) (fun _ _ h=>h) O9 ?_
 rintro e a' w' hdf ⟨fr',bW,hK,ρ',hext,_,kC⟩
 have fin:∀ob l,kH T fr' bW fn'.results.toList=some (ob,l)→Bm ob→Fin c new upd (qb l) bW→a'.defers=[]∧∃v,(results fn' a'.tmps).run P w'= .ok v w'∧∃v' ρ'',Ending.returned v= .returned v'∧jb ρ w (eE σ c) (jC σ new) (jC σ upd) v' ρ'' w':=by
  rintro ob l h1 h2 ⟨h3,eO,hupd⟩
  obtain⟨v,r1,r2⟩:=lW hE kC h1 h2
  let ρ2:bI:=⟨fun k=>match (ax new).find? (fun m=>σ m==k)with
   |some m=>ρ'.key m
   |none=>ρ.key k,ρ'.aT,ρ'.b7⟩
  have oQ:∀m∈ax new,ρ2.key (σ m)=ρ'.key m:=by
   intro m hm
   show(match (ax new).find? (fun j=>σ j==σ m)with|some m=>ρ'.key m|none=>ρ.key (σ m))=ρ'.key m
   cases ou:(ax new).find? (fun j=>σ j==σ m)with
   |none=>have:=List.find?_eq_none.1 ou m hm;simp at this
   |some j=>
    have hj:=List.mem_of_find?_eq_some ou
    have hjs:=List.find?_some ou
    have:j=m:=Classical.byContradiction fun a7=>hσ.K7 j m hj hm a7 (by simpa using hjs)
    rw[this]
  have xp:∀k,(∀m∈ax new,σ m≠k)→ρ2.key k=ρ.key k:=by
   intro k hk
   show(match (ax new).find? (fun j=>σ j==k)with|some m=>ρ'.key m|none=>ρ.key k)=ρ.key k
   cases ou:(ax new).find? (fun j=>σ j==k)with
   |none=>rfl
   |some j=>exact absurd (by simpa using List.find?_some ou) (hk j (List.mem_of_find?_eq_some ou))
  have k2:∀q∈ax fk++ax new,ρ2.key (σ q)=ρ'.key q:=by
   intro q hq
   rcases List.mem_append.1 hq with hq|hq
   ·rw[xp (σ q) (fun m hm=>hσ.K8 m q hm hq),C4 q hq,hext.fix q hq]
   ·exact oQ q hq
  have dd:∀m∈ax new,ρ.key (σ m)=none:=by
   intro m hm
   obtain⟨b,hb⟩:=aP.1 hm
   exact BK.fresh (σ m) (dE σ b) (bx.2 ⟨m,b,hb,rfl,rfl⟩)
  have gR:=ns hs.VT
  have Ld:=ns hs.VU
  have hnr:=du hs.nr
  have hur:=du hs.ur
  have hcr:=du hs.cr
  have nt:∀q b,(q,b)∈upd→q∈ax fk:=fun q b hq=>by
   obtain⟨b0,h1,_⟩:=hs.K6 q b hq
   exact aP.2 ⟨b0,h1⟩
  refine⟨hdf,v,r1,v,ρ2,rfl,⟨⟨fun k x hx=> ?_,fun b o hb=>hext.le.aT b o hb⟩, ?_,fun k hk=> ?_, ?_, ?_, ?_, ?_, ?_, ?_⟩⟩
  ·rw[xp k]
   ·exact hx
   ·rintro m hm rfl
    rw[dd m hm]at hx;cases hx
  ·exact(vT (ρ:=ρ') (ρ':=ρ2) (σ:=σ) rfl c v (fun k hk=>k2 k (hcr k hk))).2 (h3 ρ' v r2)
  ·refine xp k fun m hm he=> ?_
   obtain⟨b,hb⟩:=aP.1 hm
   exact hk (dE σ b) (bx.2 ⟨m,b,hb,he.symm,rfl⟩)
  ·refine kC.bw.mono (fun b _ hb=> ?_)
   obtain⟨q,blk,t,hq,hx⟩:=hb
   refine⟨σ q,dE σ blk,t,bx.2 ⟨q,blk,hq,rfl,rfl⟩, ?_⟩
   rw[C4 q (nt q blk hq)];exact hx
  ·intro k b hk
   rcases hk with hk|hk
   ·obtain⟨q,b0,hq,rfl,rfl⟩:=bx.1 hk
    exact(ji (ρ:=ρ') (ρ':=ρ2) (σ:=σ) rfl q b0 (k2 q (List.mem_append.2 (.inl (nt q b0 hq)))) (fun j hj=>k2 j (hur j (iD hq j hj)))).2 (kC.hp.blk q b0 (by simp only[fn,LV.blk];exact hupd q b0 hq))
   ·obtain⟨q,b0,hq,rfl,rfl⟩:=bx.1 hk
    exact(ji (ρ:=ρ') (ρ':=ρ2) (σ:=σ) rfl q b0 (k2 q (List.mem_append.2 (.inr (aP.2 ⟨b0,hq⟩)))) (fun j hj=>k2 j (hnr j (iD hq j hj)))).2 (kC.hp.blk q b0 (by simp only[fn,LV.blk];exact eO q b0 hq))
  ·intro k b b' hk _ hl _
   obtain⟨q,b0,hq,rfl,rfl⟩:=bx.1 hk
   rw[dE,cy]at hl
   rw[(Ld q b0 hq).2]at hl;cases hl
  ·intro k b x hk hx
   obtain⟨m,b0,hm,rfl,rfl⟩:=bx.1 hk
   rw[oQ m (aP.2 ⟨b0,hm⟩)]at hx
   have hfm:(fn fr' bW (.k m)).blk=some b0:=by simp only[fn,LV.blk];exact eO m b0 hm
   rcases kC.hp.own m b0 x hfm (gR m b0 hm).1 (gR m b0 hm).2 hx with h4|⟨q,bu,t,hq,hxq⟩
   ·exact .inl h4
   ·exfalso
    have hqf:=nt q bu hq
    have a7:m≠q:=fun he=>La m (aP.2 ⟨b0,hm⟩) (he▸hqf)
    have VX:ρ'.key q=some (x.1,t):=by rw[hext.fix q hqf];exact hxq
    have:=kC.hp.sep m q x (x.1,t) b0 bu hx VX a7 rfl hfm (by simp only[fn,LV.blk];exact hupd q bu hq) (gR m b0 hm).2 (Ld q bu hq).2
    rw[(gR m b0 hm).1]at this;cases this
  ·intro k b k' b' x x' hk kE a7 hx pZ he
   obtain⟨m,b0,hm,rfl,rfl⟩:=bx.1 hk
   obtain⟨m',b0',C5,rfl,rfl⟩:=bx.1 kE
   rw[oQ m (aP.2 ⟨b0,hm⟩)]at hx
   rw[oQ m' (aP.2 ⟨b0',C5⟩)]at pZ
   have:=kC.hp.sep m m' x x' b0 b0' hx pZ (fun h=>a7 (by rw[h])) he (by simp only[fn,LV.blk];exact eO m b0 hm) (by simp only[fn,LV.blk];exact eO m' b0' C5) (gR m b0 hm).2 (gR m' b0' C5).2
   rw[(gR m b0 hm).1]at this;cases this
  ·intro b o hb
   rcases hext.aT b o hb with h4|h4
   ·exact .inl h4
   ·refine .inr ⟨h4,kC.hp.aT b o hb,fun k blk x hk hx he=> ?_⟩
    obtain⟨m,b0,hm,rfl,rfl⟩:=bx.1 hk
    rw[oQ m (aP.2 ⟨b0,hm⟩)]at hx
    have:=kC.hp.ep m b0 x (by simp only[fn,LV.blk];exact eO m b0 hm) (gR m b0 hm).1 (gR m b0 hm).2 hx
    rw[he]at this
    have fV:ρ'.aT b=some o:=hb
    rw[fV]at this;cases this
 cases e<;>simp only[Kj]at hK<;>simp only[bodyPost]
 ·split at hK
  ·rename_i ob l hl;exact fin ob l hl (b6 hK).1 (b6 hK).2
  ·exact hK.elim
 ·split at hK
  ·rename_i ob l hl;exact fin ob l hl (b6 hK).1 (b6 hK).2
  ·exact hK.elim
def ro (b:aA):aA:=⟨b.ty,false,b.data⟩
theorem mb.ro {ρ:bI} {w:World} {fk new:List (Nat×aA)} (hp:mb fk new ρ w):mb (fk.map fun x=>(x.1,ro x.2)) new ρ w:=by
 refine⟨fun k b hk=> ?_,fun k k' x x' b b' hk _ _ _ _ _ _ _=> ?_,hp.aT,fun k b x hk hw=> ?_,hp.fresh⟩
 ·obtain⟨⟨q,b0⟩,hq,he⟩:=List.mem_map.1 hk
  cases he
  exact hp.mj q b0 hq
 ·obtain⟨⟨q,b0⟩,hq,he⟩:=List.mem_map.1 hk
  cases he
  rfl
 ·obtain⟨⟨q,b0⟩,hq,he⟩:=List.mem_map.1 hk
  cases he
  cases hw
theorem af.rL {P:Program} {f:FuncId} {args:List SV} {fk:List (Nat×aA)} {c:SV} {new:List (Nat×aA)} (h:af P f args (fk.map fun x=>(x.1,ro x.2)) c new []):af P f args fk c new []:=by
 rcases h with⟨h1,h2⟩|h
 ·exact .inl ⟨h1,fun ρ w z hz hp=>h2 ρ w z hz hp.ro⟩
 ·exact .inr fun ρ w z hz hp=>h ρ w z hz hp.ro
end Go.Sx
namespace Go.Sx
def pz:List Nat→Nat
 |[]=>0
 |w::l=>w+4294967296*pz l
theorem jO:∀(f n:Nat),n≤f→pz (cH f n)=n∧(∀w∈cH f n,w<4294967296)∧(cH f n≠[]→(cH f n).getLast?≠some 0)∧(cH f n=[]↔n=0)
 |0,n,h=>by
  obtain rfl:n=0:=aa
  simp[cH,pz]
 |f+1,n,h=>by
  simp only[cH]
  by_cases hn:n=0
  ·simp[hn,pz]
  ·have ih:=jO f (n/4294967296) aa
   simp only[hn,if_false]
   refine⟨?_, ?_,fun _=> ?_,by simp⟩
   ·simp only[pz,ih.1];omega
   ·intro w hw
    rcases List.mem_cons.1 hw with rfl|hw
    ·omega
    ·exact ih.2.1 w hw
   ·by_cases hz:n/4294967296=0
    ·have:cH f (n/4294967296)=[]:=ih.2.2.2.2 hz
     rw[this]
     simp
     omega
    ·have a7:cH f (n/4294967296)≠[]:=fun he=>hz (ih.2.2.2.1 he)
     rw[List.getLast?_cons,Option.getD_of_ne_none (by simp[a7])]
     have:=ih.2.2.1 a7
     exact this
theorem qc (n:Nat):pz (words n)=n:=(jO n n (Nat.le_refl n)).1
theorem xq {n w:Nat} (h:w∈words n):w<4294967296:=(jO n n (Nat.le_refl n)).2.1 w h
theorem Jf {n:Nat}:words n=[]↔n=0:=(jO n n (Nat.le_refl n)).2.2.2
theorem zA {a b:Nat} (ha:a<4294967296) (hb:b<4294967296) (h:bC a=bC b):a=b:=by
 simp only[bC,List.cons.injEq,and_true]at h
 obtain⟨h1,h2,h3,h4⟩:=h
 have e:=fun(x y:Nat) (h:UInt8.ofNat x=UInt8.ofNat y)=>by
  have:=congrArg UInt8.toNat h
  simpa [UInt8.toNat_ofNat']using this
 have e1:=e _ _ h1;have e2:=e _ _ h2;have e3:=e _ _ h3;have e4:=e _ _ h4
 omega
theorem bytes_inj:∀(l m:List Nat),(∀w∈l,w<4294967296)→(∀w∈m,w<4294967296)→l.flatMap bC=m.flatMap bC→l=m
 |[],[],_,_,_=>rfl
 |[],y::m,_,_,h=>by simp[bC]at h
 |x::l,[],_,_,h=>by simp[bC]at h
 |x::l,y::m,hl,hm,h=>by
  simp only[List.flatMap_cons]at h
  have:=List.append_inj h (by simp[bC])
  rw[zA (hl x (List.mem_cons_self ..)) (hm y (List.mem_cons_self ..)) this.1,bytes_inj l m (fun w hw=>hl w (List.mem_cons_of_mem _ hw)) (fun w hw=>hm w (List.mem_cons_of_mem _ hw)) this.2]
theorem xr (n:Nat):(pX n).toList=if n<18446744073709551616 then[]else(words n).flatMap bC:=by
 unfold pX
 split
 ·rw[ByteArray.toList_eq];rfl
 ·rw[ByteArray.toList_eq]
theorem mw {n:Nat}:(pX n).toList=[]↔n<18446744073709551616:=by
 rw[xr]
 split
 ·simp[*]
 ·rename_i h
  refine iff_of_false (fun he=> ?_) h
  cases hw:words n with
  |nil=>have:=Jf.1 hw;omega
  |cons x l=>rw[hw]at he;simp[bC]at he
theorem nu (a b:Nat):((low a==low b)&&((pX a).toList==(pX b).toList))=decide (a=b):=by
 rw[Bool.eq_iff_iff]
 simp only[Bool.and_eq_true,beq_iff_eq,decide_eq_true_eq]
 constructor
 ·rintro⟨h1,h2⟩
  by_cases ha:a<18446744073709551616
  ·have hb:b<18446744073709551616:=mw.1 (h2▸mw.2 ha)
   simp only[low,ha,hb,if_true]at h1
   omega
  ·have hb:¬b<18446744073709551616:=fun hb=>ha (mw.1 (h2▸mw.2 hb))
   simp only[xr,ha,hb,if_false]at h2
   have:=bytes_inj _ _ (fun w=>xq) (fun w=>xq) h2
   rw[←qc a,←qc b,this]
 ·rintro rfl;exact⟨rfl,rfl⟩
def BL:TK→List Value→List Value→Option Bool
 |.int _,[.int k a],[.int k' b]=>if k=k' then some (a==b)else none
 |.bool,[.bool a],[.bool b]=>some (a==b)
 |.str,[.string a],[.string b]=>some (a.toList==b.toList)
 |_,_,_=>none
mutual
def xu (T:List (TypeId×TI)) (ef:List TypeId):Nat→TypeId→List Value→List Value→Option Bool
 |0,_,_,_=>none
 |f+1,t,xs,ys=>match df T t with
  |some ti=>match ti.kind with
   |.agg fs=>match ef.contains t with
    |true=>Jg T ef f fs xs ys
    |false=>none
   |k=>BL k xs ys
  |none=>none
def Jg (T:List (TypeId×TI)) (ef:List TypeId):Nat→List (Nat×TypeId×Nat)→List Value→List Value→Option Bool
 |0,_,_,_=>none
 |_+1,[],_,_=>some true
 |f+1,(off,t,n)::fs,xs,ys=>match xu T ef f t ((xs.drop off).take n) ((ys.drop off).take n),Jg T ef f fs xs ys with
  |some a,some b=>some (a&&b)
  |_,_=>none
end
def xv (P:Program) (ef:List TypeId):Prop:=∀t∈ef,P.stoodInHeld t=false∧(P.fieldsOf t).toList.all (fun f=>f.name != "_")=true
def PJ (ti:TI) (xs:List Value):Value:=match ti.kind with
 |.agg _=>.agg xs.toArray
 |_=>xs.headD undef
theorem DD {P:Program} {t:TypeId} {ti:TI} (ht:aE P t ti) {xs:Array Value} {off:Nat} (fG:ti.kind.isAgg=false→∃v,(xs.toList.drop off).take ti.size=[v]) (iB:∀n e,ti.kind≠ .arr n e) (w:World):
  (part t xs off).run P w= .ok (PJ ti ((xs.toList.drop off).take ti.size)) w:=by
 unfold part
 rw[Sem.run_bind,ht.isAgg]
 simp only[Result.andThen_ok]
 cases hk:ti.kind.isAgg with
 |true=>
  have:∃fs,ti.kind= .agg fs:=by
   cases hq:ti.kind<;>rw[hq]at hk<;>simp[TK.isAgg]at hk
   ·exact⟨_,rfl⟩
   ·exact absurd hq (iB _ _)
  obtain⟨fs,hfs⟩:=this
  simp only[if_true,Sem.run_bind,ht.sizeOf,Result.andThen_ok,Sem.run_pure,PJ,hfs]
  congr 2
  apply Array.ext'
  simp[List.take_drop]
 |false=>
  obtain⟨v,hv⟩:=fG hk
  have hg:xs[off]? =some v:=by
   have:((xs.toList.drop off).take ti.size)[0]? =some v:=by rw[hv];rfl
   rw[List.getElem?_take]at this
   split at this
   ·rw[List.getElem?_drop]at this
    simpa using this
   ·cases this
  simp only[Bool.false_eq_true,if_false,hg,Sem.run_pure,PJ]
  cases hq:ti.kind<;>rw[hq]at hk<;>simp[TK.isAgg]at hk<;>simp[hv]
theorem FU {P:Program} {t:TypeId} {d:Nat} {w:World} {k:TK} (hk:k.ok P t) {xs ys:List Value} {r:Bool} (h:BL k xs ys=some r):∃x y,xs=[x]∧ys=[y]∧(Op.equalIn (d+1) t x y).run P w= .ok r w:=by
 unfold BL at h
 split at h
 ·split at h
  ·rename_i hkk
   subst hkk
   simp only[Option.some.injEq]at h
   subst h
   exact⟨_,_,rfl,rfl,run_equalIn_int w d t _ _ _ _ hk⟩
  ·simp at h
 ·simp only[Option.some.injEq]at h
  subst h
  exact⟨_,_,rfl,rfl,run_equalIn_bool' w d t _ _ hk⟩
 ·simp only[Option.some.injEq]at h
  subst h
  exact⟨_,_,rfl,rfl,run_equalIn_string w d t _ _ hk⟩
 ·simp at h
mutual
theorem xw {P:Program} {T:List (TypeId×TI)} {ef:List TypeId} (hT:db P T) (hg:xv P ef):∀(f:Nat) (t:TypeId) (xs ys:List Value) (r:Bool),xu T ef f t xs ys=some r→∀(d:Nat) (w:World),f≤d→∃ti,df T t=some ti∧(∀n e,ti.kind≠ .arr n e)∧(ti.kind.isAgg=false→(∃v,xs=[v])∧∃v,ys=[v])∧(Op.equalIn d t (PJ ti xs) (PJ ti ys)).run P w= .ok r w
 |0,_,_,_,_,h,_,_,_=>by simp[xu]at h
 |f+1,t,xs,ys,r,h,d,w,hd=>by
  obtain⟨d,rfl⟩:∃d',d=d'+1:=⟨d - 1,aa⟩
  unfold xu at h
  split at h
  ·rename_i ti rv
   have hk:=(hT.get rv).kind
   refine⟨ti,rv, ?_⟩
   cases hq:ti.kind<;>rw[hq]at h hk<;>simp only at h
   case agg fs=>
    split at h
    ·rename_i hgood
     obtain⟨h1,h2,h3⟩:=hk
     obtain⟨g1,g2⟩:=hg t (by simpa using hgood)
     refine⟨by simp,by simp[TK.isAgg], ?_⟩
     simp only[PJ,hq]
     rw[run_equalIn_struct w d t _ _ h1 g1]
     exact DE hT hg f fs xs ys r h (P.fieldsOf t).toList h2 g2 d w aa
    ·simp at h
   case arr=>simp[BL]at h
   all_goals (obtain⟨x,y,rfl,rfl,h1⟩:=FU (d:=d) (w:=w) hk h;exact⟨by simp,fun _=>⟨⟨_,rfl⟩,⟨_,rfl⟩⟩,by simpa only[PJ,hq,List.headD_cons]using h1⟩)
  ·simp at h
theorem DE {P:Program} {T:List (TypeId×TI)} {ef:List TypeId} (hT:db P T) (hg:xv P ef):∀(f:Nat) (fs:List (Nat×TypeId×Nat)) (xs ys:List Value) (r:Bool),Jg T ef f fs xs ys=some r→
  ∀(l:List Field),l.map (fun f=>(f.offset,f.type,P.cellsOf f.type))=fs→l.all (fun f=>f.name != "_")=true→∀(d:Nat) (w:World),f≤d→(Op.eqFields d xs.toArray ys.toArray l).run P w= .ok r w
 |0,_,_,_,_,h,_,_,_,_,_,_=>by simp[Jg]at h
 |f+1,[],xs,ys,r,h,l,hl,_,d,w,_=>by
  simp only[Jg,Option.some.injEq]at h
  subst h
  obtain rfl:l=[]:=by simpa using hl
  simp[Op.eqFields]
 |f+1,(off,t,n)::fs,xs,ys,r,h,l,hl,hn,d,w,hd=>by
  cases l with
  |nil=>simp at hl
  |cons g l=>
   simp only[List.map_cons,List.cons.injEq,Prod.mk.injEq]at hl
   obtain⟨⟨rfl,rfl,rfl⟩,hl⟩:=hl
   simp only[List.all_cons,Bool.and_eq_true,bne_iff_ne,ne_eq]at hn
   unfold Jg at h
   split at h
   ·rename_i a b ha hb
    simp only[Option.some.injEq]at h
    subst h
    obtain⟨ti,h1,h2,h3,h4⟩:=xw hT hg f _ _ _ _ ha d w aa
    have ht:=hT.get h1
    have fG:P.cellsOf g.type=ti.size:=by
     obtain⟨i,z,e1,e2,_⟩:=ht.info
     simp[Program.cellsOf,e1,e2]
    rw[fG]at h3 h4
    have cf:=DE hT hg f fs xs ys b hb l hl hn.2 d w aa
    have p1:=DD ht (xs:=xs.toArray) (off:=g.offset) (fun hk=>(h3 hk).1) h2 w
    have p2:=DD ht (xs:=ys.toArray) (off:=g.offset) (fun hk=>(h3 hk).2) h2 w
    have Lf:¬g.name= "_" :=hn.1
    simp only[Op.eqFields,Lf,ne_eq,not_false_eq_true,if_true,Sem.run_bind,p1,p2,Result.andThen_ok,h4]
    cases a
    ·simp
    ·simp[cf]
   ·simp at h
end
def jl:SV→Option (List Value)
 |.nat n=>some (bH n)
 |.int z=>some (dv z)
 |.frac q=>some (bR q)
 |.agg cs=>flatL cs
 |_=>none
where flatL:List SV→Option (List Value)
 |[]=>some []
 |.val v::l=>(flatL l).map (v::·)
 |.nat n::l=>(flatL l).map (bH n++·)
 |.int z::l=>(flatL l).map (dv z++·)
 |.frac q::l=>(flatL l).map (bR q++·)
 |_=>none
theorem qu {ρ:bI}:∀{l:List SV} {cells:List Value} {z:List (List Value)},jl.flatL l=some cells→au ρ l z→z.flatten=cells
 |[],cells,z,h,hz=>by simp only[jl.flatL,Option.some.injEq]at h;simp only[au]at hz;subst h;subst hz;rfl
 |c::l,cells,z,h,hz=>by
  simp only[au]at hz
  obtain⟨x,r,rfl,h1,h2⟩:=hz
  cases c<;>simp only[jl.flatL,Option.map_eq_some_iff,reduceCtorEq]at h<;>obtain⟨m,hm,rfl⟩:=h<;>simp only[aG]at h1<;>have ih:=qu hm h2
  case val=>obtain⟨rfl,_⟩:=h1;simp[ih]
  all_goals (subst h1;simp[ih])
theorem iE {ρ:bI} {c:SV} {cells:List Value} {v:Value} (h:jl c=some cells) (hv:Has ρ c v):v= .agg cells.toArray:=by
 cases c<;>simp only[jl,Option.some.injEq,reduceCtorEq]at h<;>simp only[Has,aG]at hv<;>obtain⟨x,hx,rfl⟩:=hv<;>simp only[ct,SV.aU,Bool.false_eq_true,if_false]
 case agg=>obtain⟨z,h1,rfl⟩:=hx;rw[qu h h1]
 all_goals (subst h;subst hx;rfl)
section
variable {P:Program} {o:Oper} {ft:List (Nat×SV)} {fk:List (Nat×aA)} {c c':SV}
theorem kK {T:List (TypeId×TI)} {ef:List TypeId} {t t2:TypeId} {x y:Operand} {l l':List Value} {r:Bool} {fs:List (Nat×TypeId×Nat)} {ti:TI} (hT:db P T) (hg:xv P ef) (ho:o.op= .binOp .eql t x y t2) (hx:aZ ft x c) (hy:aZ ft y c')
  (hl:jl c=some l) (ql:jl c'=some l') (rv:df T t=some ti) (hk:ti.kind= .agg fs) (hr:xu T ef 10 t l l'=some r) (hgd:P.eqGuardType P.depth t=false):bL P o ft fk (.val (.bool r)) [] []:=
 bo fun ρ a w hp=>by
  have e1:=iE hl (hx ρ a hp.dj)
  have e2:=iE ql (hy ρ a hp.dj)
  obtain⟨ti',h1,_,_,h4⟩:=xw hT hg 10 t l l' r hr 10000 w aa
  rw[rv]at h1
  cases h1
  simp only[PJ,hk]at h4
  refine⟨_, ?_,bS rfl⟩
  simp only[execOp,ho,e1,e2,Sem.run_bind,run_eqGuard_agg w .eql t x y _ _ hgd,Result.andThen_ok,run_eql_struct,h4,Sem.run_pure]
theorem xx {T:List (TypeId×TI)} {ef:List TypeId} {t t2:TypeId} {x y:Operand} {l l':List Value} {r:Bool} {fs:List (Nat×TypeId×Nat)} {ti:TI} (hT:db P T) (hg:xv P ef) (ho:o.op= .binOp .neq t x y t2) (hx:aZ ft x c) (hy:aZ ft y c')
  (hl:jl c=some l) (ql:jl c'=some l') (rv:df T t=some ti) (hk:ti.kind= .agg fs) (hr:xu T ef 10 t l l'=some r) (hgd:P.eqGuardType P.depth t=false):bL P o ft fk (.val (.bool (!r))) [] []:=
 bo fun ρ a w hp=>by
  have e1:=iE hl (hx ρ a hp.dj)
  have e2:=iE ql (hy ρ a hp.dj)
  obtain⟨ti',h1,_,_,h4⟩:=xw hT hg 10 t l l' r hr 10000 w aa
  rw[rv]at h1
  cases h1
  simp only[PJ,hk]at h4
  refine⟨_, ?_,bS rfl⟩
  simp only[execOp,ho,e1,e2,Sem.run_bind,run_eqGuard_agg w .neq t x y _ _ hgd,Result.andThen_ok,run_neq_struct,h4,Sem.run_pure]
end
section
variable {P:Program} {o:Oper} {ft fr:List (Nat×SV)} {fk:List (Nat×aA)} {c c':SV}
theorem DF {f:FuncId} {xs ys:Array Operand} {l m:List SV} (ho:o.op= .makeFunc (.func f) xs ys) (hx:KC fr xs.toList=some l) (hy:KC fr ys.toList=some m):bL P o fr fk (.clo f l m) [] []:=
 bo fun ρ a w hp=>by
  obtain⟨z,h1,h2⟩:=wY hx ρ a hp.dj
  obtain⟨y,h3,h4⟩:=wY hy ρ a hp.dj
  refine⟨.func (.func f) (xs.map (Act.eval a)) (ys.map (Act.eval a)),by simp[execOp,ho,Instr.makeFunc], ?_⟩
  simp only[Has,aG]
  refine⟨_,⟨z,y,h1,h3,rfl⟩, ?_⟩
  simp only[ct,SV.aU,if_true,List.headD_cons,←h2,←h4]
  congr 1<;>(apply Array.ext';simp)
theorem dZ {t e:TypeId} {x ix:Operand} {ti te:TI} {n:Nat} {kd kd':IntKind} {j:Int} {l:List Value} {v:Value} (ho:o.op= .index t x ix) (hx:aZ ft x c) (hl:jl c=some l) (hi:aZ ft ix (.val (.int kd j)))
  (ht:aE P t ti) (hk:ti.kind= .arr n e) (he:aE P e te) (SB:te.kind= .int kd') (hs:te.size=1) (h0:0≤j) (hj:j<n) (hv:l[j.toNat]? =some v) (uh:v.oneCell'=true):bL P o ft fk (.val v) [] []:=
 bo fun ρ a w hp=>by
  have e1:=iE hl (hx ρ a hp.dj)
  have e2:=aJ (hi ρ a hp.dj)
  have hu:=ht.kind;rw[hk]at hu
  have hue:=he.kind;rw[SB]at hue
  refine⟨v, ?_,bS uh⟩
  have aI:0≤j∧j<(n:Int):=⟨h0,hj⟩
  have bW:(part e l.toArray j.toNat).run P w= .ok v w:=by
   unfold part
   rw[Sem.run_bind,he.isAgg]
   simp[SB,TK.isAgg,hv]
  simp only[execOp,ho,Instr.index,e1,e2,asIntOf,Sem.run_bind,Sem.run_pure,Result.andThen_ok,run_underlying hu,aI,and_self,if_true,he.sizeOf,hs,Nat.mul_one,bW]
end
theorem eb {c d:SV} {l:List Value} (hc:jl c=some l) (hd:jl d=some l) (hnc:∀cs,d≠ .agg cs):aq c d:=by
 intro ρ v h
 have:=iE hc h
 subst this
 cases d<;>simp only[jl,Option.some.injEq,reduceCtorEq]at hd
 case agg cs=>exact absurd rfl (hnc cs)
 all_goals (subst hd;simp only[Has,aG];exact⟨_,rfl,by simp[ct,SV.aU]⟩)
mutual
def adb:SV→SV→Prop
 |.cC l,.cC m=>SG l m
 |c,d=>∀ρ x,aG ρ c x→aG ρ d x∧c.aU=d.aU
def SG:List SV→List SV→Prop
 |[],[]=>True
 |c::l,d::m=>adb c d∧SG l m
 |_,_=>False
end
theorem DG {a b a' b':SV} (h1:∀ρ x,aG ρ a x→aG ρ a' x) (i1:a.aU=a'.aU) (h2:∀ρ x,aG ρ b x→aG ρ b' x) (i2:b.aU=b'.aU):aq (.cC [a,b]) (.cC [a',b']):=by
 intro ρ v h
 simp only[Has,au]at h ⊢
 obtain⟨_,⟨x,_,rfl,hx,y,_,rfl,hy,rfl⟩,rfl⟩:=h
 exact⟨_,⟨x,_,rfl,h1 ρ x hx,y,_,rfl,h2 ρ y hy,rfl⟩,by simp[ct,i1,i2]⟩
theorem vg {a b c a' b' c':SV} (h1:∀ρ x,aG ρ a x→aG ρ a' x) (i1:a.aU=a'.aU) (h2:∀ρ x,aG ρ b x→aG ρ b' x) (i2:b.aU=b'.aU) (h3:∀ρ x,aG ρ c x→aG ρ c' x) (i3:c.aU=c'.aU):aq (.cC [a,b,c]) (.cC [a',b',c']):=by
 intro ρ v h
 simp only[Has,au]at h ⊢
 obtain⟨_,⟨x,_,rfl,hx,y,_,rfl,hy,z,_,rfl,hz,rfl⟩,rfl⟩:=h
 exact⟨_,⟨x,_,rfl,h1 ρ x hx,y,_,rfl,h2 ρ y hy,z,_,rfl,h3 ρ z hz,rfl⟩,by simp[ct,i1,i2,i3]⟩
theorem Jh {c d:SV} {l:List Value} (hc:jl c=some l) (hd:jl d=some l) (hnc:∀cs,d≠ .agg cs):∀ρ x,aG ρ c x→aG ρ d x:=by
 intro ρ x h
 have hx:x=l:=by
  cases c<;>simp only[jl,Option.some.injEq,reduceCtorEq]at hc<;>simp only[aG]at h
  case agg cs=>obtain⟨z,h1,rfl⟩:=h;exact qu hc h1
  all_goals (subst hc;exact h)
 subst hx
 cases d<;>simp only[jl,Option.some.injEq,reduceCtorEq]at hd
 case agg cs=>exact absurd rfl (hnc cs)
 all_goals (subst hd;simp only[aG])
theorem wrap_u64 {n:Int} (h0:0≤n) (h:n<18446744073709551616):IntKind.u64.wrap n=n:=by simp[IntKind.wrap,IntKind.bits,IntKind.signed];omega
theorem wrap_u32 {n:Int} (h0:0≤n) (h:n<4294967296):IntKind.u32.wrap n=n:=by simp[IntKind.wrap,IntKind.bits,IntKind.signed];omega
theorem wrap_i64 {n:Int} (h0: -9223372036854775808≤n) (h:n<9223372036854775808):IntKind.i64.wrap n=n:=by
 simp only[IntKind.wrap,IntKind.bits,IntKind.signed,Bool.true_and]
 split<;>simp_all<;>omega
theorem pA (n:Int):IntKind.u64.wrap n=n % 18446744073709551616:=by simp[IntKind.wrap,IntKind.bits,IntKind.signed]
theorem wrap_u32' (n:Int):IntKind.u32.wrap n=n % 4294967296:=by simp[IntKind.wrap,IntKind.bits,IntKind.signed]
theorem ca {n:Nat} (h:n<18446744073709551616):low n=n:=by simp[low,h]
theorem Ji {n:Nat} (h:n<18446744073709551616):pX n=ByteArray.empty:=by simp[pX,h]
theorem kL {n:Nat} (h:n<18446744073709551616):bH n=[.int .u64 n,.string .empty]:=by simp[bH,ca h,Ji h]
theorem Lg {x y:Nat} (hx:x<18446744073709551616) (hy:y<18446744073709551616):Bo .u64 x y=((x&&& y:Nat):Int):=by
 have:x&&& y<18446744073709551616:=Nat.lt_of_le_of_lt Nat.and_le_left hx
 show IntKind.u64.wrap (((BitVec.ofInt 64 x&&& BitVec.ofInt 64 y).toNat:Nat):Int)=_
 rw[BitVec.toNat_and,BitVec.ofInt_natCast,BitVec.ofInt_natCast,BitVec.toNat_ofNat,BitVec.toNat_ofNat,Nat.mod_eq_of_lt (a:=x) aa,Nat.mod_eq_of_lt (a:=y) aa]
 exact wrap_u64 aa aa
theorem DH {x y:Nat} (hx:x<4294967296) (hy:y<4294967296):Bo .u32 x y=((x&&& y:Nat):Int):=by
 have:x&&& y<4294967296:=Nat.lt_of_le_of_lt Nat.and_le_left hx
 show IntKind.u32.wrap (((BitVec.ofInt 32 x&&& BitVec.ofInt 32 y).toNat:Nat):Int)=_
 rw[BitVec.toNat_and,BitVec.ofInt_natCast,BitVec.ofInt_natCast,BitVec.toNat_ofNat,BitVec.toNat_ofNat,Nat.mod_eq_of_lt (a:=x) aa,Nat.mod_eq_of_lt (a:=y) aa]
 exact wrap_u32 aa aa
theorem vW {x y:Nat} (hx:x<18446744073709551616) (hy:y<18446744073709551616):Fw .u64 x y=((x|||y:Nat):Int):=by
 have:x|||y<2^64:=Nat.or_lt_two_pow hx hy
 show IntKind.u64.wrap (((BitVec.ofInt 64 x|||BitVec.ofInt 64 y).toNat:Nat):Int)=_
 rw[BitVec.toNat_or,BitVec.ofInt_natCast,BitVec.ofInt_natCast,BitVec.toNat_ofNat,BitVec.toNat_ofNat,Nat.mod_eq_of_lt (a:=x) aa,Nat.mod_eq_of_lt (a:=y) aa]
 exact wrap_u64 aa aa
theorem gS (k:IntKind) {x s:Nat} (hs:s≤k.bits):jz k x s=((x/2^s:Nat):Int):=by
 simp only[jz,Int.toNat_natCast,Nat.min_eq_left hs]
 rw[Int.fdiv_eq_ediv_of_nonneg _ (by exact Int.le_of_lt (Int.pow_pos aH))]
 simp
end Go.Sx
namespace Go.Sx
def sz (n:Nat):Nat:=if n=0 then 0 else Nat.log2 n+1
theorem dV {n k:Nat}:sz n≤k↔n<2^k:=by
 unfold sz
 split
 ·rename_i h;subst h;simp[Nat.two_pow_pos]
 ·rename_i h
  rw[←Nat.log2_lt h]
  omega
theorem Hm (n:Nat):n<2^sz n:=dV.1 (Nat.le_refl _)
theorem eJ {a b:Nat} (h:a≤b):sz a≤sz b:=dV.2 (Nat.lt_of_le_of_lt h (Hm b))
theorem xy {a b k:Nat} (ha:sz a≤k) (hb:sz b≤k):sz (a+b)≤k+1:=by
 rw[dV]at*
 rw[Nat.pow_succ]
 omega
theorem fD (a b:Nat):sz (a*b)≤sz a+sz b:=by
 rw[dV,Nat.pow_add]
 rcases Nat.eq_zero_or_pos a with h|h
 ·subst h;rw[Nat.zero_mul];exact Nat.mul_pos (Nat.two_pow_pos _) (Nat.two_pow_pos _)
 ·exact Nat.mul_lt_mul_of_lt_of_le (Hm a) (Nat.le_of_lt (Hm b)) (by have:=Hm b;omega)
theorem FV (a b:Nat):sz (a/b)≤sz a:=eJ (Nat.div_le_self a b)
theorem VY (a b:Nat):sz (a % b)≤sz a:=eJ (Nat.mod_le a b)
theorem Lh {n:Nat} (h:n≠0):1≤sz n:=by unfold sz;rw[if_neg h];omega
theorem VZ:sz 1=1:=aF
theorem Li {a b:Nat} (h:b≠0):sz (Nat.gcd a b)≤sz b:=eJ (Nat.le_of_dvd (Nat.pos_of_ne_zero h) (Nat.gcd_dvd_right a b))
theorem ah {b w w':Bool} {A B:Prop} (h:b=w) (hn:(w==w')=false) (a:A):(b=w→A)∧(b=w'→B):=⟨fun _=>a,fun h'=>absurd (h.symm.trans h') (by simpa using hn)⟩
theorem ag {b w w':Bool} {A B:Prop} (h:b=w') (hn:(w==w')=false) (a:B):(b=w→A)∧(b=w'→B):=⟨fun h'=>absurd (h'.symm.trans h) (by simpa using hn),fun _=>a⟩
theorem aB {ops:List Oper} {fs:List fC} {A:Prop} (ht:indep ops fs=true) (h:A):(indep ops fs=true)∧A:=And.intro ht h
section
variable {P:Program} {o:Oper} {ft:List (Nat×SV)} {fk:List (Nat×aA)}
theorem Lj {x y z:Operand} {c:SV} (ho:o.op= .pick x y z) (hx:aZ ft x (.val (.bool true))) (hy:aZ ft y c):bL P o ft fk c [] []:=lO ho hx (fun _=>hy) (fun hb=>by cases hb) rfl (c2:=.any)
theorem Lk {x y z:Operand} {c:SV} (ho:o.op= .pick x y z) (hx:aZ ft x (.val (.bool false))) (hy:aZ ft z c):bL P o ft fk c [] []:=lO ho hx (fun hb=>by cases hb) (fun _=>hy) rfl (c1:=.any)
end
end Go.Sx
namespace Go.Sx
open Go.ChangeShapes
theorem af.calls {P:Program} {f:FuncId} {args:List SV} {fk:List (Nat×aA)} {c:SV} {new upd:List (Nat×aA)} (hf:De P f) (h:af P f args fk c new upd)
  {ρ:bI} {w:World} {z:List (List Value)} (hz:au ρ args z) (hp:mb fk new ρ w):
  Calls P f (List.zipWith ct args z).toArray w fun e w'=>∃v ρ',e= .returned v∧jb ρ w c new upd v ρ' w':=by
 rcases h with⟨_,h⟩|h
 ·exact h ρ w z hz hp
 ·obtain⟨v,ρ',w',h1,_⟩:=h ρ w z hz hp
  obtain⟨fn,hfn,hn,hb⟩:=hf
  have hn':¬fn.name= "runtime.NumGoroutine" :=by simpa using hn
  have fV:¬fn.body=none:=fun h=>by rw[h]at hb;cases hb
  simp[callFunc,hfn,hn',fV]at h1
theorem cell_of_heap {w W:World} {g:Nat} (h:w.heap[g]? =W.heap[g]?) (j:Nat):w.cell? ⟨g,j,none⟩=W.cell? ⟨g,j,none⟩:=by
 simp only[World.cell?,h]
theorem PK {W:World} (h:wR W):
  ir (fun b=>if ml.any (fun t=>t.1==b)then W.heap[b]? else none):=by
 intro g kd l hm
 obtain⟨a7,hc,ty,fz,hx⟩:=h g kd l hm
 have oJ:ml.any (fun t=>t.1==g)=true:=List.any_eq_true.2 ⟨_,hm,by simp⟩
 cases l with
 |nil=>exact absurd rfl a7
 |cons x l=>
  have h0:=hc 0 x rfl
  cases ho:W.heap[g]? with
  |none=>simp[World.cell?,ho]at h0
  |some o=>
   refine⟨o,by simp[oJ,ho],fun w hw j y hy=> ?_,ty,fz,by rw[ho]at hx;exact Option.some.inj hx⟩
   rw[cell_of_heap (W:=W) (by rw[hw,ho]) j]
   exact hc j y hy
theorem qe {H:Type} {enc:TypeId×Value→H} {P:Program} (hl:laidOutB P=true) {W W':World} (hb:RowKit.Below W.heap.size W W'):
  ∀(ts:List TypeId) (vs:List Value) (ds:List (DataW H)) (ps:List MemPlace),ts.all (fun t=>P.readableRec t&&decide (t<P.types.size))=true→DataW.TrodAll enc P W 0 (fun _=>true) true ts vs ds ps→(∀p∈ps,p.block<W.heap.size)→
   DataW.TrodAll enc P W' 0 (fun b=>decide (b<W.heap.size)) true ts vs ds ps
 |[],[],[],_,_,h,_=>h
 |t::ts,v::vs,d::ds,ps,hr,h,aI=>by
  obtain⟨p,q,h1,h2,rfl⟩:=h
  simp only[List.all_cons,Bool.and_eq_true,decide_eq_true_eq]at hr
  exact⟨p,q,RowKit.Below.trod hl hr.1.1 hr.1.2 h1 hb (fun x hx=>aI x (List.mem_append.2 (.inl hx))),qe hl hb ts vs ds q hr.2 h2 (fun x hx=>aI x (List.mem_append.2 (.inr hx))),rfl⟩
 |[],_::_,_,_,_,h,_=>h.elim
 |[],[],_::_,_,_,h,_=>h.elim
 |_::_,[],_,_,_,h,_=>h.elim
 |_::_,_::_,[],_,_,h,_=>h.elim
theorem Ll {H:Type} {enc:TypeId×Value→H} {P:Program} {f:Func} {s:ChangeSpec} {W W':World} {args:Array Value} {ds gs:List (DataW H)} {before:List MemPlace} {tb:TypeId}
  (hl:laidOutB P=true) (hr:f.params.toList.all (fun t=>P.readableRec t&&decide (t<P.types.size))=true) (hv:s.vars=[]) (VQ:f.resultTypes= #[tb]) (htb:P.underlying tb=some .bool)
  (hW:DataW.Whole enc P f.params.toList s.vars false W args.toList ds gs before) (hfn:(s.fn H (ds++gs)).results=[.lit (.bool true)]∧(s.fn H (ds++gs)).args=ds∧(s.fn H (ds++gs)).vars=[])
  (hb:RowKit.Below W.heap.size W W'):s.post enc P f false true false false W args (.bool true) W':=by
 have aI:=hW.lt
 have hW':=hW
 obtain⟨p,q,h1,h2,rfl,h3,h4⟩:=hW
 rw[hv]at h2
 obtain⟨rfl,rfl⟩:=trodVars_none h2
 rw[List.append_nil]at aI
 refine⟨ds,[],p++[],[],p,[],hW', ?_, ?_, ?_,hb.frame _,fun h=>by cases h⟩
 ·rw[hfn.1,VQ]
  exact trodAll_cons_mk (RowKit.shut_bool htb true) trodAll_mk0
 ·rw[hfn.2.1]
  exact qe hl hb _ _ _ _ hr h1 aI
 ·rw[hv,hfn.2.2]
  exact rfl
end Go.Sx
namespace Go.Sx
theorem dG.of {E:Env} (hE:E.OK) {c:Code} {K:bK} {fr:List (Nat×SV)} {hp:List (Nat×aA)} (h:BG E c K fr hp):dG E c K fr hp:=⟨iC hE c K fr hp h⟩
theorem cn {E:Env} (hE:E.OK) {c:Code} {K:bK} {fr:List (Nat×SV)} {hp:List (Nat×aA)} (σ:Nat→Nat) (ts ks:List Nat) (I:Nat→List (Nat×SV)→List (Nat×aA)→Prop) (m:Nat)
  (h0:gP E.fx σ ts ks fr hp=true) (hI:I m (eW σ fr ts) (gv σ hp ks))
  (h:∀m fr hp,I m fr hp→dG E c (fun e fr' bW=>match e with
   |.normal=>∃m' σ ts ks,m'<m∧gP E.fx σ ts ks fr' bW=true∧I m' (eW σ fr' ts) (gv σ bW ks)
   |e=>K e fr' bW) fr hp):dG E (.loop c) K fr hp:=by
 refine⟨?_⟩
 refine vU hE σ ts ks h0 (BH (fun m fr hp=>∃fr0 vV,(∀a w,RR E (fn fr hp) a w→RR E (fn fr0 vV) a w)∧I m fr0 vV) m ⟨_,_,fun _ _ h=>h,hI⟩ ?_)
 rintro m fr hp ⟨fr0,vV,hw,hI⟩ a w hR
 refine Code.wpIn_mono ?_ ((h m fr0 vV hI).run a w (hw a w hR))
 rintro e a' w' ⟨fr',bW,h1,h2⟩
 cases e with
 |normal=>
  obtain⟨m',σ,ts,ks,aI,hok,Hl⟩:=h1
  exact⟨fr',bW,⟨m',aI,_,_,fun a w hR=>py hE hok hR,Hl⟩,h2⟩
 |_=>exact⟨fr',bW,h1,h2⟩
def gT:Data→Option (List SV)
 |.ints kd xs=>some (xs.map fun x=>.val (.int kd x))
 |.cd xs=>some (xs.map .frac)
 |.seq _ xs=>some xs
 |_=>none
theorem xz {ρ:bI}:∀(qs:List Rat),au ρ (qs.map .frac) (qs.map bR)
 |[]=>by simp[au]
 |q::qs=>by simp only[List.map_cons,au];exact⟨_,_,rfl,by simp[aG],xz qs⟩
theorem Ag {ρ:bI} {kd:IntKind}:∀(xs:List Int),au ρ (xs.map fun x=>.val (.int kd x)) (xs.map fun x=>[.int kd x])
 |[]=>by simp[au]
 |x::xs=>by simp only[List.map_cons,au];exact⟨_,_,rfl,by simp[aG,Value.oneCell'],Ag xs⟩
theorem Jj {ρ:bI} {d:Data} {w:Nat} {xs:List SV} {vs:List Value} (h:gT d=some xs) (hw:cW d=some w) (hd:cQ ρ d vs):∃z,au ρ xs z∧vs=z.flatten∧∀x∈xs,x.width=w:=by
 cases d<;>simp only[gT,Option.some.injEq,reduceCtorEq]at h<;>simp only[cW,Option.some.injEq]at hw<;>subst h<;>subst hw<;>simp only[cQ]at hd
 case ints kd xs=>
  subst hd
  exact⟨_,Ag xs,by rw[←List.flatMap_def,List.map_eq_flatMap],fun x hx=>by obtain⟨q,_,rfl⟩:=List.mem_map.1 hx;rfl⟩
 case cd xs=>
  subst hd
  exact⟨_,xz xs,by rw[List.flatMap_def],fun x hx=>by obtain⟨q,_,rfl⟩:=List.mem_map.1 hx;rfl⟩
 case seq=>obtain⟨z,h1,h2⟩:=hd;exact⟨z,au.mono (ow ρ ρ.b7) _ _ h1,h2⟩
structure Up (ρ:bI) (w:World) (B:Nat) (i:Nat→Option Obj):Prop where
 le:∀b o,ρ.aT b=some o→i b=some o
 new:∀b o,i b=some o→ρ.aT b=some o∨(B≤b∧w.heap[b]? =some o)
structure Holds (hp:List (Nat×aA)) (ρ:bI) (w:World) (B:Nat):Prop where
 blk:∀k b,find hp k=some b→gK ρ w k b
 own:∀k b x,find hp k=some b→b.wr=true→b.data.live=true→ρ.key k=some x→B≤x.1
 aT:∀b o,ρ.aT b=some o→w.heap[b]? =some o
def dM (hp:List (Nat×aA)) (c d:SV):Prop:=c.aU=d.aU∧∀ρ w B,Holds hp ρ w B→∀x,aG ρ c x→∀i,Up ρ w B i→∃i',Up ρ w B i'∧(∀b o,i b=some o→i' b=some o)∧∃hg,aG (cE i' hg) d x
def nv (hp:List (Nat×aA)) (c d:List SV):Prop:=(∀z,List.zipWith ct c z=List.zipWith ct d z)∧∀ρ w B,Holds hp ρ w B→∀z,au ρ c z→∀i,Up ρ w B i→∃i',Up ρ w B i'∧(∀b o,i b=some o→i' b=some o)∧∃hg,au (cE i' hg) d z
def ov (sv:SV) (hp:List (Nat×aA)) (c:SV):Prop:=∀(ρ:bI) (w:World) (B:Nat),(∀k b,find hp k=some b→gK ρ w k b)→(∀k b x,find hp k=some b→b.wr=true→b.data.live=true→ρ.key k=some x→B≤x.1)→(∀b o,ρ.aT b=some o→w.heap[b]? =some o)→
 ∀v,Has ρ sv v→∃i hg,(∀b o,ρ.aT b=some o→i b=some o)∧(∀b o,i b=some o→ρ.aT b=some o∨(B≤b∧w.heap[b]? =some o))∧Has (cE i hg) c v
theorem Up.b7 {ρ:bI} {w:World} {B:Nat} {i:Nat→Option Obj} (h:Up ρ w B i):ir i:=ρ.b7.mono h.le
theorem Up.refl (ρ:bI) (w:World) (B:Nat):Up ρ w B ρ.aT:=⟨fun _ _ h=>h,fun _ _ h=>.inl h⟩
theorem FW {c d:SV} (h:c.aU=d.aU) (x:List Value):ct c x=ct d x:=by simp[ct,h]
theorem dM.bA {hp:List (Nat×aA)} {c:SV} (h:bA c=true):dM hp c c:=
 ⟨rfl,fun ρ _ _ _ x hx i hi=>⟨i,hi,fun _ _ h=>h,hi.b7,lH (ρ:=ρ) (ρ':=cE i hi.b7) hi.le c x h hx⟩⟩
theorem dM.via {hp:List (Nat×aA)} {c d e:SV} (h:∀ρ x,aG ρ c x→aG ρ d x) (h1:c.aU=d.aU) (hd:dM hp d e):dM hp c e:=
 ⟨h1.trans hd.1,fun ρ w B hh x hx i hi=>hd.2 ρ w B hh x (h ρ x hx) i hi⟩
theorem nv.nil {hp:List (Nat×aA)}:nv hp [] []:=⟨fun z=>rfl,fun ρ w B _ z hz i hi=>⟨i,hi,fun _ _ h=>h,hi.b7,by simpa only[au]using hz⟩⟩
theorem nv.cons {hp:List (Nat×aA)} {c d:SV} {l m:List SV} (h:dM hp c d) (hl:nv hp l m):nv hp (c::l) (d::m):=by
 refine⟨fun z=>by cases z with|nil=>rfl|cons x z=>simp only[List.zipWith_cons_cons,hl.1 z,FW h.1],fun ρ w B hh z hz i hi=> ?_⟩
 simp only[au]at hz
 obtain⟨x,r,rfl,h1,h2⟩:=hz
 obtain⟨i1,u1,e1,g1,k1⟩:=h.2 ρ w B hh x h1 i hi
 obtain⟨i2,u2,e2,g2,k2⟩:=hl.2 ρ w B hh r h2 i1 u1
 exact⟨i2,u2,fun b o hb=>e2 b o (e1 b o hb),g2,by simp only[au];exact⟨x,r,rfl,aG.mono (qZ e2 g1 g2) _ _ k1,k2⟩⟩
theorem dM.agg {hp:List (Nat×aA)} {l m:List SV} (h:nv hp l m):dM hp (.agg l) (.agg m):=
 ⟨rfl,fun ρ w B hh x hx i hi=>by
  simp only[aG]at hx
  obtain⟨z,h1,rfl⟩:=hx
  obtain⟨i',u,e,g,k⟩:=h.2 ρ w B hh z h1 i hi
  exact⟨i',u,e,g,by simp only[aG];exact⟨z,k,rfl⟩⟩⟩
theorem ov.one {hp:List (Nat×aA)} {c d:SV} (hc:bp c=true) (hd:bp d=true) (h:dM hp c d):ov c hp d:=by
 intro ρ w B h1 h2 h3 v hv
 obtain⟨x,hx,rfl⟩:=(jN hc).1 hv
 obtain⟨i,u,_,g,k⟩:=h.2 ρ w B ⟨h1,h2,h3⟩ x hx ρ.aT (Up.refl ρ w B)
 exact⟨i,g,u.le,u.new,(jN hd).2 ⟨x,k,FW h.1 x⟩⟩
theorem ov.cC {hp:List (Nat×aA)} {l m:List SV} (h:nv hp l m):ov (.cC l) hp (.cC m):=by
 intro ρ w B h1 h2 h3 v hv
 simp only[Has]at hv
 obtain⟨z,hz,rfl⟩:=hv
 obtain⟨i,u,_,g,k⟩:=h.2 ρ w B ⟨h1,h2,h3⟩ z hz ρ.aT (Up.refl ρ w B)
 exact⟨i,g,u.le,u.new,by simp only[Has];exact⟨z,k,by rw[h.1]⟩⟩
theorem ov.nx {hp:List (Nat×aA)} {c d:SV} (h:aq c d) (hk:bA d=true):ov c hp d:=by
 intro ρ w B h1 h2 h3 v hv
 exact⟨ρ.aT,ρ.b7,fun _ _ h=>h,fun _ _ h=>.inl h,nc (ρ:=ρ) (ρ':=cE ρ.aT ρ.b7) (fun _ _ h=>h) d v hk (h ρ v hv)⟩
theorem Up.add {ρ:bI} {w:World} {B b:Nat} {o:Obj} {i:Nat→Option Obj} (hi:Up ρ w B i) (hm:∀b o,ρ.aT b=some o→w.heap[b]? =some o) (hb:B≤b) (ho:w.heap[b]? =some o):
  Up ρ w B (fun c=>if c=b then some o else i c)∧∀c p,i c=some p→(if c=b then some o else i c)=some p:=by
 have h2:∀c p,i c=some p→(if c=b then some o else i c)=some p:=by
  intro c p hc
  by_cases h:c=b
  ·subst h
   rw[if_pos rfl]
   rcases hi.new _ _ hc with h1|h1
   ·rw[hm _ _ h1]at ho;cases ho;rfl
   ·rw[h1.2]at ho;cases ho;rfl
  ·rw[if_neg h];exact hc
 refine⟨⟨fun c p hc=>h2 c p (hi.le c p hc),fun c p hc=> ?_⟩,h2⟩
 by_cases h:c=b
 ·subst h
  simp only[if_true,Option.some.injEq]at hc
  subst hc
  exact .inr ⟨hb,ho⟩
 ·simp only[if_neg h]at hc
  exact hi.new c p hc
theorem BM {xs:List SV} (h:aV xs=true) (l n:Nat):aV (fM xs l n)=true:=by
 have key:∀xs:List SV,aV xs=true↔∀x∈xs,bA x=true:=by
  intro xs
  induction xs with
  |nil=>simp[aV]
  |cons x xs ih=>simp[aV,ih]
 rw[key]at h ⊢
 exact fun x hx=>h x (List.mem_of_mem_drop (List.mem_of_mem_take hx))
theorem bT {α:Type} {f:α→SV} (h:∀x,bA (f x)=true) (l:List α):aV (l.map f)=true:=by
 induction l with
 |nil=>rfl
 |cons x l ih=>simp[aV,h,ih]
theorem qv {k w n i:Nat} {ty:TypeId} {d:Data} {xs:List SV} {ρ:bI} {W:World} {x:List Value} (hb:gK ρ W k ⟨ty,true,d⟩) (he:gT d=some xs) (hw:cW d=some w) (od:aV xs=true)
  (hn:i+n≤xs.length) (hx:aG ρ (.aK k w i n) x):
  (n=0∧∃a,x=[.slice a 0 0])∨∃b t o,ρ.key k=some (b,t)∧W.heap[b]? =some o∧∀j hg,(∀b o,ρ.aT b=some o→j b=some o)→j b=some o→aG (cE j hg) (ed w (fM xs i (i+n))) x:=by
 simp only[aG]at hx
 rcases hx with⟨b,t,cap,h1,h2,h3,rfl⟩|hx
 ·rcases hb with h0|⟨b',t',vs,ex,g1,g2,g3,g4,g5⟩|⟨g1,_⟩
  ·cases d<;>simp[Data.live,gT]at h0 he
  ·rw[h1]at g1
   cases g1
   rw[show({ty:=ty,wr:=true,data:=d}:aA).data.obj (vs++ex) ty= .cells (vs++ex).toArray ty (0,0)from Data.ck (by cases d<;>first|rfl|(simp[gT]at he)) _ _]at g2
   obtain⟨z,z1,rfl,z3⟩:=Jj he hw g3
   have pq:z.length=xs.length:=cJ z1
   have SC:=eR xs z z1 z3
   refine .inr ⟨b,t,_,h1,g2,fun j hg hj V0=> ?_⟩
   simp only[aG]
   refine .inr ⟨hg,b,cap,(z.drop i).take (i+n - i),(z.take i).flatten,(z.drop (i+n)).flatten++ex,ty,(0,0), ?_, ?_,fun y hy=>z3 y (List.mem_of_mem_drop (List.mem_of_mem_take hy)), ?_, ?_, ?_⟩
   ·show j b=_
    rw[V0]
    congr 3
    rw[←List.append_assoc,←List.append_assoc,←List.flatten_append,←List.flatten_append]
    congr 2
    have:z.drop (i+n)=(z.drop i).drop (i+n - i):=by rw[List.drop_drop];congr 1;omega
    rw[this,List.append_assoc,List.take_append_drop,List.take_append_drop]
   ·exact b5 (ρ:=ρ) (ρ':=cE j hg) hj _ _ (BM od i (i+n)) (iz _ (jX _ z1))
   ·rw[fM,List.length_take,List.length_drop];omega
   ·have zg:((z.take i).flatten).length=i*w:=by
     rw[aL (s:=w) _ (fun u hu=>SC u (List.mem_of_mem_take hu)),List.length_take,pq,Nat.min_eq_left aa]
    have ag4:(z.flatten++ex).length=((z.take i).flatten).length+(((z.drop i).take (i+n - i)).flatten++((z.drop (i+n)).flatten++ex)).length:=by
     rw[←List.length_append,←List.append_assoc,←List.append_assoc,←List.flatten_append,←List.flatten_append]
     congr 3
     have:z.drop (i+n)=(z.drop i).drop (i+n - i):=by rw[List.drop_drop];congr 1;omega
     rw[this,List.append_assoc,List.take_append_drop,List.take_append_drop]
    rw[g4,zg]at ag4
    rw[Nat.add_mul]at h3
    omega
   ·have zg:((z.take i).flatten).length=i*w:=by
     rw[aL (s:=w) _ (fun u hu=>SC u (List.mem_of_mem_take hu)),List.length_take,pq,Nat.min_eq_left aa]
    have CZ:(fM xs i (i+n)).length=n:=by rw[fM,List.length_take,List.length_drop];omega
    rw[zg,CZ]
  ·rw[h1]at g1;cases g1
 ·exact .inl hx
theorem dM.aK {hp:List (Nat×aA)} {k w n i:Nat} {ty:TypeId} {d:Data} {xs:List SV} (hf:find hp k=some ⟨ty,true,d⟩) (he:gT d=some xs) (hw:cW d=some w) (od:aV xs=true) (hn:i+n≤xs.length):
  dM hp (.aK k w i n) (ed w (fM xs i (i+n))):=by
 refine⟨rfl,fun ρ W B hh x hx i' hi=> ?_⟩
 have hl:d.live=true:=by cases d<;>simp[gT]at he<;>rfl
 rcases qv (hh.blk k _ hf) he hw od hn hx with⟨rfl,a,rfl⟩|⟨b,t,o,h1,h2,h3⟩
 ·exact⟨i',hi,fun _ _ h=>h,hi.b7,by simp only[aG];exact .inl ⟨by simp[fM],a,rfl⟩⟩
 ·obtain⟨u,xa⟩:=hi.add hh.aT (hh.own k _ _ hf rfl hl h1) h2
  exact⟨_,u,xa,u.b7,h3 _ u.b7 u.le (by simp)⟩
theorem gU {xs:List SV} {n:Nat} (h:n=xs.length):fM xs 0 (0+n)=xs:=by
 subst h;simp[fM]
abbrev bX {α:Type} (w:Nat) (f:α→SV) (xs:List α):SV:=ed w (xs.map f)
abbrev cD (qs:List Rat):SV:=bX 5 .frac qs
def iF (kd:IntKind) (x:Int):SV:=.val (.int kd x)
abbrev mc (kd:IntKind) (xs:List Int):SV:=bX 1 (iF kd) xs
theorem dM.cd {hp:List (Nat×aA)} {k n:Nat} {ty:TypeId} {qs:List Rat} (hf:find hp k=some ⟨ty,true,.cd qs⟩) (hn:n=qs.length):dM hp (.aK k 5 0 n) (cD qs):=by
 have:=dM.aK (i:=0) (n:=n) hf rfl rfl (bT (fun _=>rfl) qs) (by simp;omega)
 rwa [gU (by simp;omega)]at this
theorem dM.ints {hp:List (Nat×aA)} {k n:Nat} {ty:TypeId} {kd:IntKind} {xs:List Int} (hf:find hp k=some ⟨ty,true,.ints kd xs⟩) (hn:n=xs.length):dM hp (.aK k 1 0 n) (mc kd xs):=by
 have:=dM.aK (i:=0) (n:=n) hf rfl rfl (bT (fun _=>rfl) xs) (by simp;omega)
 rwa [gU (by simp;omega)]at this
theorem dM.seq {hp:List (Nat×aA)} {k n w:Nat} {ty:TypeId} {xs:List SV} (hf:find hp k=some ⟨ty,true,.seq w xs⟩) (od:aV xs=true) (hn:n=xs.length):dM hp (.aK k w 0 n) (ed w xs):=by
 have:=dM.aK (i:=0) (n:=n) hf rfl rfl od aa
 rwa [gU hn]at this
theorem dM.V1 {hp:List (Nat×aA)} {w:Nat} {a:Option Addr}:dM hp (.val (.slice a 0 0)) (ed w []):=
 dM.via (d:=ed w []) (fun ρ x hx=>by simp only[aG]at hx ⊢;exact .inl ⟨rfl,a,hx.1⟩) rfl (dM.bA rfl)
theorem kN {E:Env} (t k:Nat) {c:Code} {K:bK} {fr:List (Nat×SV)} {hp:List (Nat×aA)} {ty:TypeId} {d:Data} {w i n:Nat} {xs:List SV} (hW:∀b,¬E.W0 b) (ht:lk fr t=some (.aK k w i n)) (hk:find hp k=some ⟨ty,true,d⟩)
  (he:gT d=some xs) (hw:cW d=some w) (od:aV xs=true) (hn:i+n≤xs.length) (hs:dG E c K ((t,ed w (fM xs i (i+n)))::fr) (eD hp k ⟨ty,true,.dead⟩)):dG E c K fr hp:=by
 refine⟨fun a W hR=>hs.run a W ?_⟩
 have hl:d.live=true:=by cases d<;>simp[gT]at he<;>rfl
 obtain⟨ρ,hext,hfx,hR⟩:=hR
 have C6:(fn fr hp (.k k)).blk=some ⟨ty,true,d⟩:=by simp only[fn,LV.blk];exact hk
 have hv:=hR.fr t _ (by simp only[fn,LV.sv];exact ht)
 obtain⟨x,hx,hxv⟩:=(jN (c:=.aK k w i n) rfl).1 hv
 have eI:∀j b,(fn ((t,ed w (fM xs i (i+n)))::fr) (eD hp k ⟨ty,true,.dead⟩) (.k j)).blk=some b→(j=k∧b=⟨ty,true,.dead⟩)∨(j≠k∧(fn fr hp (.k j)).blk=some b):=by
  intro j b hb
  simp only[fn,LV.blk,bN]at hb ⊢
  by_cases hj:j=k
  ·rw[if_pos hj]at hb;exact .inl ⟨hj,(Option.some.inj hb).symm⟩
  ·rw[if_neg hj]at hb;exact .inr ⟨hj,hb⟩
 have fin:∀ρ':bI,ρ'.key=ρ.key→(∀b o,ρ.aT b=some o→ρ'.aT b=some o)→(∀b o,ρ'.aT b=some o→ρ.aT b=some o∨E.w0.heap.size≤b)→(∀b o,ρ'.aT b=some o→W.heap[b]? =some o)→
   (∀j b x,j≠k→(fn fr hp (.k j)).blk=some b→b.wr=true→b.data.live=true→ρ.key j=some x→ρ'.aT x.1=none)→(∀D,W.heap[D]? =some (.deferred (some []))→ρ.aT D=none→ρ'.aT D=none)→Has ρ' (ed w (fM xs i (i+n))) (a.tmps.getD t undef)→
   RR E (fn ((t,ed w (fM xs i (i+n)))::fr) (eD hp k ⟨ty,true,.dead⟩)) a W:=by
  intro ρ' bJ himm eO hheap jf hmark hhas
  have hle:ρ.Le ρ':=⟨fun j y hy=>by rw[bJ];exact hy,himm⟩
  refine⟨ρ',⟨hext.le.trans hle,fun b o hb=>(eO b o hb).elim (fun h=>hext.aT b o h) .inr,fun j hj=>by rw[bJ];exact hext.fix j hj⟩,fun j hj=> ?_,{defers:= ?_,size:=hR.size,fr:= ?_,bw:=hR.bw,hp:= ?_}⟩
  ·have:=hfx j hj
   simp only[fn,LV.blk,bN]at this ⊢
   split
   ·simp
   ·exact this
  ·obtain⟨Ds,d1,d2,d3⟩:=hR.defers
   refine⟨Ds,d1,d2,fun D hD=> ?_⟩
   obtain⟨e1,e2,e3⟩:=d3 D hD
   refine⟨e1,e2, ?_⟩
   exact hmark D e2 e3
  ·intro u sv hu
   simp only[fn,LV.sv,lk]at hu
   cases hb:Nat.beq t u with
   |true=>
    rw[hb]at hu
    simp only[Option.some.injEq]at hu
    subst hu
    rw[←Nat.eq_of_beq_eq_true hb]
    exact hhas
   |false=>rw[hb]at hu;exact Has.mono hle _ _ (hR.fr u sv (by simp only[fn,LV.sv];exact hu))
  ·constructor
   ·intro j b hb
    rcases eI j b hb with⟨rfl,rfl⟩|⟨hj,hb⟩
    ·exact .inl rfl
    ·rcases hR.hp.blk j b hb with g0|⟨b',t',vs,ex,g1,g2,g3,g4⟩|⟨g1,g2⟩
     ·exact .inl g0
     ·exact .inr (.inl ⟨b',t',vs,ex,by rw[bJ];exact g1,g2,g3.mono hle,g4⟩)
     ·exact .inr (.inr ⟨by rw[bJ];exact g1,g2⟩)
   ·intro j j' y y' b b' hy FL a7 hyy hb fV gJ gI
    rw[bJ]at hy FL
    rcases eI j b hb with⟨_,rfl⟩|⟨_,hb⟩
    ·cases gJ
    rcases eI j' b' fV with⟨_,rfl⟩|⟨_,fV⟩
    ·cases gI
    exact hR.hp.sep j j' y y' b b' hy FL a7 hyy hb fV gJ gI
   ·intro j b y hb hwr gJ hy
    rw[bJ]at hy
    rcases eI j b hb with⟨_,rfl⟩|⟨_,hb⟩
    ·cases gJ
    exact hR.hp.own j b y hb hwr gJ hy
   ·intro j y hy
    rw[bJ]at hy
    obtain⟨b,hb⟩:=hR.hp.ud j y hy
    simp only[fn,LV.blk,bN]at hb ⊢
    split
    ·exact⟨_,rfl⟩
    ·exact⟨b,hb⟩
   ·exact hheap
   ·intro j b y hb hwr gJ hy
    rw[bJ]at hy
    rcases eI j b hb with⟨_,rfl⟩|⟨hj,hb⟩
    ·cases gJ
    exact jf j b y hj hb hwr gJ hy
 rcases qv (hR.hp.blk k _ C6) he hw od hn hx with⟨rfl,ad,rfl⟩|⟨b,t',o,h1,h2,h3⟩
 ·refine fin ρ rfl (fun _ _ h=>h) (fun _ _ h=>.inl h) hR.hp.aT (fun j b y _ hb hwr gJ hy=>hR.hp.ep j b y hb hwr gJ hy) (fun _ _ h=>h) ?_
  rw[hxv]
  exact vS (.inl ⟨by simp[fM],ad,by simp[ct,SV.aU]⟩)
 ·have hB:E.w0.heap.size≤b:=(hR.hp.own k _ _ C6 rfl hl h1).resolve_right (hW _)
  obtain⟨u,xa⟩:=(Up.refl ρ W E.w0.heap.size).add hR.hp.aT hB h2
  refine fin ⟨ρ.key,_,u.b7⟩ rfl u.le (fun b o hb=>(u.new b o hb).imp id (fun h=>h.1)) (fun c p hc=> ?_) (fun j blk y hj hb hwr gJ hy=> ?_) (fun D Lm hD2=> ?_) ?_
  ·rcases u.new c p hc with h|h
   ·exact hR.hp.aT c p h
   ·exact h.2
  ·show(if y.1=b then some o else ρ.aT y.1)=none
   rw[if_neg]
   ·exact hR.hp.ep j blk y hb hwr gJ hy
   ·intro he2
    have:=hR.hp.sep k j (b,t') y _ _ h1 hy (fun h=>hj h.symm) he2.symm C6 hb hl gJ
    cases this
  ·show(if D=b then some o else ρ.aT D)=none
   rw[if_neg,hD2]
   rintro rfl
   rcases hR.hp.blk k _ C6 with g0|⟨b',t'',vs,ex,g1,g2,_⟩|⟨g1,_⟩
   ·rw[show Data.live d=false from g0]at hl;cases hl
   ·rw[h1]at g1;cases g1;rw[Lm]at g2;exact Data.jF (Option.some.inj g2).symm
   ·rw[h1]at g1;cases g1
  ·rw[hxv]
   refine(jN (c:=ed w (fM xs i (i+n))) rfl).2 ⟨x, ?_,by simp[ct,SV.aU,I5]⟩
   exact aG.mono (ow ⟨ρ.key,_,u.b7⟩ u.b7) _ _ (h3 _ u.b7 u.le (by simp))
theorem ade {P:Program} {T:List (TypeId×TI)} {Z:List Nat} (hT:db P T) (hm:P.follows .mixedOrders=true) {f:FuncId} {fn':Func} {code:Code} (hf:P.funcs[f]? =some fn') (hb:fn'.body=some code)
  (hn:(fn'.name== "runtime.NumGoroutine")=false) {args:List SV} {c:SV} (ha:aV args=true) (hc:bA c=true) (hnt:Nat.ble args.length fn'.ntmps=true) (hpass:args.all bp=true)
  (h:∀w0 ρ0,Env.OK ⟨P,T,fun _=>False,w0,fn'.ntmps,ρ0,[],Z,none⟩→BG ⟨P,T,fun _=>False,w0,fn'.ntmps,ρ0,[],Z,none⟩ code (Kj T fn'.results.toList fun sv hp=>ov sv hp c) (enum 0 args) []):af P f args [] c [] []:=by
 have KW:=Nat.le_of_ble_eq_true hnt
 refine .inl ⟨⟨fn',hf,hn,by rw[hb];rfl⟩,fun ρ w z hz BK=> ?_⟩
 let ρ1:bI:=⟨fun _=>none,ρ.aT,ρ.b7⟩
 let E:Env:=⟨P,T,fun _=>False,w,fn'.ntmps,ρ1,[],Z,none⟩
 have hE:E.OK:=⟨hT,hm,fun k x hx=>by cases hx⟩
 have pq:z.length=args.length:=by
  clear h hnt KW hpass ha
  induction args generalizing z with
  |nil=>simp only[au]at hz;subst hz;rfl
  |cons c l ih=>simp only[au]at hz;obtain⟨x,r,rfl,_,h⟩:=hz;simp[ih r h]
 have Jc:=b5 (ρ:=ρ) (ρ':=ρ1) (fun b o hb=>hb) args z ha hz
 have oi:∀(l:List SV) (y:List (List Value)),au ρ1 l y→l.all bp=true→∀(j:Nat) (c:SV),l[j]? =some c→∃v,(List.zipWith ct l y)[j]? =some v∧Has ρ1 c v:=by
  intro l
  induction l with
  |nil=>intro y _ _ j c h;simp at h
  |cons d l ih=>
   intro y hy hp j c hj
   simp only[au]at hy
   obtain⟨x,r,rfl,g1,g2⟩:=hy
   simp only[List.all_cons,Bool.and_eq_true]at hp
   cases j with
   |zero=>
    simp at hj
    subst hj
    refine⟨ct d x,by simp, ?_⟩
    have Fz:=hp.1
    cases d<;>simp[bp]at Fz<;>simp only[Has]<;>exact⟨x,g1,rfl⟩
   |succ j=>simpa using ih r g2 hp.2 j c (by simpa using hj)
 have oe:((List.zipWith ct args z).toArray++Array.replicate (fn'.ntmps - (List.zipWith ct args z).toArray.size) undef).size=fn'.ntmps:=by
  simp[pq]
  omega
 have hR:R E.W0 E.w0 E.n ρ1 (fn (enum 0 args) []) {tmps:=(List.zipWith ct args z).toArray++Array.replicate (fn'.ntmps - (List.zipWith ct args z).toArray.size) undef,defers:=[]} w:={
  defers:=.nil
  size:=oe
  fr:=fun t sv ht=>by
   simp only[fn,LV.sv]at ht
   obtain⟨_,h2⟩:=rG args 0 t sv ht
   obtain⟨v,h3,h4⟩:=oi args z Jc hpass t sv (by simpa using h2)
   have aI:t<(List.zipWith ct args z).length:=(List.getElem?_eq_some_iff.1 h3).1
   have:((List.zipWith ct args z).toArray++Array.replicate (fn'.ntmps - (List.zipWith ct args z).toArray.size) undef).getD t undef=v:=by
    rw[Array.getD_eq_getD_getElem?,Array.getElem?_append_left (by simpa using aI)]
    simp[h3]
   rw[this];exact h4
  bw:=.refl _ _
  hp:={
   blk:=fun k b hb=>by simp[fn,find,LV.blk]at hb
   sep:=fun k k' x x' b b' hx=>by cases hx
   own:=fun k b x hb=>by simp[fn,find,LV.blk]at hb
   ud:=fun k x hx=>by cases hx
   aT:=BK.aT
   ep:=fun k b x hb=>by simp[fn,find,LV.blk]at hb}}
 have O9:=iC hE code _ _ _ (h w ρ1 hE) _ w ⟨ρ1,⟨.refl _,fun b o hb=>.inl hb,(fun _ h=>by cases h)⟩,(fun _ h=>by cases h),hR⟩
 refine jM (E:=E) rfl hf hb (fun _ _ _ h=>h) (fun _ _ h=>h) O9 ?_
 rintro e a' w' hdf ⟨fr',bW,hK,ρ',hext,_,kC⟩
 have fin:∀ob l,kH T fr' bW fn'.results.toList=some (ob,l)→Bm ob→ov (qb l) bW c→a'.defers=[]∧∃v,(results fn' a'.tmps).run P w'= .ok v w'∧∃v' ρ'',Ending.returned v= .returned v'∧jb ρ w c [] [] v' ρ'' w':=by
  intro ob l h1 h2 h3
  obtain⟨v,r1,r2⟩:=lW hE kC h1 h2
  obtain⟨i2,hg,u1,u2,u3⟩:=h3 ρ' w' w.heap.size (fun k b hk=>kC.hp.blk k b (by simp only[fn,LV.blk];exact hk)) (fun k b x hk hw hl hx=>(kC.hp.own k b x (by simp only[fn,LV.blk];exact hk) hw hl hx).resolve_right (fun h=>h)) kC.hp.aT v r2
  refine⟨hdf,v,r1,v,⟨ρ.key,i2,hg⟩,rfl,⟨⟨fun k x hx=>hx,fun b o hb=>u1 b o (hext.le.aT b o hb)⟩, ?_,fun _ _=>rfl, ?_,(fun k b h=>by rcases h with h|h<;>cases h),(fun _ _ _ h=>by cases h),(fun k b x h=>by cases h),(fun k b k' b' x x' h=>by cases h), ?_⟩⟩
  ·exact nc (ρ:=cE i2 hg) (ρ':=⟨ρ.key,i2,hg⟩) (fun b o hb=>hb) c v hc u3
  ·exact kC.bw.mono (fun b _ hb=>hb.elim)
  ·intro b o hb
   rcases u2 b o hb with h4|⟨h4,h5⟩
   ·rcases hext.aT b o h4 with h4|h4
    ·exact .inl h4
    ·exact .inr ⟨h4,kC.hp.aT b o (by assumption),fun k blk x h=>by cases h⟩
   ·exact .inr ⟨h4,h5,fun k blk x h=>by cases h⟩
 cases e<;>simp only[Kj]at hK<;>simp only[bodyPost]
 ·split at hK
  ·rename_i ob l hl;exact fin ob l hl (b6 hK).1 (b6 hK).2
  ·exact hK.elim
 ·split at hK
  ·rename_i ob l hl;exact fin ob l hl (b6 hK).1 (b6 hK).2
  ·exact hK.elim
section
variable {P:Program} {o:Oper} {ft:List (Nat×SV)} {fk:List (Nat×aA)} {w:Nat} {α:Type} {f:α→SV} {xs:List α}
theorem PL {x:Operand} {t:TypeId} {xs':Array Operand} {ts:Array TypeId} {ti:TI} {e:TypeId} (ho:o.op= .call ⟨.builtin .len,xs',ts⟩) (hxs:xs'= #[x]) (nh:ts= #[t]) (hx:aZ ft x (bX w f xs)) (ht:aE P t ti)
  (hk:ti.kind= .aK e):bL P o ft fk (.val (.int .i64 (xs.length:Int))) [] []:=by
 have:=PC (fk:=fk) ho hxs nh hx ht hk
 rwa [List.length_map]at this
theorem pB {t e:TypeId} {x ix:Operand} {ti te:TI} {kd:IntKind} {j:Int} {d:α} (ho:o.op= .indexAddr t x ix) (hx:aZ ft x (bX w f xs)) (hi:aZ ft ix (.val (.int kd j)))
  (ht:aE P t ti) (hk:ti.kind= .aK e) (he:aE P e te) (hs:te.size=w) (hj:0≤j∧j<(xs.length:Int)):bL P o ft fk (cx [f (xs.getD j.toNat d)]) [] []:=
 I6 ho hx hi ht hk he hs hj.1 (by rw[List.length_map];exact hj.2) (by
  have h1:j.toNat<xs.length:=aa
  simp[List.getD_eq_getElem?_getD,List.getElem?_eq_getElem h1])
theorem fu {t e:TypeId} {x ix:Operand} {ti te:TI} {kd:IntKind} {j:Nat} {d:α} (ho:o.op= .indexAddr t x ix) (hx:aZ ft x (bX w f xs)) (hi:aZ ft ix (.val (.int kd (j:Int))))
  (ht:aE P t ti) (hk:ti.kind= .aK e) (he:aE P e te) (hs:te.size=w) (hj:j<xs.length):bL P o ft fk (cx [f (xs.getD j d)]) [] []:=by
 have:=pB (fk:=fk) (d:=d) ho hx hi ht hk he hs ⟨aa,aa⟩
 rwa [Int.toNat_natCast]at this
theorem Ah {t e:TypeId} {x:Operand} {lo hi mx:Option Operand} {ti te:TI} {l h:Int} (ho:o.op= .slice t x lo hi mx) (hx:aZ ft x (bX w f xs))
  (C0:lo=none∧l=0∨∃y kd,lo=some y∧aZ ft y (.val (.int kd l))) (C1:hi=none∧h=xs.length∨∃y kd,hi=some y∧aZ ft y (.val (.int kd h)))
  (hmx:mx=none∨(hi≠none∧∃y kd,mx=some y∧aZ ft y (.val (.int kd h))))
  (ht:aE P t ti) (hk:ti.kind= .aK e) (he:aE P e te) (hs:te.size=w) (hb:0≤l∧l≤h∧h≤(xs.length:Int)):bL P o ft fk (bX w f ((xs.drop l.toNat).take (h.toNat - l.toNat))) [] []:=by
 have:=I8 (fk:=fk) ho hx C0 (by rw[List.length_map];exact C1) hmx ht hk he hs hb.1 hb.2.1 (by rw[List.length_map];exact hb.2.2)
 rwa [fM,←List.map_drop,←List.map_take]at this
end
section
variable {P:Program} {f:FuncId} {args:List SV} {hp:List (Nat×aA)} {o:Oper} {fr:List (Nat×SV)} {c:SV}
abbrev vJ (hp fk:List (Nat×aA)):Prop:=∀j b,(j,b)∈fk→find hp j=some b
abbrev rM (hp new:List (Nat×aA)):Prop:=∀j b,(j,b)∈new→find hp j=none
abbrev kO (fk upd:List (Nat×aA)):Prop:=∀j b,(j,b)∈upd→∃b0:aA,(j,b0)∈fk∧b0.wr=true∧b0.data.live=true∧b.wr=true
theorem a8 {k:SV→List (Nat×aA)→List (Nat×aA)→List (Nat×aA)→Prop} (h:af P f args [] c [] []) (hk:k c [] [] []):
  ∃fk c new upd,af P f args fk c new upd∧vJ hp fk∧rM hp new∧kO fk upd∧k c fk new upd:=⟨[],c,[],[],h,aD,an,ar,hk⟩
theorem ny {k:SV→List (Nat×aA)→List (Nat×aA)→List (Nat×aA)→Prop} {a:Nat} {A:aA} (h:af P f args [(a,A)] c [] []) (ha:find hp a=some A) (hk:k c [(a,A)] [] []):
  ∃fk c new upd,af P f args fk c new upd∧vJ hp fk∧rM hp new∧kO fk upd∧k c fk new upd:=⟨[(a,A)],c,[],[],h,dD ha,an,ar,hk⟩
theorem oR {k:SV→List (Nat×aA)→List (Nat×aA)→List (Nat×aA)→Prop} {b:Nat} {B:aA} (h:af P f args [] c [(b,B)] []) (hb:find hp b=none) (hk:k c [] [(b,B)] []):
  ∃fk c new upd,af P f args fk c new upd∧vJ hp fk∧rM hp new∧kO fk upd∧k c fk new upd:=⟨[],c,[(b,B)],[],h,aD,dx hb,ar,hk⟩
theorem Hn {k:SV→List (Nat×aA)→List (Nat×aA)→List (Nat×aA)→Prop} {a b:Nat} {A B:aA} (h:af P f args [(a,A)] c [(b,B)] []) (ha:find hp a=some A) (hb:find hp b=none) (hk:k c [(a,A)] [(b,B)] []):
  ∃fk c new upd,af P f args fk c new upd∧vJ hp fk∧rM hp new∧kO fk upd∧k c fk new upd:=⟨[(a,A)],c,[(b,B)],[],h,dD ha,dx hb,ar,hk⟩
theorem vh {k:SV→List (Nat×aA)→List (Nat×aA)→List (Nat×aA)→Prop} {a:Nat} {ty ty':TypeId} {d d':Data} (h:af P f args [(a,⟨ty,true,d⟩)] c [] [(a,⟨ty',true,d'⟩)]) (ha:find hp a=some ⟨ty,true,d⟩) (hl:d.live=true)
  (hk:k c [(a,⟨ty,true,d⟩)] [] [(a,⟨ty',true,d'⟩)]):
  ∃fk c new upd,af P f args fk c new upd∧vJ hp fk∧rM hp new∧kO fk upd∧k c fk new upd:=
 ⟨[(a,⟨ty,true,d⟩)],c,[],[(a,⟨ty',true,d'⟩)],h,dD ha,an,(fun j b hm=>by
  simp only[List.mem_singleton,Prod.mk.injEq]at hm
  obtain⟨rfl,rfl⟩:=hm
  exact⟨_,List.mem_cons_self ..,rfl,hl,rfl⟩),hk⟩
theorem adf {k:SV→List (Nat×aA)→List (Nat×aA)→List (Nat×aA)→Prop} {a b:Nat} {A B:aA} (h:af P f args [(a,A),(b,B)] c [] []) (ha:find hp a=some A) (hb:find hp b=some B) (hk:k c [(a,A),(b,B)] [] []):
  ∃fk c new upd,af P f args fk c new upd∧vJ hp fk∧rM hp new∧kO fk upd∧k c fk new upd:=
 ⟨[(a,A),(b,B)],c,[],[],h,(fun j c hm=>by
  simp only[List.mem_cons,Prod.mk.injEq,List.not_mem_nil,or_false]at hm
  rcases hm with⟨rfl,rfl⟩|⟨rfl,rfl⟩<;>assumption),an,ar,hk⟩
theorem aC {k:SV→List (Nat×aA)→List (Nat×aA)→List (Nat×aA)→Prop} (h:bL P o fr [] c [] []) (hk:k c [] [] []):
  ∃c fk new upd,bL P o fr fk c new upd∧vJ hp fk∧rM hp new∧kO fk upd∧k c fk new upd:=⟨c,[],[],[],h,aD,an,ar,hk⟩
end
end Go.Sx
namespace Go.Sx
open Go.ChangeShapes Go.WideShapes
theorem xA {P:Program} {W:World} {name:String} {k:IntKind} {zs:List Int} {g:Nat} (hg:P.globalNamed name=some g) (h:Lib.TabIs P W name k zs):∃ty fz,W.heap[g]? =some (.cells (zs.map fun x=>Value.int k x).toArray ty fz):=by
 unfold Lib.TabIs World.var? at h
 rw[hg]at h
 simp only[Option.bind_some]at h
 cases ho:W.heap[g]? with
 |none=>rw[ho]at h;cases h
 |some o=>
  rw[ho]at h
  cases o<;>simp_all
theorem V3 {P:Program} {W:World} {name:String} {k:IntKind} {zs:List Int} {g:Nat} (hg:P.globalNamed name=some g) {ty:TypeId} {fz:Nat×Nat} (h:W.heap[g]? =some (.cells (zs.map fun x=>Value.int k x).toArray ty fz)):Lib.TabIs P W name k zs:=by
 unfold Lib.TabIs World.var?
 rw[hg]
 simp only[Option.bind_some,h]
theorem DI {W:World} (h:wR W):ir (fun b=>W.heap[b]?):=by
 intro g kd l hm
 obtain⟨o,h1,h2⟩:=PK h g kd l hm
 refine⟨o, ?_,h2⟩
 have h1:(if ml.any (fun t=>t.1==g)then W.heap[g]? else none)=some o:=h1
 show W.heap[g]? =some o
 split at h1
 ·exact h1
 ·cases h1
def nz {W:World} (h:wR W):bI:=cE _ (DI h)
theorem Ln {P:Program} {f:FuncId} {args:List SV} {W:World} (hf:De P f) (h:af P f args [] (.val (.bool true)) [] [])
  (hg:wR W) {z:List (List Value)} (hz:au (nz hg) args z):
  Calls P f (List.zipWith ct args z).toArray W fun e w'=>e= .returned (.bool true)∧RowKit.Below W.heap.size W w':=by
 refine(h.calls hf hz ⟨(fun k b hb=>by cases hb),(fun k k' x x' b b' hb=>by cases hb),(fun b o hb=>hb),(fun k b x hb=>by cases hb),(fun k b hb=>by cases hb)⟩).mono ?_
 rintro e w' ⟨v,ρ',rfl,hp⟩
 refine⟨by rw[aJ hp.has], ?_⟩
 exact(hp.bw.mono (W':=fun _=>False) (fun b _ ⟨k,blk,t,hm,_⟩=>by cases hm)).below
section
variable {H:Type} {enc:TypeId×Value→H} {P:Program} {W:World} {hg:wR W}
def dB (enc:TypeId×Value→H) (P:Program) (hg:wR W) (t:TypeId) {α:Type} (f:α→SV) (ef:α→Prop):Prop:=
 ∀fuel cs x,DataW.trod enc P W 0 (fun _=>true) true fuel t cs=some x→∃y,ef y∧aG (nz hg) (f y) cs
theorem dB.int {t:TypeId} {k:IntKind} (ht:P.underlying t=some (.int k)):dB enc P hg t (iF k) (fun n=>(Lit.int k n).wf=true):=fun fuel cs x h=>by
 obtain⟨n,rfl,_,hw⟩:=DataW.trod_int ht h
 exact⟨n,hw,by simp[iF,aG,Value.oneCell']⟩
def bel (b:Bool):SV:=.val (.bool b)
theorem dB.bool {t:TypeId} (ht:P.underlying t=some .bool):dB enc P hg t bel (fun _=>True):=fun fuel cs x h=>by
 obtain⟨n,rfl,_⟩:=DataW.trod_bool ht h
 exact⟨n,trivial,by simp[bel,aG,Value.oneCell']⟩
def DJ {α β:Type} (f:α→SV) (g:β→SV) (p:α×β):SV:=.agg [f p.1,g p.2]
theorem dB.BN {t:TypeId} {f0 f1:Field} {α β:Type} {a:α→SV} {b:β→SV} {ga:α→Prop} {gb:β→Prop} (ht:P.underlying t=some (.struct #[f0,f1])) (o0:f0.offset=0) (o1:f1.offset=P.cellsOf f0.type) (hc:P.cellsOf t=P.cellsOf f0.type+P.cellsOf f1.type)
  (h0:dB enc P hg f0.type a ga) (h1:dB enc P hg f1.type b gb):dB enc P hg t (DJ a b) (fun p=>ga p.1∧gb p.2):=fun fuel cs x h=>by
 obtain⟨xs,n,rfl,_,hlen,Kx,hf⟩:=DataW.trod_struct ht h
 have hx0:xs.length=2:=Kx
 obtain⟨y0,y1,rfl⟩:∃y0 y1,xs=[y0,y1]:=by
  match xs,hx0 with
  |[y0,y1],_=>exact⟨y0,y1,rfl⟩
 have g0:=hf 0 f0 rfl
 have g1:=hf 1 f1 rfl
 obtain⟨p,p1,p2⟩:=h0 _ _ _ g0
 obtain⟨q,q1,q2⟩:=h1 _ _ _ g1
 refine⟨(p,q),⟨p1,q1⟩, ?_⟩
 simp only[DJ,aG]
 refine⟨[_,_],by simp only[au];exact⟨_,_,rfl,p2,_,_,rfl,q2,rfl⟩, ?_⟩
 simp only[List.flatten_cons,List.flatten_nil,List.append_nil,o0,o1,List.drop_zero]
 rw[List.take_of_length_le (l:=cs.drop _) (by rw[List.length_drop];omega),List.take_append_drop]
def agL {α:Type} (f:α→SV) (l:List α):SV:=.agg (l.map f)
theorem xB {ρ:bI} {α:Type} {f:α→SV} {n w:Nat} {cs:List Value} (zr:cs.length=n*w) {y:Nat→α} (h:∀i,i<n→aG ρ (f (y i)) ((cs.drop (i*w)).take w)):∃z,au ρ (((List.range n).map y).map f) z∧z.flatten=cs:=by
 induction n generalizing cs y with
 |zero=>exact⟨[],by simp[au],by simp at zr;simp[zr]⟩
 |succ n ih=>
  have h0:=h 0 aa
  rw[Nat.zero_mul,List.drop_zero]at h0
  obtain⟨z,z1,z2⟩:=ih (cs:=cs.drop w) (y:=fun i=>y (i+1)) (by rw[List.length_drop,zr,Nat.succ_mul];omega) (fun i hi=>by
   have:=h (i+1) aa
   rw[List.drop_drop,show w+i*w=(i+1)*w from by rw[Nat.succ_mul];omega]
   exact this)
  refine⟨cs.take w::z, ?_,by rw[List.flatten_cons,z2,List.take_append_drop]⟩
  rw[List.range_succ_eq_map,List.map_cons,List.map_cons,show List.map y (List.map Nat.succ (List.range n))=List.map (fun i=>y (i+1)) (List.range n)from by rw[List.map_map];rfl]
  simp only[au]
  exact⟨_,_,rfl,h0,z1⟩
theorem dB.array {t e:TypeId} {n:Nat} {α:Type} {f:α→SV} {ef:α→Prop} (ht:P.underlying t=some (.array n e)) (hc:P.cellsOf t=n*P.cellsOf e) (h:dB enc P hg e f ef):
  dB enc P hg t (agL f) (fun l=>l.length=n∧∀x∈l,ef x):=fun fuel cs x hx=>by
 obtain⟨xs,m,rfl,_,hlen,Kx,hf⟩:=DataW.trod_array ht hx
 have nb:∀i,i<n→∃y,ef y∧aG (nz hg) (f y) ((cs.drop (i*P.cellsOf e)).take (P.cellsOf e)):=fun i hi=>by
  have h1:=hf i hi
  rw[List.getElem?_eq_getElem aa]at h1
  exact h _ _ _ h1
 by_cases hn:n=0
 ·subst hn
  refine⟨[],⟨rfl,fun x hx=>by cases hx⟩, ?_⟩
  simp only[agL,aG]
  rw[hc,Nat.zero_mul]at hlen
  exact⟨[],by simp[au],by simpa using hlen⟩
 ·obtain⟨d,_⟩:=nb 0 aa
  have:∀i,∃y,i<n→ef y∧aG (nz hg) (f y) ((cs.drop (i*P.cellsOf e)).take (P.cellsOf e)):=fun i=>by
   by_cases hi:i<n
   ·obtain⟨y,hy⟩:=nb i hi
    exact⟨y,fun _=>hy⟩
   ·exact⟨d,fun h=>absurd h hi⟩
  obtain⟨y,hy⟩:=Classical.axiomOfChoice this
  obtain⟨z,z1,z2⟩:=xB (ρ:=nz hg) (f:=f) (by rw[hlen,hc]) (fun i hi=>(hy i hi).2)
  refine⟨(List.range n).map y,⟨by simp,fun x hx=> ?_⟩, ?_⟩
  ·obtain⟨i,hi,rfl⟩:=List.mem_map.1 hx
   exact(hy i (List.mem_range.1 hi)).1
  ·simp only[agL,aG]
   exact⟨z,z1,z2.symm⟩
theorem dB.slice {t e:TypeId} {w:Nat} {α:Type} {f:α→SV} {ef:α→Prop} (ht:P.underlying t=some (.slice e)) (hc:P.cellsOf e=w) (Ho:w≠0) (hw:∀x,(f x).width=w) (h:dB enc P hg e f ef):
  dB enc P hg t (bX w f) (fun l=>l.length≤maxLen∧∀x∈l,ef x):=fun fuel cs x hx=>by
 rcases Deep.open_slice ht hx with⟨rfl,_⟩|⟨a,len,cap,m,n,D,Pl,rfl,hb,hl,hm,hmm,rfl,nb⟩
 ·exact⟨[],⟨Nat.zero_le _,fun x hx=>by cases hx⟩,by simp only[aG];exact .inl ⟨rfl,none,rfl⟩⟩
 ·rw[if_pos rfl]at hmm
  have hel:∀i,i<cap→∃y,ef y∧∃cs',W.cells? 0 (a.add (i*w)) w=some cs'∧aG (nz hg) (f y) cs':=fun i hi=>by
   obtain⟨cs',h1,h2⟩:=nb i aa
   obtain⟨y,y1,y2⟩:=h _ _ _ h2
   exact⟨y,y1,cs',by rw[←hc];exact h1,y2⟩
  by_cases hcap:cap=0
  ·subst hcap
   obtain rfl:len=0:=aa
   exact⟨[],⟨Nat.zero_le _,fun x hx=>by cases hx⟩,by simp only[aG];exact .inl ⟨rfl,some a,rfl⟩⟩
  ·-- the block
   have wW:∀i j,i<cap→j<w→∃v,W.cell? (a.add (i*w+j))=some v:=fun i j hi hj=>by
    obtain⟨y,_,cs',h1,_⟩:=hel i hi
    obtain⟨_,hlen,hv⟩:=World.cells?_some h1
    have:=hv j hj
    rw[Deep.add_add,List.getElem?_eq_getElem aa]at this
    exact⟨_,this⟩
   obtain⟨v0,Lo⟩:=wW 0 0 aa aa
   have adh:a.add (0*w+0)=a:=by simp[Addr.add]
   rw[adh]at Lo
   obtain⟨b,off,sp⟩:=a
   have eC:∃arr ty fz,W.heap[b]? =some (.cells arr ty fz)∧sp=none:=by
    unfold World.cell? at Lo
    simp only at Lo
    split at Lo
    ·rename_i c ty fz hh
     refine⟨c,ty,fz,hh, ?_⟩
     cases sp with
     |none=>rfl
     |some q=>simp at Lo
    ·cases Lo
   obtain⟨arr,ty,fz,hheap,rfl⟩:=eC
   have oi:∀k,W.cell? ⟨b,k,none⟩=arr[k]? :=fun k=>cell_of_row W b k arr ty fz hheap
   have bJ:∀k,k<cap*w→∃v,arr[off+k]? =some v:=fun k hk=>by
    have hi:k/w<cap:=Nat.div_lt_of_lt_mul (by rw[Nat.mul_comm];exact hk)
    obtain⟨v,hv⟩:=wW (k/w) (k % w) hi (Nat.mod_lt _ aa)
    rw[oL,oi,Nat.mul_comm,Nat.div_add_mod]at hv
    exact⟨v,hv⟩
   have oe:off+cap*w≤arr.size:=by
    have gN:0<cap*w:=Nat.mul_pos aa aa
    obtain⟨v,hv⟩:=bJ (cap*w - 1) aa
    have:=(Array.getElem?_eq_some_iff.1 hv).1
    omega
   have w7:∀i,i<cap→∀cs',W.cells? 0 ((⟨b,off,none⟩:Addr).add (i*w)) w=some cs'→cs'=((arr.toList.drop off).drop (i*w)).take w:=fun i hi cs' h1=>by
    obtain⟨_,hlen,hv⟩:=World.cells?_some h1
    have hiw:i*w+w≤cap*w:=by have:=Nat.mul_le_mul_right w (Nat.succ_le_of_lt hi);rwa [Nat.succ_mul]at this
    apply List.ext_getElem?
    intro j
    by_cases hj:j<w
    ·have h2:=hv j hj
     rw[Deep.add_add,oL,oi]at h2
     rw[List.getElem?_take_of_lt hj,List.drop_drop,List.getElem?_drop,←Nat.add_assoc]at*
     rw[←Array.getElem?_toList]at h2
     exact h2.symm
    ·rw[List.getElem?_eq_none aa,List.getElem?_eq_none (by rw[List.length_take];omega)]
   obtain⟨d,_⟩:=hel 0 aa
   have hch:∀i,∃y,i<cap→ef y∧aG (nz hg) (f y) (((arr.toList.drop off).drop (i*w)).take w):=fun i=>by
    by_cases hi:i<cap
    ·obtain⟨y,y1,cs',h1,h2⟩:=hel i hi
     rw[w7 i hi cs' h1]at h2
     exact⟨y,fun _=>⟨y1,h2⟩⟩
    ·exact⟨d,fun h=>absurd h hi⟩
   obtain⟨y,hy⟩:=Classical.axiomOfChoice hch
   have hlw:len*w≤cap*w:=Nat.mul_le_mul_right _ hl
   obtain⟨z,z1,z2⟩:=xB (ρ:=nz hg) (f:=f) (n:=len) (w:=w) (cs:=(arr.toList.drop off).take (len*w)) (by rw[List.length_take,List.length_drop,Array.length_toList];omega) (y:=y) (fun i hi=>by
    have h1:=(hy i aa).2
    have hiw:i*w+w≤len*w:=by have:=Nat.mul_le_mul_right w (Nat.succ_le_of_lt hi);rwa [Nat.succ_mul]at this
    rw[List.drop_take,List.take_take,Nat.min_eq_left aa]
    exact h1)
   refine⟨(List.range len).map y,⟨by simp;omega,fun x hx=> ?_⟩, ?_⟩
   ·obtain⟨i,hi,rfl⟩:=List.mem_map.1 hx
    exact(hy i (by have:=List.mem_range.1 hi;omega)).1
   ·simp only[aG]
    refine .inr ⟨DI hg,b,cap,z,arr.toList.take off,(arr.toList.drop off).drop (len*w),ty,fz, ?_,z1,fun x hx=> ?_, ?_, ?_, ?_⟩
    ·show W.heap[b]? =_
     rw[hheap,z2,List.take_append_drop,List.take_append_drop]
    ·obtain⟨u,_,rfl⟩:=List.mem_map.1 hx
     exact hw u
    ·simp;exact hl
    ·rw[z2,List.take_append_drop,List.length_drop,Array.length_toList];omega
    ·simp only[List.length_map,List.length_range,List.length_take,Array.length_toList]
     rw[Nat.min_eq_left aa]
theorem BO {c:SV} {v:Value} (h:c.aU=true) (hv:v.cells.toList=[v]):ct c v.cells.toList=v:=by rw[hv];simp[ct,h]
theorem PM {c:SV} {v:Value} {cs:Array Value} (h:c.aU=false) (hv:v= .agg cs):ct c v.cells.toList=v:=by subst hv;simp[ct,h,Value.cells]
end
end Go.Sx
namespace Go.Sx
structure ag8 (p:Nat):Prop where
 two:2≤p
 div:∀d,d ∣ p→d=1∨d=p
end Go.Sx
namespace Go.Sx
set_option maxRecDepth 4000
def vi (d:Data) (i:Nat) (d2:Data) (i2 c:Nat):Option Data:=
 match d,d2 with
 |.ints k xs,.ints k' ys=>if k'=k then some (.ints k (xs.take i++((ys.drop i2).take c++xs.drop (i+c))))else none
 |.cd xs,.cd ys=>some (.cd (xs.take i++((ys.drop i2).take c++xs.drop (i+c))))
 |.seq w xs,.seq w' ys=>if w'=w then some (.seq w (xs.take i++((ys.drop i2).take c++xs.drop (i+c))))else none
 |_,_=>none
theorem nA {ρ:bI} {d d2 d':Data} {i i2 c s s2:Nat} {z z2:List (List Value)} (h:vi d i d2 i2 c=some d') (hz:Rows ρ s d z) (lR:Rows ρ s2 d2 z2):Rows ρ s d' (z.take i++((z2.drop i2).take c++z.drop (i+c)))∧s2=s:=by
 unfold vi at h
 split at h
 ·split at h
  ·rename_i hk
   subst hk
   simp only[Option.some.injEq]at h
   subst h
   simp only[Rows]at hz lR ⊢
   obtain⟨rfl,rfl⟩:=hz
   obtain⟨rfl,rfl⟩:=lR
   exact⟨⟨rfl,by simp[List.map_take,List.map_drop]⟩,rfl⟩
  ·simp at h
 ·simp only[Option.some.injEq]at h
  subst h
  simp only[Rows]at hz lR ⊢
  obtain⟨rfl,rfl⟩:=hz
  obtain⟨rfl,rfl⟩:=lR
  exact⟨⟨rfl,by simp[List.map_take,List.map_drop]⟩,rfl⟩
 ·split at h
  ·rename_i hk
   subst hk
   simp only[Option.some.injEq]at h
   subst h
   simp only[Rows]at hz lR ⊢
   obtain⟨rfl,h1,h2⟩:=hz
   obtain⟨rfl,h3,h4⟩:=lR
   refine⟨⟨rfl,cI (iz i h1) (cI (iz c (jX i2 h3)) (jX _ h1)), ?_⟩,rfl⟩
   intro x hx
   rcases List.mem_append.1 hx with hx|hx
   ·exact h2 x (List.mem_of_mem_take hx)
   ·rcases List.mem_append.1 hx with hx|hx
    ·exact h4 x (List.mem_of_mem_drop (List.mem_of_mem_take hx))
    ·exact h2 x (List.mem_of_mem_drop hx)
  ·simp at h
 ·simp at h
theorem DK {ρ:bI} {s:Nat} {d:Data} {z:List (List Value)} (h:Rows ρ s d z) (hz:z.length=0):d.empty:=by
 have hl:=h.len.1
 rw[hz]at hl
 cases d<;>simp only[Rows]at h<;>simp only[Data.empty]
 all_goals exact List.length_eq_zero_iff.1 hl.symm
section
variable {P:Program} {o:Oper} {fr:List (Nat×SV)} {fk:List (Nat×aA)}
theorem FX {ρ:bI} {w:World} {k s i n:Nat} {blk:aA} {v:Value} (hv:Has ρ (.aK k s i n) v) (hb:gK ρ w k blk) (hl:blk.data.live=true) (hw:cW blk.data=some s) (oJ:i+n≤fi blk.data):
  ∃z,Rows ρ s blk.data z∧(∀c,c≤n→(Builtin.firstCells s c v).run P w= .ok (((z.drop i).take c).flatten).toArray w)∧Builtin.lenOf v=Pure.pure n:=by
 obtain⟨z,hz,hcase⟩:=je hb hl hw
 obtain⟨zl,zw⟩:=hz.len
 refine⟨z,hz, ?_⟩
 rcases fh hv with⟨b,t,cap,e1,e2,e3,rfl⟩|⟨rfl,a,rfl⟩
 ·rcases hcase with⟨b',t',ex,h1,h2,h3,h4⟩|⟨h1,_⟩
  ·rw[e1]at h1
   cases h1
   refine⟨fun c hc=> ?_,rfl⟩
   have w7:((z.drop i).take c).flatten=(z.flatten.drop (i*s)).take (c*s):=by
    rw[cl (s:=s) _ _ (fun u hu=>zw u (List.mem_of_mem_drop hu)),fp (s:=s) _ _ zw]
   have hlen:(((z.drop i).take c).flatten).length=c*s:=by
    rw[aL (s:=s) _ (fun u hu=>zw u (List.mem_of_mem_drop (List.mem_of_mem_take hu))),List.length_take,List.length_drop]
    congr 1
    omega
   refine run_firstCells_some (P:=P) w s c _ n cap _ hlen ?_
   intro j u hj
   have fB:(⟨b,i*s,none⟩:Addr).add j=⟨b,i*s+j,none⟩:=by unfold Addr.add;split<;>simp_all
   rw[fB,cell_of_row w b (i*s+j) _ blk.ty (0,0) h2]
   have h6:=lM w7 j u hj
   have aI:i*s+j<z.flatten.length:=(List.getElem?_eq_some_iff.1 h6).1
   simp only[List.getElem?_toArray]
   rw[List.getElem?_append_left aI]
   exact h6
  ·rw[e1]at h1;cases h1
 ·refine⟨fun c hc=> ?_,rfl⟩
  obtain rfl:c=0:=aa
  cases a with
  |none=>simp[Builtin.firstCells]
  |some a=>simp[Builtin.firstCells,loadCells,loadCellsFrom]
theorem Hp {ρ:bI} {w:World} {k b t s:Nat} {blk:aA} (hb:gK ρ w k blk) (hl:blk.data.live=true) (hw:cW blk.data=some s) (hk:ρ.key k=some (b,t)):
  ∃z ex,Rows ρ s blk.data z∧w.heap[b]? =some (.cells (z.flatten++ex).toArray blk.ty (0,0))∧(z.flatten++ex).length=t∧(∀v∈ex,v.oneCell'=true):=by
 obtain⟨z,hz,hcase⟩:=je hb hl hw
 rcases hcase with⟨b',t',ex,h1,h2,h3,h4⟩|⟨h1,_⟩
 ·rw[hk]at h1
  cases h1
  exact⟨z,ex,hz,h2,h3,h4⟩
 ·rw[hk]at h1;cases h1
theorem pC {t t2 e ty:TypeId} {x y:Operand} {xs:Array Operand} {ts:Array TypeId} {ti te:TI} {k k2 i n i2 m c:Nat} {d d':Data} {blk2:aA} (ho:o.op= .call ⟨.builtin .copy,xs,ts⟩) (hxs:xs= #[x,y]) (nh:ts= #[t,t2])
  (hx:aZ fr x (.aK k te.size i n)) (hy:aZ fr y (.aK k2 te.size i2 m)) (ht:aE P t ti) (hk:ti.kind= .aK e) (he:aE P e te)
  (hf:(k,⟨ty,true,d⟩)∈fk) (Hh:(k2,blk2)∈fk) (hl:d.live=true) (gI:blk2.data.live=true) (hw:cW d=some te.size) (ni:cW blk2.data=some te.size)
  (hn:i+n≤fi d) (hm:i2+m≤fi blk2.data) (hc:c=Nat.min m n) (hd:vi d i blk2.data i2 c=some d'):
  bL P o fr fk (.val (.int .i64 (c:Nat))) [] [(k,⟨ty,true,d'⟩)]:=
 dw fun ρ a w hp=>by
  have Dq:=hx ρ a hp.dj
  have I3:=hy ρ a hp.dj
  have hu:=ht.kind;rw[hk]at hu
  have hcm:c≤m:=hc▸Nat.min_le_left _ _
  have hcn:c≤n:=hc▸Nat.min_le_right _ _
  obtain⟨z2,lR,eT,hlen2⟩:=FX (P:=P) I3 (hp.mj k2 _ Hh) gI ni hm
  have DL:=eT c hcm
  obtain⟨zl2,zw2⟩:=lR.len
  have gO:∀u∈(z2.drop i2).take c,u.length=te.size:=fun u hu=>zw2 u (List.mem_of_mem_drop (List.mem_of_mem_take hu))
  have fJ:((z2.drop i2).take c).length=c:=by rw[List.length_take,List.length_drop];omega
  have eS:∀v w',(Builtin.copy_ ts o.type #[a.eval x,a.eval y]).run P w= .ok v w'→(execOp a.eval o).run P w= .ok (.value v) w':=by
   intro v w' h
   simp only[execOp,ho,resolve,invoke,builtin,hxs,Sem.run_bind,Sem.run_pure,Result.andThen_ok,List.map_toArray,List.map_cons,List.map_nil]
   rw[h]
   rfl
  have uh:∀v∈(((z2.drop i2).take c).flatten),v.oneCell'=true:=fun u hu=>by
   obtain⟨q,hq,hu⟩:=List.mem_flatten.1 hu
   exact lR.wS q (List.mem_of_mem_drop (List.mem_of_mem_take hq)) u hu
  rcases fh Dq with⟨b,t',cap,e1,e2,e3,hv⟩|⟨rfl,a',hv⟩
  ·obtain⟨z,ex,hz,g1,g2,g3⟩:=Hp (hp.mj k _ hf) hl hw e1
   obtain⟨zl,zw⟩:=hz.len
   simp only at zl
   have bZ:=(nA hd hz lR).1
   have CZ:(((z2.drop i2).take c).flatten).length=c*te.size:=by rw[aL _ gO,fJ]
   have w8:i*te.size+c*te.size≤(z.flatten++ex).length:=by
    have:=Nat.mul_le_mul_right te.size (show i+c≤i+cap by omega)
    rw[Nat.add_mul]at this
    omega
   have lU:=run_storeCells_at (P:=P) b (i*te.size) ty (((z2.drop i2).take c).flatten) 0 (z.flatten++ex).toArray w g1 (by simp only[List.size_toArray];omega) uh
   have pq:z.flatten.length=z.length*te.size:=aL _ zw
   have V4:(i+c)*te.size≤z.flatten.length:=by
    rw[pq];exact Nat.mul_le_mul_right _ aa
   have hiz:i*te.size≤z.flatten.length:=by
    rw[pq];exact Nat.mul_le_mul_right _ aa
   have hL:(z.flatten++ex).take (i*te.size)++((z2.drop i2).take c).flatten++(z.flatten++ex).drop (i*te.size+(((z2.drop i2).take c).flatten).length)=(z.take i++((z2.drop i2).take c++z.drop (i+c))).flatten++ex:=by
    rw[CZ,←Nat.add_mul,List.take_append_of_le_length hiz,List.drop_append_of_le_length V4,List.flatten_append,List.flatten_append,cl _ _ zw,fp _ _ zw]
    simp only[List.append_assoc]
   simp only[Nat.add_zero,hL]at lU
   refine⟨goInt c,w.setRow b ((z.take i++((z2.drop i2).take c++z.drop (i+c))).flatten++ex).toArray,ρ,eS _ _ ?_, ?_⟩
   ·simp only[Builtin.copy_,nh,hv,List.getElem?_toArray,List.getElem?_cons_zero,List.getElem?_cons_succ,Sem.run_bind,run_underlying hu,Result.andThen_ok,hlen2,Sem.run_pure,he.sizeOf]
    rw[←hc,DL]
    simp only[Result.andThen_ok,lU]
   ·refine⟨.refl ρ,bS rfl,fun _ _=>rfl,⟨rfl,rfl,rfl,by simp[World.setRow],fun j hj hnj=> ?_⟩,fun j bj hj=> ?_,(fun j c1 c2 h1 h2 h3 h4=> ?_),(fun _ _ _ h=>by cases h),(fun _ _ _ _ _ _ h=>by cases h),fun b o h=>.inl h⟩
    ·refine cR fun Sy=>hnj ⟨k,_,t',List.mem_cons_self .., ?_⟩
     rw[Sy];exact e1
    ·rcases hj with hj|hj
     ·simp only[List.mem_singleton,Prod.mk.injEq]at hj
      obtain⟨rfl,rfl⟩:=hj
      refine .inr (.inl ⟨b,t',_,ex,e1,by rw[Data.ck bZ.dO];exact c5 g1,bZ.data, ?_,g3⟩)
      rw[←g2,List.length_append,List.length_append,aL _ bZ.len.2,pq]
      congr 2
      rw[List.length_append,List.length_append,List.length_take,List.length_drop,fJ]
      omega
     ·cases hj
    ·simp only[List.mem_singleton,Prod.mk.injEq]at h1 h2
     obtain⟨_,rfl⟩:=h1
     obtain⟨_,rfl⟩:=h2
     rw[h3]at h4;cases h4
  ·obtain rfl:c=0:=aa
   obtain⟨z,hz,hcase⟩:=je (hp.mj k _ hf) hl hw
   have bZ:=(nA hd hz lR).1
   have Ai:z.take i++((z2.drop i2).take 0++z.drop (i+0))=z:=by simp
   rw[Ai]at bZ
   refine⟨goInt 0,w,ρ,eS _ _ ?_, ?_⟩
   ·simp only[Builtin.copy_,nh,hv,List.getElem?_toArray,List.getElem?_cons_zero,List.getElem?_cons_succ,Sem.run_bind,run_underlying hu,Result.andThen_ok,hlen2,Sem.run_pure,he.sizeOf]
    rw[←hc,DL]
    cases a' with
    |none=>simp[goInt]
    |some a'=>simp[goInt,storeCells]
   ·refine⟨.refl ρ,bS rfl,fun _ _=>rfl,.refl _ _,fun j bj hj=> ?_,(fun j c1 c2 h1 h2 h3 h4=> ?_),(fun _ _ _ h=>by cases h),(fun _ _ _ _ _ _ h=>by cases h),fun b o h=>.inl h⟩
    ·rcases hj with hj|hj
     ·simp only[List.mem_singleton,Prod.mk.injEq]at hj
      obtain⟨rfl,rfl⟩:=hj
      rcases hcase with⟨b',t',ex,h1,h2,h3,h4⟩|⟨h1,h2⟩
      ·exact .inr (.inl ⟨b',t',_,ex,h1,by rw[Data.ck bZ.dO];exact h2,bZ.data,h3,h4⟩)
      ·refine .inr (.inr ⟨h1, ?_⟩)
       exact DK bZ (by rw[h2];rfl)
     ·cases hj
    ·simp only[List.mem_singleton,Prod.mk.injEq]at h1 h2
     obtain⟨_,rfl⟩:=h1
     obtain⟨_,rfl⟩:=h2
     rw[h3]at h4;cases h4
end
structure SWb (E:Env) (c:Code) (K:bK) (fr:List (Nat×SV)) (hp:List (Nat×aA)):Prop where
 run:∀a w,RR E (fn fr hp) a w→∀b k cs,b.roundOf=(Kc E.ro).round→∃e a' w',Ac E K e a' w'∧ArrivesIn (Machine.fenced E.P (Kc E.ro)) E.P (lone (b.atR a (.code c:: .inLoop c::k)) cs w) b k cs e a' w'
end Go.Sx
namespace Go.Sx
def ay (xs:List Int):Nat→Int
 |0=>0
 |k+1=>ay xs k+xs.getD k 0*4294967296^k
def fv (xs:List Int):Prop:=∀i,0≤xs.getD i 0∧xs.getD i 0<4294967296
theorem aQ {xs:List Int} {i j:Nat} {v:Int}:(xs.set i v).getD j 0=if i=j∧j<xs.length then v else xs.getD j 0:=by
 simp only[List.getD_eq_getElem?_getD,List.getElem?_set]
 split
 ·rename_i h
  subst h
  split
  ·rename_i h1;simp[h1]
  ·rename_i h1;simp[h1]
 ·rename_i h;simp[h]
theorem dy {xs:List Int} {i:Nat} (h:xs.length≤i):xs.getD i 0=0:=by
 simp[List.getD_eq_getElem?_getD,List.getElem?_eq_none h]
theorem getD_take {xs:List Int} {i k:Nat}:(xs.take k).getD i 0=if i<k then xs.getD i 0 else 0:=by
 simp only[List.getD_eq_getElem?_getD,List.getElem?_take]
 split<;>simp
theorem jm {xs ys:List Int} {i:Nat}:(xs++ys).getD i 0=if i<xs.length then xs.getD i 0 else ys.getD (i - xs.length) 0:=by
 simp only[List.getD_eq_getElem?_getD]
 split
 ·rename_i h;rw[List.getElem?_append_left h]
 ·rename_i h;rw[List.getElem?_append_right aa]
theorem br {n i:Nat}:(List.replicate n (0:Int)).getD i 0=0:=by
 simp only[List.getD_eq_getElem?_getD,List.getElem?_replicate]
 split<;>rfl
theorem fv.set {xs:List Int} (h:fv xs) {i:Nat} {v:Int} (h0:0≤v) (h1:v<4294967296):fv (xs.set i v):=by
 intro j
 rw[aQ]
 split
 ·exact⟨h0,h1⟩
 ·exact h j
theorem BP {xs:List Int} (h:∀x∈xs,0≤x∧x<4294967296):fv xs:=by
 intro i
 rw[List.getD_eq_getElem?_getD]
 cases hx:xs[i]? with
 |none=>simp
 |some v=>simpa using h v (List.mem_of_getElem? hx)
theorem fv.mem {xs:List Int} (h:fv xs):∀x∈xs,0≤x∧x<4294967296:=by
 intro x hx
 obtain⟨i,hi⟩:=List.getElem?_of_mem hx
 have:=h i
 rw[List.getD_eq_getElem?_getD,hi]at this
 exact this
theorem qw {xs ys:List Int}:∀{k:Nat},(∀i,i<k→xs.getD i 0=ys.getD i 0)→ay xs k=ay ys k
 |0,_=>rfl
 |k+1,h=>by rw[ay,ay,qw (fun i hi=>h i aa),h k aa]
theorem cV {xs:List Int} {i k:Nat} {v:Int} (h:k≤i):ay (xs.set i v) k=ay xs k:=
 qw fun j hj=>by rw[aQ,if_neg aa]
theorem bQ {xs:List Int} (h:fv xs):∀k,0≤ay xs k
 |0=>Int.le_refl _
 |k+1=>by
  have:=bQ h k
  have h1:0≤xs.getD k 0*4294967296^k:=Int.mul_nonneg (h k).1 (Int.pow_nonneg aH)
  rw[ay];omega
theorem my (k:Nat):(0:Int)<4294967296^k:=Int.pow_pos aH
theorem fY {xs:List Int} (h:fv xs):∀k,ay xs k<4294967296^k
 |0=>by simp[ay]
 |k+1=>by
  have h1:=fY h k
  have h2:xs.getD k 0*4294967296^k≤4294967295*4294967296^k:=Int.mul_le_mul_of_nonneg_right (by have:=(h k).2;omega) (Int.le_of_lt (my k))
  rw[ay,Int.pow_succ];omega
theorem eg {xs:List Int} {k:Nat}:∀{n:Nat},(∀i,k≤i→i<n→xs.getD i 0=0)→k≤n→ay xs n=ay xs k
 |0,_,hk=>by obtain rfl:k=0:=aa
             rfl
 |n+1,h,hk=>by
  by_cases he:k=n+1
  ·subst he;rfl
  ·rw[ay,h n aa aa,eg (n:=n) (fun i h1 h2=>h i h1 aa) aa,Int.zero_mul,Int.add_zero]
def gH (xs:List Int):Nat→Nat
 |0=>0
 |n+1=>if xs.getD n 0=0 then gH xs n else n+1
theorem BQ (xs:List Int):∀n,gH xs n≤n
 |0=>Nat.le_refl _
 |n+1=>by rw[gH];split;exact Nat.le_succ_of_le (BQ xs n);exact Nat.le_refl _
theorem rN (xs:List Int):∀n,ay xs (gH xs n)=ay xs n
 |0=>rfl
 |n+1=>by
  rw[gH]
  split
  ·rename_i h;rw[rN xs n,ay,h,Int.zero_mul,Int.add_zero]
  ·rfl
theorem xC (xs:List Int):∀n,gH xs n=0∨xs.getD (gH xs n - 1) 0≠0
 |0=>.inl rfl
 |n+1=>by
  rw[gH]
  split
  ·exact xC xs n
  ·rename_i h;exact .inr h
theorem rO {xs:List Int} (h:fv xs) {k:Nat} (ht:xs.getD k 0≠0):4294967296^k≤ay xs (k+1):=by
 have h1:=bQ h k
 have h2:1*4294967296^k≤xs.getD k 0*4294967296^k:=Int.mul_le_mul_of_nonneg_right (by have:=(h k).1;omega) (Int.le_of_lt (my k))
 rw[ay];omega
theorem rP:∀(f g n:Nat),n≤f→n≤g→cH f n=cH g n
 |0,0,_,_,_=>rfl
 |0,g+1,n,h,_=>by obtain rfl:n=0:=aa
                  simp[cH]
 |f+1,0,n,_,h=>by obtain rfl:n=0:=aa
                  simp[cH]
 |f+1,g+1,n,h,h'=>by
  unfold cH
  split
  ·rfl
  ·rw[rP f g (n/4294967296) aa aa]
theorem FY {n:Nat} (h:n≠0):words n=n % 4294967296::words (n/4294967296):=by
 unfold words
 obtain⟨m,rfl⟩:∃m,n=m+1:=⟨n - 1,aa⟩
 rw[cH,if_neg h,rP m ((m+1)/4294967296) _ aa (Nat.le_refl _)]
def ae (n:Nat):List Int:=(words n).map Int.ofNat
theorem gh:ae 0=[]:=rfl
theorem gi {n:Nat} (h:n≠0):ae n=((n % 4294967296:Nat):Int)::ae (n/4294967296):=by
 rw[ae,FY h];rfl
theorem uk (x:Int) (xs:List Int):∀k,ay (x::xs) (k+1)=x+4294967296*ay xs k
 |0=>by simp[ay]
 |k+1=>by
  rw[ay,uk x xs k,ay,List.getD_cons_succ,Int.pow_succ]
  grind
theorem ey (n:Nat):ay (ae n) (ae n).length=n:=by
 induction n using Nat.strongRecOn with
 |_ n ih=>
  by_cases h:n=0
  ·subst h;rfl
  ·rw[gi h,List.length_cons,uk,ih _ aa];omega
theorem aX (n:Nat):fv (ae n):=by
 refine BP fun x hx=> ?_
 obtain⟨w,hw,rfl⟩:=List.mem_map.1 hx
 have:=xq hw
 exact⟨Int.natCast_nonneg _,by show(w:Int)<_;omega⟩
theorem rQ (n:Nat):(ae n).length=(words n).length:=by simp[ae]
theorem mz {n:Nat} (h:n≠0):(ae n).length≠0∧(ae n).getD ((ae n).length - 1) 0≠0:=by
 induction n using Nat.strongRecOn with
 |_ n ih=>
  rw[gi h]
  refine⟨by simp, ?_⟩
  by_cases h1:n/4294967296=0
  ·rw[h1,gh]
   simp only[List.length_singleton,Nat.sub_self,List.getD_cons_zero]
   omega
  ·obtain⟨h2,h3⟩:=ih _ aa h1
   obtain⟨l,hl⟩:∃l,(ae (n/4294967296)).length=l+1:=⟨(ae (n/4294967296)).length - 1,aa⟩
   simp only[List.length_cons,hl,Nat.add_sub_cancel,List.getD_cons_succ]
   rw[hl]at h3
   simpa using h3
theorem xD:∀(k:Nat) (xs:List Int),fv xs→k≤xs.length→(k=0∨xs.getD (k - 1) 0≠0)→ae (ay xs k).toNat=xs.take k
 |0,xs,_,_,_=>by simp[ay,gh]
 |k+1,[],_,h,_=>by simp at h
 |k+1,x::xs,hw,h,ht=>by
  have hx:=hw 0
  simp only[List.getD_cons_zero]at hx
  have SH:fv xs:=fun i=>by have:=hw (i+1);simpa using this
  have hv:=bQ SH k
  have V5:=xD k xs SH (by simpa using h) (by
   cases k with
   |zero=>exact .inl rfl
   |succ k=>right;have:=ht.resolve_left aa;simpa using this)
  have hn:(ay (x::xs) (k+1)).toNat≠0:=by
   have PN:=ht.resolve_left aa
   have:=rO hw (k:=k) (by simpa using PN)
   have:=my k
   omega
  rw[gi hn,uk,List.take_succ_cons]
  have e1:(x+4294967296*ay xs k).toNat % 4294967296=x.toNat:=aa
  have e2:(x+4294967296*ay xs k).toNat/4294967296=(ay xs k).toNat:=aa
  rw[e1,e2,V5]
  congr 1
  omega
theorem rR {hp:List (Nat×aA)} {k:Nat} {b:aA} (h:find hp k=some b):∀j c,(j,c)∈[(k,b)]→find hp j=some c:=dD h
theorem cM (k:Nat):(((4294967296^k:Nat)):Int)=(4294967296:Int)^k:=by rw[Int.natCast_pow];rfl
theorem gA {n k:Nat} (h:n<4294967296^k):(ae n).length≤k:=by
 by_cases hn:n=0
 ·subst hn;simp[gh]
 ·obtain⟨h1,h2⟩:=mz hn
  obtain⟨l,hl⟩:∃l,(ae n).length=l+1:=⟨(ae n).length - 1,aa⟩
  rw[hl]at h2
  have h3:=rO (aX n) (k:=l) (by simpa using h2)
  rw[←hl,ey]at h3
  refine Nat.le_of_not_lt fun aI=> ?_
  have h4:(4294967296:Int)^k≤4294967296^l:=by
   have:(4294967296:Nat)^k≤4294967296^l:=Nat.pow_le_pow_right aH aa
   rw[←cM,←cM];exact Int.ofNat_le.2 this
  have h5:(n:Int)<4294967296^k:=by rw[←cM];exact Int.ofNat_lt.2 h
  omega
theorem bY (n:Nat):n<4294967296^(ae n).length:=by
 have:=fY (aX n) (ae n).length
 rw[ey,←cM]at this
 exact Int.ofNat_lt.1 this
def Aj (fk:List (Nat×aA)):List (Nat×aA)→Bool
 |[]=>true
 |(k,_)::r=>(match find fk k with
  |some b0=>b0.wr&&b0.data.live
  |none=>false)&&Aj fk r
def rS (upd:List (Nat×aA)):List (Nat×aA)→Bool
 |[]=>true
 |(k,b)::r=>(!(b.wr&&b.data.live)||(find upd k).isSome)&&rS upd r
theorem nC {fk:List (Nat×aA)}:∀{upd:List (Nat×aA)},Aj fk upd=true→∀k b,(k,b)∈upd→∃b0,(k,b0)∈fk∧b0.wr=true∧b0.data.live=true
 |(j,c)::r,h,k,b,hm=>by
  simp only[Aj,Bool.and_eq_true]at h
  rcases List.mem_cons.1 hm with h1|h1
  ·cases h1
   cases hf:find fk j with
   |none=>rw[hf]at h;simp at h
   |some b0=>
    rw[hf]at h
    simp only[Bool.and_eq_true]at h
    exact⟨b0,jc hf,h.1⟩
  ·exact nC h.2 k b h1
theorem nD {upd:List (Nat×aA)}:∀{fk:List (Nat×aA)},rS upd fk=true→∀k b,(k,b)∈fk→b.wr=true→b.data.live=true→∃b',(k,b')∈upd
 |(j,c)::r,h,k,b,hm,hw,hl=>by
  simp only[rS,Bool.and_eq_true]at h
  rcases List.mem_cons.1 hm with h1|h1
  ·cases h1
   have:=h.1
   rw[hw,hl]at this
   cases hf:find upd j with
   |none=>rw[hf]at this;simp at this
   |some b0=>exact⟨b0,jc hf⟩
  ·exact nD h.2 k b h1 hw hl
theorem bV.of {args:List SV} {fk:List (Nat×aA)} {c:SV} {new upd:List (Nat×aA)} (h1:er (fN args) (ax fk)=true) (h2:er (gQ fk) (ax fk)=true) (h3:oO (ax fk++ax new)=true)
  (h4:rK new=true) (h5:rK upd=true) (h6:Aj fk upd=true) (h7:rS upd fk=true) (h8:er (refs c) (ax fk++ax new)=true) (h9:er (gQ new) (ax fk++ax new)=true)
  (h10:er (gQ upd) (ax fk++ax new)=true) (h11:args.all bp=true):bV args fk c new upd:=
 ⟨h1,h2,h3,h4,h5,nC h6,nD h7,h8,h9,h10,h11⟩
def Ak:List (Nat×aA)→Bool
 |[]=>true
 |(_,b)::r=> !b.wr&&Ak r
theorem nE:∀{l:List (Nat×aA)},Ak l=true→∀k b,(k,b)∈l→b.wr=false
 |(j,c)::r,h,k,b,hm=>by
  simp only[Ak,Bool.and_eq_true,Bool.not_eq_true']at h
  rcases List.mem_cons.1 hm with h1|h1
  ·cases h1;exact h.1
  ·exact nE h.2 k b h1
theorem bh.ro {fk:List (Nat×aA)} {σ:Nat→Nat} (h:Ak fk=true):bh fk [] σ:=
 ⟨(fun q q' b b' hq _ _ hw=>by rw[nE h q b hq]at hw;cases hw),(fun _ _ h=>by simp[ax]at h),(fun _ _ h=>by simp[ax]at h)⟩
theorem bh.one {m:Nat} {b:aA} {σ:Nat→Nat}:bh [] [(m,b)] σ:=
 ⟨(fun q q' b b' hq=>by cases hq),(fun m m' h1 h2 a7=>by simp[ax]at h1 h2;omega),(fun _ _ _ h=>by simp[ax]at h)⟩
theorem bh.SI {fk:List (Nat×aA)} {m:Nat} {b:aA} {σ:Nat→Nat} (h:Ak fk=true) (hn:∀q∈ax fk,σ m≠σ q):bh fk [(m,b)] σ:=
 ⟨(fun q q' b b' hq _ _ hw=>by rw[nE h q b hq]at hw;cases hw),(fun m m' h1 h2 a7=>by simp[ax]at h1 h2;omega),(fun m' q h1 h2=>by
  have h1:m'=m:=by simpa [ax]using h1
  rw[h1];exact hn q h2)⟩
theorem bh.upd {q:Nat} {b:aA} {σ:Nat→Nat}:bh [(q,b)] [] σ:=
 ⟨(fun q q' b b' h h' a7=>by simp at h h';omega),(fun _ _ h=>by simp[ax]at h),(fun _ _ h=>by simp[ax]at h)⟩
theorem bh.two {q r:Nat} {b c:aA} {σ:Nat→Nat} (h:σ q≠σ r):bh [(q,b),(r,c)] [] σ:=
 ⟨(fun x y b b' hx hy a7 _=>by
  simp only[List.mem_cons,List.not_mem_nil,or_false,Prod.mk.injEq]at hx hy
  rcases hx with⟨rfl,_⟩|⟨rfl,_⟩<;>rcases hy with⟨rfl,_⟩|⟨rfl,_⟩
  ·exact absurd rfl a7
  ·exact h
  ·exact h.symm
  ·exact absurd rfl a7),(fun _ _ h=>by simp[ax]at h),(fun _ _ h=>by simp[ax]at h)⟩
theorem eX {hp:List (Nat×aA)} {k l:Nat} {b c:aA} (h:find hp k=some b) (h':find hp l=some c):∀j d,(j,d)∈[(k,b),(l,c)]→find hp j=some d:=fun j d hm=>by
 simp only[List.mem_cons,List.not_mem_nil,or_false,Prod.mk.injEq]at hm
 rcases hm with⟨rfl,rfl⟩|⟨rfl,rfl⟩
 ·exact h
 ·exact h'
theorem dQ {fk:List (Nat×aA)} {k:Nat} {b0 b:aA} (h:(k,b0)∈fk) (h1:b0.wr=true) (h2:b0.data.live=true) (h3:b.wr=true):∀j c,(j,c)∈[(k,b)]→∃b0:aA,(j,b0)∈fk∧b0.wr=true∧b0.data.live=true∧c.wr=true:=fun j c hm=>by
 simp only[List.mem_singleton,Prod.mk.injEq]at hm
 obtain⟨rfl,rfl⟩:=hm
 exact⟨b0,h,h1,h2,h3⟩
theorem pD {fk:List (Nat×aA)} {k l:Nat} {b0 b c0 c:aA} (h:(k,b0)∈fk) (h1:b0.wr=true) (h2:b0.data.live=true) (h3:b.wr=true) (g:(l,c0)∈fk) (g1:c0.wr=true) (g2:c0.data.live=true) (g3:c.wr=true):
  ∀j d,(j,d)∈[(k,b),(l,c)]→∃b0:aA,(j,b0)∈fk∧b0.wr=true∧b0.data.live=true∧d.wr=true:=fun j d hm=>by
 simp only[List.mem_cons,List.not_mem_nil,or_false,Prod.mk.injEq]at hm
 rcases hm with⟨rfl,rfl⟩|⟨rfl,rfl⟩
 ·exact⟨b0,h,h1,h2,h3⟩
 ·exact⟨c0,g,g1,g2,g3⟩
def bE (v n:Nat):List Int:=(List.range n).map fun i=>((v/4294967296^i % 4294967296:Nat):Int)
theorem cS (v n:Nat):(bE v n).length=n:=by simp[bE]
theorem jn {v n i:Nat} (h:i<n):(bE v n).getD i 0=((v/4294967296^i % 4294967296:Nat):Int):=by
 rw[List.getD_eq_getElem?_getD,bE,List.getElem?_map,List.getElem?_range h];rfl
theorem fO (v n:Nat):fv (bE v n):=by
 refine BP fun x hx=> ?_
 obtain⟨i,_,rfl⟩:=List.mem_map.1 hx
 omega
theorem Lp {xs:List Int} (hx:fv xs) {n:Nat}:∀{k:Nat},k≤n→ay xs n % 4294967296^k=ay xs k:=by
 intro k hk
 induction n with
 |zero=>
  obtain rfl:k=0:=aa
  simp[ay]
 |succ n ih=>
  by_cases he:k=n+1
  ·subst he
   exact Int.emod_eq_of_lt (bQ hx _) (fY hx _)
  ·rw[ay,show n=k+(n - k)from aa,Int.pow_add,←show n=k+(n - k)from aa,Int.mul_left_comm,Int.add_mul_emod_self_left]
   exact ih aa
theorem Lq {xs:List Int} (hx:fv xs) {i n:Nat} (h:i<n):ay xs n/4294967296^i % 4294967296=xs.getD i 0:=by
 have h1:=Lp hx (n:=n) (k:=i+1) aa
 have hp:=my i
 have e:ay xs n=ay xs (i+1)+4294967296^(i+1)*(ay xs n/4294967296^(i+1)):=by
  rw[←h1];exact(Int.emod_add_mul_ediv _ _).symm
 have h0:=bQ hx i
 have hl:=fY hx i
 have e2:ay xs n=ay xs i+4294967296^i*(xs.getD i 0+4294967296*(ay xs n/4294967296^(i+1))):=by
  conv=>lhs;rw[e]
  rw[ay,Int.pow_succ]
  grind
 rw[e2,Int.add_mul_ediv_left _ _ aa,Int.ediv_eq_zero_of_lt h0 hl,Int.zero_add,Int.add_mul_emod_self_left]
 exact Int.emod_eq_of_lt (hx i).1 (hx i).2
theorem PO {xs:List Int} (hx:fv xs) {v:Nat} (hv:ay xs xs.length=v):xs=bE v xs.length:=by
 refine List.ext_getElem? fun i=> ?_
 by_cases hi:i<xs.length
 ·have h1:=Lq hx hi
  have h2:=jn (v:=v) hi
  rw[hv,←cM,←Int.natCast_ediv,show((v/4294967296^i:Nat):Int) % 4294967296=((v/4294967296^i % 4294967296:Nat):Int)from rfl,←h2,List.getD_eq_getElem?_getD,List.getD_eq_getElem?_getD]at h1
  have hl:i<(bE v xs.length).length:=by rw[cS];exact hi
  rw[List.getElem?_eq_getElem hi,List.getElem?_eq_getElem hl]at h1 ⊢
  simpa using h1.symm
 ·rw[List.getElem?_eq_none aa,List.getElem?_eq_none (by rw[cS];omega)]
theorem oS {xs:List Int} {n:Nat} (hl:xs.length=n) (hx:fv xs) {v:Nat} (hv:ay xs n=v):xs=bE v n:=by
 subst hl;exact PO hx hv
theorem gB (v n:Nat):ay (bE v n) n=((v % 4294967296^n:Nat):Int):=by
 have key:∀k,k≤n→ay (bE v n) k=((v % 4294967296^k:Nat):Int):=by
  intro k hk
  induction k with
  |zero=>simp[ay,Nat.mod_one]
  |succ k ih=>
   rw[ay,ih aa,jn aa,←cM,←Int.natCast_mul,←Int.natCast_add,Nat.pow_succ,Nat.mod_mul,Nat.mul_comm (4294967296^k)]
 exact key n (Nat.le_refl n)
theorem mD {xs:List Int} {i:Nat} {v:Int}:∀{n:Nat},i<n→i<xs.length→ay (xs.set i v) n=ay xs n+(v - xs.getD i 0)*4294967296^i
 |0,h,_=>aa
 |n+1,h,hl=>by
  by_cases he:i=n
  ·subst he
   rw[ay,ay,cV (Nat.le_refl _),aQ,if_pos ⟨rfl,hl⟩];grind
  ·rw[ay,ay,mD (n:=n) aa hl,aQ,if_neg aa];grind
end Go.Sx
namespace Go.Sx
theorem wf_u32 {x:Int} (h:(Lit.int .u32 x).wf=true):0≤x∧x<4294967296:=by
 simp[Lit.wf,IntKind.min,IntKind.max,IntKind.bits,IntKind.signed]at h;omega
theorem wf_u8 {x:Int} (h:(Lit.int .u8 x).wf=true):0≤x∧x<256:=by
 simp[Lit.wf,IntKind.min,IntKind.max,IntKind.bits,IntKind.signed]at h;omega
theorem wf_i64 {x:Int} (h:(Lit.int .i64 x).wf=true): -9223372036854775808≤x∧x<9223372036854775808:=by
 simp[Lit.wf,IntKind.min,IntKind.max,IntKind.bits,IntKind.signed]at h;omega
theorem Al {P:Program} {W:World} {x:String×DataW Unit} {rest:List (String×DataW Unit)} (h:laidMet P (x::rest) W):laidMet P rest W:=by
 obtain⟨n,d⟩:=x
 obtain⟨ps,⟨g,t,cs,fuel,p,q,_,_,_,_,hr,rfl⟩,hn,hb⟩:=h
 exact⟨q,hr,(List.nodup_append.1 hn).2.1,fun b off hm=>hb b off (List.mem_append.2 (.inr hm))⟩
section
variable {α:Type} {p:α→Bool} {l:List α} {d:α}
theorem mE {i:Nat} (h:i<l.length):l.getD i d∈l:=by rw[List.getD_eq_getElem?_getD,List.getElem?_eq_getElem h];exact List.getElem_mem h
theorem xE {x:α} (h:x∈l) (d:α):∃i,i<l.length∧l.getD i d=x:=by
 obtain⟨i,hi,rfl⟩:=List.getElem_of_mem h
 exact⟨i,hi,by rw[List.getD_eq_getElem?_getD,List.getElem?_eq_getElem hi];rfl⟩
theorem Lr {i:Nat} (h:i<l.length) (hp:p (l.getD i d)=true):l.any p=true:=List.any_eq_true.2 ⟨_,mE h,hp⟩
theorem Ls (d:α) (h:∀i,i<l.length→p (l.getD i d)=false):l.any p=false:=by
 rw[List.any_eq_false]
 intro x hx
 obtain⟨i,hi,rfl⟩:=xE hx d
 rw[h i hi];exact Bool.false_ne_true
theorem Lt (d:α) (h:∀i,i<l.length→p (l.getD i d)=true):l.all p=true:=by
 rw[List.all_eq_true]
 intro x hx
 obtain⟨i,hi,rfl⟩:=xE hx d
 exact h i hi
theorem Lu {i:Nat} (h:i<l.length) (hp:p (l.getD i d)=false):l.all p=false:=by
 rw[List.all_eq_false]
 exact⟨_,mE (d:=d) h,by rw[hp];exact Bool.false_ne_true⟩
end
theorem cp {i:Nat} (h:i<4611686018427387904):IntKind.i64.wrap ((i:Int)+1)=((i+1:Nat):Int):=by rw[wrap_i64 aa aa];omega
theorem jD {i n:Nat} (h:i<n):decide ((i:Int)<(n:Int))=true:=decide_eq_true aa
theorem jP {i n:Nat} (h:¬i<n):decide ((i:Int)<(n:Int))=false:=decide_eq_false aa
theorem jo {α:Type} {d e:α} {r:List α} {i n:Nat} (hi:i<n) (hn:r.length=n):(r.take i++List.replicate (n - i) d).set i (r.getD i e)=r.take (i+1)++List.replicate (n - (i+1)) d:=by
 have hl:(r.take i).length=i:=by rw[List.length_take];omega
 rw[List.set_append_right _ _ aa,hl,Nat.sub_self,show n - i=(n - (i+1))+1 from aa,List.replicate_succ,List.set_cons_zero]
 have e:r.take (i+1)=r.take i++[r.getD i e]:=by rw[List.take_add_one,List.getD_eq_getElem?_getD,List.getElem?_eq_getElem aa];rfl
 rw[e,List.append_assoc];rfl
theorem gW {α:Type} {d:α} {r:List α} {i n:Nat} (hi:i≤n) (hn:r.length=n):(r.take i++List.replicate (n - i) d).length=n:=by simp;omega
theorem kQ {α:Type} {d:α} {r:List α} {n:Nat} (hn:r.length=n):r.take n++List.replicate (n - n) d=r:=by simp[←hn]
theorem rT {α β γ:Type} {f:α→β→γ} {a:List α} {b:List β} {n:Nat} (ha:a.length=n) (hb:b.length=n):(List.zipWith f a b).length=n:=by simp[ha,hb]
theorem BR {α β γ:Type} {f:α→β→γ} {a:List α} {b:List β} {i:Nat} {d1:α} {d2:β} {d3:γ} (ha:i<a.length) (hb:i<b.length):(List.zipWith f a b).getD i d3=f (a.getD i d1) (b.getD i d2):=by
 simp[List.getD_eq_getElem?_getD,List.getElem?_zipWith,List.getElem?_eq_getElem ha,List.getElem?_eq_getElem hb]
theorem jb.fH {ρ:bI} {w w':World} {c:SV} {v:Value} (hb:RowKit.Below w.heap.size w w') (h:Has ρ c v):jb ρ w c [] [] v ρ w':=
 ⟨.refl ρ,h,fun _ _=>rfl,.fH hb,(fun k b h=>by rcases h with h|h<;>cases h),(fun _ _ _ h=>by cases h),(fun k b x h=>by cases h),(fun k b k' b' x x' h=>by cases h),fun b o h=>.inl h⟩
theorem xF {ρ:bI}:∀{vs:List Value} {z:List (List Value)},au ρ (vs.map .val) z→List.zipWith ct (vs.map .val) z=vs
 |[],z,h=>by simp
 |v::vs,z,h=>by
  simp only[List.map_cons,au,aG]at h
  obtain⟨x,r,rfl,⟨rfl,_⟩,h2⟩:=h
  simp[xF h2,ct,SV.aU]
theorem Am {P:Program} {f:FuncId} {vs:List Value} {v:Value} (hf:De P f) (hv:v.oneCell'=true) (h:∀w:World,Calls P f vs.toArray w fun e w'=>e= .returned v∧RowKit.Below w.heap.size w w'):af P f (vs.map .val) [] (.val v) [] []:=by
 refine .inl ⟨hf,fun ρ w z hz _=> ?_⟩
 rw[xF hz]
 refine(h w).mono ?_
 rintro e w' ⟨rfl,hb⟩
 exact⟨v,ρ,rfl,.fH hb (bS hv)⟩
theorem FZ {P:Program} {f:FuncId} {vs:List Value} {v:Value} (hf:De P f) (hv:v.oneCell'=true) (h:∀w:World,Calls P f vs.toArray w fun e w'=>e= .returned v∧w'=w):af P f (vs.map .val) [] (.val v) [] []:=
 Am hf hv fun w=>(h w).mono fun _ _ ⟨he,hw⟩=>⟨he,hw▸RowKit.Below.refl _ _⟩
def xG (s:ByteArray):SV:=.val (.string s)
theorem Jk {P:Program} {f:FuncId} {ss:List ByteArray} {sep:ByteArray} {v:Value} (hf:De P f) (hv:v.oneCell'=true)
  (h0:ss=[]→∀(a:Option Addr) (w:World),Calls P f #[.slice a 0 0,.string sep] w fun e w'=>e= .returned v∧w'=w)
  (h:∀(bk o c:Nat) (w:World),(∀(j:Nat) x,ss[j]? =some x→w.cell? ⟨bk,o+j,none⟩=some (.string x))→bk<w.heap.size→ss.length≤c→Calls P f #[.slice (some ⟨bk,o,none⟩) ss.length c,.string sep] w fun e w'=>e= .returned v∧RowKit.Below w.heap.size w w'):
  af P f [bX 1 xG ss,.val (.string sep)] [] (.val v) [] []:=by
 refine .inl ⟨hf,fun ρ w z hz hp=> ?_⟩
 simp only[au,aG]at hz
 obtain⟨x,_,rfl,hx,y,_,rfl,⟨rfl,_⟩,rfl⟩:=hz
 have fin:∀(a:Value),(Calls P f #[a,.string sep] w fun e w'=>e= .returned v∧RowKit.Below w.heap.size w w')→Calls P f (List.zipWith ct [bX 1 xG ss,SV.val (.string sep)] [[a],[.string sep]]).toArray w fun e w'=>∃v' ρ',e= .returned v'∧jb ρ w (.val v) [] [] v' ρ' w':=fun a hc=>by
  have e:(List.zipWith ct [bX 1 xG ss,SV.val (.string sep)] [[a],[.string sep]]).toArray= #[a,.string sep]:=by simp[ct,SV.aU,I5]
  rw[e]
  refine hc.mono ?_
  rintro e w' ⟨rfl,hb⟩
  exact⟨v,ρ,rfl,.fH hb (bS hv)⟩
 rcases hx with⟨hn,a,rfl⟩|⟨hg,b,cap,z,pre,ex,ty,fz,h1,h2,h3,h4,h5,rfl⟩
 ·refine fin _ ?_
  have hn:ss=[]:=by simpa using hn
  exact(h0 hn a w).mono fun _ _ ⟨he,hw⟩=>⟨he,hw▸RowKit.Below.refl _ _⟩
 ·refine fin _ ?_
  rw[List.length_map]at h4 ⊢
  have hh:=hp.aT b _ h1
  have hz:∀(l:List ByteArray) (z:List (List Value)),au (cE ρ.aT hg) (l.map xG) z→z.flatten=l.map .string:=by
   intro l
   induction l with
   |nil=>intro z hz;simp only[List.map_nil,au]at hz;subst hz;rfl
   |cons s l ih=>
    intro z hz
    simp only[List.map_cons,au,xG,aG]at hz
    obtain⟨x,r,rfl,⟨rfl,_⟩,h⟩:=hz
    simp[ih r h]
  refine h b pre.length cap w (fun j x hj=> ?_) ?_ h4
  ·rw[cell_of_row w b _ _ ty fz hh,List.getElem?_toArray,List.getElem?_append_right aa,Nat.add_sub_cancel_left,hz ss z h2]
   rw[List.getElem?_append_left (by rw[List.length_map];exact(List.getElem?_eq_some_iff.1 hj).1),List.getElem?_map,hj];rfl
  ·rcases Nat.lt_or_ge b w.heap.size with h'|h'
   ·exact h'
   ·simp[Array.getElem?_eq_none h']at hh
theorem gC {α:Type} {E:Env} (t k:Nat) {c:Code} {K:bK} {fr:List (Nat×SV)} {hp:List (Nat×aA)} {ty:TypeId} {w n:Nat} {f:α→SV} {l:List α} (hW:∀b,¬E.W0 b) (hf:∀x,bA (f x)=true) (ht:lk fr t=some (.aK k w 0 n)) (hk:find hp k=some ⟨ty,true,.seq w (l.map f)⟩)
  (hn:n=l.length) (hs:dG E c K ((t,bX w f l)::fr) (eD hp k ⟨ty,true,.dead⟩)):dG E c K fr hp:=by
 refine kN t k (xs:=l.map f) hW ht hk rfl rfl (bT hf l) (by simp;omega) ?_
 rw[gU (by simp;omega)]
 exact hs
theorem af.args {P:Program} {f:FuncId} {args args':List SV} {fk:List (Nat×aA)} {c:SV} {new upd:List (Nat×aA)} (h:af P f args' fk c new upd) (hr:∀ρ z,au ρ args z→au ρ args' z) (hz:∀z,List.zipWith ct args z=List.zipWith ct args' z):af P f args fk c new upd:=by
 rcases h with⟨h1,h2⟩|h2
 ·exact .inl ⟨h1,fun ρ w z h hp=>by rw[hz];exact h2 ρ w z (hr ρ z h) hp⟩
 ·exact .inr fun ρ w z h hp=>by rw[hz];exact h2 ρ w z (hr ρ z h) hp
theorem nF {ρ:bI} {a:Option Addr} {w:Nat} {x:List Value} (h:aG ρ (.val (.slice a 0 0)) x):aG ρ (ed w []) x:=by
 simp only[aG]at h ⊢
 exact .inl ⟨rfl,a,h.1⟩
theorem Lv {α:Type} {d e:α} {r:List α} {i n:Nat} (hi:i<n) (hn:r.length=n):(r.take i++List.replicate (n - i) d).getD i e=d:=by
 have hl:(r.take i).length=i:=by rw[List.length_take];omega
 rw[List.getD_eq_getElem?_getD,List.getElem?_append_right aa,hl,Nat.sub_self,List.getElem?_replicate,if_pos aa];rfl
end Go.Sx
