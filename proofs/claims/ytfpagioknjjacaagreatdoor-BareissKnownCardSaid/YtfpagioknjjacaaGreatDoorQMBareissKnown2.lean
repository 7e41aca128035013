/- The texts SxH, SxI, SxN, SxO, SxP, SxR, SxS, SxW, SxX, SxT, SxU, SxV, SxY, Tab. -/
import Derived.Tactics
import Derived.Scope
import Derived.KernelRfl
import Derived.Carry
import Derived.OpenShut
import Derived.Deep.Slices
import Derived.Lib.LaidTab
import Derived.Laws.CopyRow
import Derived.Test.YtfpagioknjjacaaGreatDoorRows
import Derived.Test.YtfpagioknjjacaaGreatDoorQMBareissKnown1
namespace Go.Sx
structure fU where
 rt:List Nat
 rk:List Nat
 wt:Option Nat
 wk:List Nat
def ax:List (Nat×aC)→List Nat
 |[]=>[]
 |(k,_)::r=>k::ax r
theorem aT {l:List (Nat×aC)} {k:Nat}:k∈ax l↔∃b,(k,b)∈l:=by
 induction l with
 |nil=>simp[ax]
 |cons x l ih=>
  obtain⟨j,b⟩:=x
  simp only[ax,List.mem_cons,ih,Prod.mk.injEq]
  constructor
  ·rintro(rfl|⟨b',h⟩)
   ·exact⟨b,.inl ⟨rfl,rfl⟩⟩
   ·exact⟨b',.inr h⟩
  ·rintro⟨b',⟨rfl,rfl⟩|h⟩
   ·exact .inl rfl
   ·exact .inr ⟨b',h⟩
def BP (dst:Option Nat) (c:SV) (fr:List (Nat×SV)):List (Nat×SV):=
 match dst with
 |some d=>(d,c)::fr
 |none=>fr
def fI (hp:List (Nat×aC)) (k:Nat) (b:aC):List (Nat×aC):=
 match hp with
 |[]=>[(k,b)]
 |(j,c)::r=>match Nat.beq j k with
  |true=>(k,b)::r
  |false=>(j,c)::fI r k b
def vE (ks:List (Nat×aC)) (hp:List (Nat×aC)):List (Nat×aC):=
 match ks with
 |[]=>hp
 |(k,b)::r=>fI (vE r hp) k b
theorem cn {k:Nat} {b:aC}:∀(hp:List (Nat×aC)) (j:Nat),find (fI hp k b) j=if j=k then some b else find hp j
 |[],j=>by
  simp only[fI,find]
  cases h:Nat.beq k j with
  |true=>rw[if_pos (Nat.eq_of_beq_eq_true h).symm]
  |false=>rw[if_neg];rintro rfl;simp[Nat.beq_refl]at h
 |(i,c)::r,j=>by
  have ih:=cn (k:=k) (b:=b) r j
  simp only[fI]
  cases h:Nat.beq i k with
  |true=>
   have hik:=Nat.eq_of_beq_eq_true h
   subst hik
   simp only[find]
   cases h2:Nat.beq i j with
   |true=>rw[if_pos (Nat.eq_of_beq_eq_true h2).symm]
   |false=>rw[if_neg];rintro rfl;simp[Nat.beq_refl]at h2
  |false=>
   simp only[find]
   cases h2:Nat.beq i j with
   |true=>
    have GG:=Nat.eq_of_beq_eq_true h2
    subst GG
    rw[if_neg]
    rintro rfl
    simp[Nat.beq_refl]at h
   |false=>exact ih
theorem yg:∀(ks hp:List (Nat×aC)) (j:Nat),find (vE ks hp) j=match find ks j with
  |some b=>some b
  |none=>find hp j
 |[],hp,j=>by simp[vE,find]
 |(k,b)::r,hp,j=>by
  have ih:=yg r hp j
  simp only[vE,cn,find]
  cases h:Nat.beq k j with
  |true=>rw[if_pos (Nat.eq_of_beq_eq_true h).symm]
  |false=>rw[if_neg (by rintro rfl;simp[Nat.beq_refl]at h),ih]
def fn (fr:List (Nat×SV)) (hp:List (Nat×aC)):Loc→LV
 |.t n=>.t (lk fr n)
 |.k n=>.k (find hp n)
theorem vF (dst:Option Nat) (c:SV) (ks:List (Nat×aC)) (fr:List (Nat×SV)) (hp:List (Nat×aC)):lay dst c ks (fn fr hp)=fn (BP dst c fr) (vE ks hp):=by
 funext l
 cases l with
 |t n=>
  simp only[lay,fn]
  cases dst with
  |none=>simp[BP]
  |some d=>
   simp only[Option.some.injEq,BP,lk]
   cases h:Nat.beq d n with
   |true=>rw[if_pos (Nat.eq_of_beq_eq_true h)]
   |false=>rw[if_neg (by rintro rfl;simp[Nat.beq_refl]at h)]
 |k n=>
  simp only[lay,fn,yg]
  cases find ks n<;>rfl
structure Env where
 P:Program
 T:List (TypeId×TI)
 W0:Nat→Prop
 w0:World
 n:Nat
 ρ0:bY
 fx:List Nat
 Z:List Nat
 ro:Option Nat
structure Ext (E:Env) (ρ:bY):Prop where
 le:E.ρ0.Le ρ
 aY:∀b o,ρ.aY b=some o→E.ρ0.aY b=some o∨E.w0.heap.size≤b
 fix:∀k,k∈E.fx→ρ.key k=E.ρ0.key k
def RR (E:Env) (s:Loc→LV) (a:Act) (w:World):Prop:=∃ρ,Ext E ρ∧(∀k,k∈E.fx→(s (.k k)).blk≠none)∧R E.W0 E.w0 E.n ρ s a w
def vG (E:Env) (ops:Array Oper) (o:Oper) (fr:List (Nat×SV)) (hp:List (Nat×aC)) (f:fU) (c:SV) (ks:List (Nat×aC)):Prop:=
 f.wt=o.dst∧(∀k,k∈f.wk↔∃b,(k,b)∈ks)∧
  ∀s,(∀t,t∈f.rt→s (.t t)=fn fr hp (.t t))→(∀k,k∈f.rk∨k∈f.wk→s (.k k)=fn fr hp (.k k))→∀a w,RR E s a w→
   (if Region.wanted o (yielded ops a.tmps)then goes E.P o a w (fun a' w'=>RR E (lay o.dst c ks s) a' w')else RR E (lay o.dst c ks s) (a.put o.dst undef) w)
def yh (n:Nat):Option Nat→Bool
 |none=>true
 |some d=>Nat.blt d n
def vH (F:SV→(SV→Prop)→Prop) (l:List SV):(List SV→Prop)→Prop:=
 List.rec (motive:=fun _=>(List SV→Prop)→Prop) (fun K=>K []) (fun c _ ih K=>F c fun c'=>ih fun l'=>K (c'::l')) l
def ox (F:SV→(SV→Prop)→Prop) (c:SV) (K:SV→Prop):Prop:=match c with
  |.agg cs=>vH F cs fun l=>K (.agg l)
  |.ct cs=>vH F cs fun l=>K (.ct l)
  |.any=>K .any
  |.val v=>K (.val v)
  |.ptr k s i r=>K (.ptr k s i r)
  |.aN k s i n=>K (.aN k s i n)
  |.nat n=>K (.nat n)
  |.int z=>K (.int z)
  |.frac q=>K (.frac q)
  |.atom p=>K (.atom p)
  |.clo f a b=>K (.clo f a b)
  |.yld l rc ts a=>K (.yld l rc ts a)
def Dx (c:SV) (K:SV→Prop):Prop:=ox (ox (ox (ox fun c K=>K c))) c K
def qw (b:aC) (K:aC→Prop):Prop:=match b with
 |⟨ty,wr,d⟩=>match d with
  |.one cs=>vH Dx cs fun l=>K ⟨ty,wr,.one l⟩
  |.ints kd xs=>K ⟨ty,wr,.ints kd xs⟩
  |.cm xs=>K ⟨ty,wr,.cm xs⟩
  |.seq w xs=>K ⟨ty,wr,.seq w xs⟩
  |.dead=>K ⟨ty,wr,.dead⟩
  |.loop rc=>K ⟨ty,wr,.loop rc⟩
def zQ (l:List (Nat×aC)):(List (Nat×aC)→Prop)→Prop:=
 List.rec (motive:=fun _=>(List (Nat×aC)→Prop)→Prop) (fun K=>K []) (fun x _ ih K=>match x with
  |(k,b)=>qw b fun b'=>ih fun r'=>K ((k,b')::r')) l
def vI (l:List Nat):(List Nat→Prop)→Prop:=
 List.rec (motive:=fun _=>(List Nat→Prop)→Prop) (fun K=>K []) (fun x _ ih K=>ih fun r'=>K (x::r')) l
def zU (l:List (Nat×SV)):(List (Nat×SV)→Prop)→Prop:=
 List.rec (motive:=fun _=>(List (Nat×SV)→Prop)→Prop) (fun K=>K []) (fun x _ ih K=>match x with
  |(t,c)=>ih fun r'=>K ((t,c)::r')) l
def IB (d:Option Nat) (K:Option Nat→Prop):Prop:=match d with
 |none=>K none
 |some t=>K (some t)
def PF (dst:Option Nat) (c:SV) (fr:List (Nat×SV)) (K:List (Nat×SV)→Prop):Prop:=match dst with
 |some d=>K ((d,c)::fr)
 |none=>K fr
def E4 (hp:List (Nat×aC)) (k:Nat) (b:aC):(List (Nat×aC)→Prop)→Prop:=
 List.rec (motive:=fun _=>(List (Nat×aC)→Prop)→Prop) (fun K=>K [(k,b)]) (fun x r ih K=>match x with
  |(j,c)=>match Nat.beq j k with
   |true=>K ((k,b)::r)
   |false=>ih fun r'=>K ((j,c)::r')) hp
def IC (ks hp:List (Nat×aC)):(List (Nat×aC)→Prop)→Prop:=
 List.rec (motive:=fun _=>(List (Nat×aC)→Prop)→Prop) (fun K=>K hp) (fun x _ ih K=>match x with
  |(k,b)=>ih fun cd=>E4 cd k b K) ks
theorem rP {F:SV→(SV→Prop)→Prop} (hF:∀c K,F c K=K c):∀(l:List SV) (K:List SV→Prop),vH F l K=K l
 |[],K=>rfl
 |c::l,K=>by
  show F c (fun c'=>vH F l fun l'=>K (c'::l'))=_
  rw[hF,rP hF l]
theorem mG {F:SV→(SV→Prop)→Prop} (hF:∀c K,F c K=K c) (c:SV) (K:SV→Prop):ox F c K=K c:=by
 cases c<;>simp only[ox,rP hF]
theorem yi (c:SV) (K:SV→Prop):Dx c K=K c:=mG (mG (mG (mG fun _ _=>rfl))) c K
theorem BQ (b:aC) (K:aC→Prop):qw b K=K b:=by
 obtain⟨ty,wr,d⟩:=b
 cases d<;>simp only[qw,rP yi]
theorem yj:∀(l:List (Nat×aC)) (K:List (Nat×aC)→Prop),zQ l K=K l
 |[],K=>rfl
 |(k,b)::l,K=>by
  show qw b (fun b'=>zQ l fun r'=>K ((k,b')::r'))=_
  rw[BQ,yj l]
theorem yk:∀(l:List Nat) (K:List Nat→Prop),vI l K=K l
 |[],K=>rfl
 |x::l,K=>by
  show vI l (fun r'=>K (x::r'))=_
  rw[yk l]
theorem yl:∀(l:List (Nat×SV)) (K:List (Nat×SV)→Prop),zU l K=K l
 |[],K=>rfl
 |(t,c)::l,K=>by
  show zU l (fun r'=>K ((t,c)::r'))=_
  rw[yl l]
theorem GH (d:Option Nat) (K:Option Nat→Prop):IB d K=K d:=by cases d<;>rfl
theorem ID (dst:Option Nat) (c:SV) (fr:List (Nat×SV)) (K:List (Nat×SV)→Prop):PF dst c fr K=K (BP dst c fr):=by cases dst<;>rfl
theorem BR:∀(hp:List (Nat×aC)) (k:Nat) (b:aC) (K:List (Nat×aC)→Prop),E4 hp k b K=K (fI hp k b)
 |[],k,b,K=>rfl
 |(j,c)::r,k,b,K=>by
  show(match Nat.beq j k with
   |true=>K ((k,b)::r)
   |false=>E4 r k b fun r'=>K ((j,c)::r'))=_
  simp only[fI,BR r]
  cases Nat.beq j k<;>rfl
theorem BS:∀(ks hp:List (Nat×aC)) (K:List (Nat×aC)→Prop),IC ks hp K=K (vE ks hp)
 |[],hp,K=>rfl
 |(k,b)::r,hp,K=>by
  show IC r hp (fun cd=>E4 cd k b K)=_
  rw[BS r,BR,vE]
def ym (dst:Option Nat) (rt:List Nat) (fr:List (Nat×SV)) (hp:List (Nat×aC)) (fs:List fU) (c:SV) (fk new upd:List (Nat×aC)) (K:List (Nat×SV)→List (Nat×aC)→List fU→Prop):Prop:=
 IB dst fun dst=>Dx c fun c=>zQ new fun new=>zQ upd fun upd=>PF dst c fr fun fr'=>IC (upd++new) hp fun cd=>
  vI rt fun rt=>vI (ax fk) fun rk=>vI (ax (upd++new)) fun wk=>K fr' cd (⟨rt,rk,dst,wk⟩::fs)
theorem IE (dst:Option Nat) (rt:List Nat) (fr:List (Nat×SV)) (hp:List (Nat×aC)) (fs:List fU) (c:SV) (fk new upd:List (Nat×aC)) (K:List (Nat×SV)→List (Nat×aC)→List fU→Prop):
  ym dst rt fr hp fs c fk new upd K=K (BP dst c fr) (vE (upd++new) hp) (⟨rt,ax fk,dst,ax (upd++new)⟩::fs):=by
 simp only[ym,GH,yi,yj,ID,BS,yk]
def zV (E:Env) (ops:List Oper) (o:Oper) (_:List Oper) (ih:List (Nat×SV)→List (Nat×aC)→List fU→(List (Nat×SV)→List (Nat×aC)→List fU→Prop)→Prop)
  (fr:List (Nat×SV)) (hp:List (Nat×aC)) (fs:List fU) (K:List (Nat×SV)→List (Nat×aC)→List fU→Prop):Prop:=
  match yh E.n o.dst with
  |false=>False
  |true=>
   match o.guard with
   |none=>zU (pick fr (looks o)) fun p=>exec E.P E.T E.Z p hp o fun c fk new upd=>ym o.dst (looks o) fr hp fs c fk new upd fun fr' cd fs'=>ih fr' cd fs' K
   |some (j,want)=>
    match (ops[j]?).bind (·.dst)with
    |none=>False
    |some d=>match lk fr d with
     |some (.val (.bool b))=>
      (b=want→zU (pick fr (looks o)) fun p=>exec E.P E.T E.Z p hp o fun c fk new upd=>ym o.dst (d::looks o) fr hp fs c fk new upd fun fr' cd fs'=>ih fr' cd fs' K)∧
      (b= !want→ym o.dst [d] fr hp fs (.ct []) [] [] [] fun fr' cd fs'=>ih fr' cd fs' K)
     |some (.ct [])=>ym o.dst [d] fr hp fs (.ct []) [] [] [] fun fr' cd fs'=>ih fr' cd fs' K
     |_=>False
def RL (fr:List (Nat×SV)) (hp:List (Nat×aC)) (fs:List fU) (K:List (Nat×SV)→List (Nat×aC)→List fU→Prop):Prop:=K fr hp fs
def lex (E:Env) (ops:List Oper) (l:List Oper):List (Nat×SV)→List (Nat×aC)→List fU→(List (Nat×SV)→List (Nat×aC)→List fU→Prop)→Prop:=
 List.rec (motive:=fun _=>List (Nat×SV)→List (Nat×aC)→List fU→(List (Nat×SV)→List (Nat×aC)→List fU→Prop)→Prop) RL (zV E ops) l
theorem lex_nil (E:Env) (ops:List Oper) (fr:List (Nat×SV)) (hp:List (Nat×aC)) (fs:List fU) (K:List (Nat×SV)→List (Nat×aC)→List fU→Prop):lex E ops [] fr hp fs K=K fr hp fs:=rfl
theorem IF (E:Env) (ops:List Oper) (o:Oper) (r:List Oper) (fr:List (Nat×SV)) (hp:List (Nat×aC)) (fs:List fU) (K:List (Nat×SV)→List (Nat×aC)→List fU→Prop):
  lex E ops (o::r) fr hp fs K=zV E ops o r (lex E ops r) fr hp fs K:=rfl
theorem zX {E:Env} {s:Loc→LV} {a:Act} {w:World} {dst:Option Nat} (h:RR E s a w) (hd:yh E.n dst=true):RR E (lay dst (.ct []) [] s) (a.put dst undef) w:=by
 obtain⟨ρ,hle,hfx,h⟩:=h
 have hk:∀k,lay dst (.ct []) [] s (.k k)=s (.k k):=fun k=>by simp[lay,find]
 refine⟨ρ,hle,fun k hf=>by rw[hk];exact hfx k hf, ?_⟩
 refine {defers:= ?_,size:= ?_,fr:= ?_,bO:=h.bO,hp:= ?_}
 ·have:(a.put dst undef).defers=a.defers:=by cases dst<;>simp[Act.put]
  rw[this];exact h.defers
 ·cases dst<;>simp[Act.put,h.size]
 ·intro t sv ht
  simp only[lay]at ht
  by_cases hdt:dst=some t
  ·rw[if_pos hdt]at ht
   cases ht
   have:(a.put dst undef).tmps.getD t undef=undef:=by
    subst hdt
    simp only[yh]at hd
    have aA:t<E.n:=by simpa [Nat.blt_eq]using hd
    simp[Act.put,h.size,aA]
   rw[this]
   simp only[Has]
   exact⟨[],by simp[au],by simp[undef]⟩
  ·rw[if_neg hdt]at ht
   have:(a.put dst undef).tmps.getD t undef=a.tmps.getD t undef:=by
    cases Io:dst with
    |none=>rfl
    |some d=>
     have b6:d≠t:=fun he=>hdt (by rw[Io,he])
     simp[Act.put,Array.getElem?_setIfInBounds_ne b6]
   rw[this];exact h.fr t sv ht
 ·exact {
   blk:=fun k b hb=>h.hp.blk k b (by rwa [hk]at hb)
   sep:=fun k k' x x' b b' h1 h2 h3 h4 hb gj=>h.hp.sep k k' x x' b b' h1 h2 h3 h4 (by rwa [hk]at hb) (by rwa [hk]at gj)
   own:=fun k b x hb=>h.hp.own k b x (by rwa [hk]at hb)
   rL:=fun k x hx=>by rw[hk];exact h.hp.rL k x hx
   aY:=h.hp.aY
   fb:=fun k b x hb=>h.hp.fb k b x (by rwa [hk]at hb)}
theorem E5 {E:Env} {ops:Array Oper} {o:Oper} {fr:List (Nat×SV)} {hp:List (Nat×aC)} {c:SV} {fk new upd:List (Nat×aC)} {rt:List Nat}
  (hd:yh E.n o.dst=true) (hop:bV E.P o (pick fr (looks o)) fk c new upd) (mu:∀j b,(j,b)∈fk→find hp j=some b) (fg:∀j b,(j,b)∈new→find hp j=none)
  (hupd:∀j b,(j,b)∈upd→∃b0,(j,b0)∈fk∧b0.wr=true∧b0.data.live=true∧b.wr=true) (hrt:∀t,t∈looks o→t∈rt)
  (hw:∀s,(∀t,t∈rt→s (.t t)=fn fr hp (.t t))→∀a w,RR E s a w→Region.wanted o (yielded ops a.tmps)=true):
  vG E ops o fr hp ⟨rt,ax fk,o.dst,ax (upd++new)⟩ c (upd++new):=by
 refine⟨rfl,fun k=>aT,fun s ht hk a w hR=> ?_⟩
 rw[if_pos (hw s ht a w hR)]
 obtain⟨ρ,hle,hfx,hR⟩:=hR
 have my:∀k,(∃b,(k,b)∈fk)∨(∃b,(k,b)∈upd++new)→(s (.k k)).blk=find hp k:=by
  intro k h
  rw[hk k (h.imp aT.2 aT.2)]
  rfl
 have aA:∀d,o.dst=some d→d<E.n:=fun d h=>by rw[h]at hd;simpa [yh,Nat.blt_eq]using hd
 refine ou ?_ (Ip hop hR (fun t sv h=>by rw[ht t (hrt t (lQ h).2)];exact(lQ h).1) (fun k b h=>by rw[my k (.inl ⟨b,h⟩)];exact mu k b h)
  (fun k b h=>by rw[my k (.inr ⟨b,List.mem_append.2 (.inr h)⟩)];exact fg k b h) hupd aA)
 rintro a' w' ⟨ρ',h1,h4,h3,h2⟩
 refine⟨ρ',⟨hle.le.trans h1,fun b o hb=>(h3 b o hb).elim (hle.aY b o) .inr,fun k hf=>by rw[h4 k (hfx k hf)];exact hle.fix k hf⟩,fun k hf=> ?_,h2⟩
 simp only[lay]
 cases find (upd++new) k with
 |some b=>simp[LV.blk]
 |none=>exact hfx k hf
theorem vJ {E:Env} {ops:Array Oper} {o:Oper} {fr:List (Nat×SV)} {hp:List (Nat×aC)} {rt:List Nat} (hd:yh E.n o.dst=true)
  (hw:∀s,(∀t,t∈rt→s (.t t)=fn fr hp (.t t))→∀a w,RR E s a w→Region.wanted o (yielded ops a.tmps)=false):
  vG E ops o fr hp ⟨rt,[],o.dst,[]⟩ (.ct []) []:=by
 refine⟨rfl,fun k=>by simp,fun s ht _ a w hR=> ?_⟩
 rw[hw s ht a w hR]
 simp only[Bool.false_eq_true,if_false]
 exact zX hR hd
structure Rec where
 f:fU
 o:Oper
 c:SV
 ks:List (Nat×aC)
 fr:List (Nat×SV)
 hp:List (Nat×aC)
def Dy (E:Env) (ops:Array Oper):List Oper→List (Nat×SV)→List (Nat×aC)→List Rec→List (Nat×SV)→List (Nat×aC)→Prop
 |[],fr,hp,recs,fr',cd=>recs=[]∧fr'=fr∧cd=hp
 |o::l,fr,hp,recs,fr',cd=>∃rc rest,recs=rc::rest∧rc.o=o∧rc.fr=fr∧rc.hp=hp∧vG E ops o fr hp rc.f rc.c rc.ks∧Dy E ops l (BP o.dst rc.c fr) (vE rc.ks hp) rest fr' cd
theorem vK {ops:Array Oper} {a:Act} {j d:Nat} (h:(ops[j]?).bind (·.dst)=some d) {b:Bool} (hv:a.tmps.getD d undef= .bool b):yielded ops a.tmps j=some b:=by
 unfold yielded
 rw[h]
 have:a.tmps[d]? =some (.bool b):=by
  rw[Array.getD_eq_getD_getElem?]at hv
  cases hx:a.tmps[d]? with
  |none=>rw[hx]at hv;simp[undef]at hv
  |some v=>rw[hx]at hv;simp at hv;rw[hv]
 simp[this]
theorem xP {ops:Array Oper} {a:Act} {j d:Nat} (h:(ops[j]?).bind (·.dst)=some d) (hv:a.tmps.getD d undef=undef):yielded ops a.tmps j=none:=by
 unfold yielded
 rw[h]
 rw[Array.getD_eq_getD_getElem?]at hv
 cases hx:a.tmps[d]? with
 |none=>simp[hx]
 |some v=>rw[hx]at hv;simp[undef]at hv;simp[hx,hv]
theorem qx {E:Env} (hT:gQ E.P E.T) {ops:List Oper} {K:List (Nat×SV)→List (Nat×aC)→List fU→Prop}:∀(l:List Oper) (fr:List (Nat×SV)) (hp:List (Nat×aC)) (fs:List fU),lex E ops l fr hp fs K→
  ∃recs fr' cd,Dy E ops.toArray l fr hp recs fr' cd∧K fr' cd ((recs.map (·.f)).reverse++fs)
 |[],fr,hp,fs,h=>⟨[],fr,hp,⟨rfl,rfl,rfl⟩,by simpa [lex_nil]using h⟩
 |o::l,fr,hp,fs,h=>by
  rw[IF]at h
  unfold zV at h
  simp only[IE,yl]at h
  split at h
  ·exact h.elim
  ·rename_i hd
   have MX:∀(f:fU) (c:SV) (ks:List (Nat×aC)),vG E ops.toArray o fr hp f c ks→lex E ops l (BP o.dst c fr) (vE ks hp) (f::fs) K→
     ∃recs fr' cd,Dy E ops.toArray (o::l) fr hp recs fr' cd∧K fr' cd ((recs.map (·.f)).reverse++fs):=by
    intro f c ks hs hl
    obtain⟨recs,fr',cd,h1,h2⟩:=qx hT l _ _ _ hl
    exact⟨⟨f,o,c,ks,fr,hp⟩::recs,fr',cd,⟨_,_,rfl,rfl,rfl,rfl,hs,h1⟩,by simpa using h2⟩
   split at h
   ·rename_i hg
    obtain⟨c,fk,new,upd,h1,h2,h3,h4,h5⟩:=yf hT h
    exact MX _ _ _ (E5 hd h1 h2 h3 h4 (fun t ht=>ht) (fun s _ a w _=>by simp[Region.wanted,hg])) h5
   ·rename_i j want hg
    split at h
    ·exact h.elim
    ·rename_i d hj
     have nG:((ops.toArray)[j]?).bind (·.dst)=some d:=by simpa using hj
     have b7:∀(sv:SV) (rt:List Nat),lk fr d=some sv→d∈rt→∀s,(∀t,t∈rt→s (.t t)=fn fr hp (.t t))→∀a w,RR E s a w→∃ρ,Has ρ sv (a.tmps.getD d undef):=by
      intro sv rt hlk Io s hs a w hR
      obtain⟨ρ,_,_,hR⟩:=hR
      exact⟨ρ,hR.fr d sv (by rw[hs d Io];simp[fn,hlk,LV.sv])⟩
     split at h
     ·rename_i b hlk
      rcases(show b=want∨b= !want by cases b<;>cases want<;>simp)with hb|hb
      ·obtain⟨c,fk,new,upd,h1,h2,h3,h4,h5⟩:=yf hT (h.1 hb)
       refine MX _ _ _ (E5 (rt:=d::looks o) hd h1 h2 h3 h4 (fun t ht=>List.mem_cons_of_mem _ ht) (fun s hs a w hR=> ?_)) h5
       obtain⟨ρ,hv⟩:=b7 _ _ hlk (List.mem_cons_self ..) s hs a w hR
       have:=vK nG (aI hv)
       simp[Region.wanted,hg,this,hb]
      ·refine MX _ _ _ (vJ (rt:=[d]) hd (fun s hs a w hR=> ?_)) (h.2 hb)
       obtain⟨ρ,hv⟩:=b7 _ _ hlk (List.mem_cons_self ..) s hs a w hR
       have:=vK nG (aI hv)
       simp[Region.wanted,hg,this,hb]
     ·rename_i hlk
      refine MX _ _ _ (vJ (rt:=[d]) hd (fun s hs a w hR=> ?_)) h
      obtain⟨ρ,hv⟩:=b7 _ _ hlk (List.mem_cons_self ..) s hs a w hR
      simp only[Has,au]at hv
      obtain⟨z,rfl,hv⟩:=hv
      have:=xP nG (by rw[hv];rfl)
      simp[Region.wanted,hg,this]
     ·exact h.elim
theorem rQ {E:Env} {ops:Array Oper} {Q:Exit→Act→World→Prop}:∀(l:List Oper) (fr:List (Nat×SV)) (hp:List (Nat×aC)) (recs:List Rec) (fr':List (Nat×SV)) (cd:List (Nat×aC)),Dy E ops l fr hp recs fr' cd→
  (∀a w,RR E (fn fr' cd) a w→Q .normal a w)→∀a w,RR E (fn fr hp) a w→wpListIn (EY E.ro) 0 E.P ops Q l a w
 |[],fr,hp,recs,fr',cd,h,hQ,a,w,hR=>by
  obtain⟨_,rfl,rfl⟩:=h
  exact hQ a w hR
 |o::l,fr,hp,recs,fr',cd,h,hQ,a,w,hR=>by
  obtain⟨rc,rest,rfl,_,_,_,⟨_,_,hs⟩,h2⟩:=h
  have ih:=rQ l _ _ _ _ _ h2 hQ
  have:=hs (fn fr hp) (fun _ _=>rfl) (fun _ _=>rfl) a w hR
  unfold wpListIn
  split
  ·rename_i hw
   rw[if_pos hw]at this
   refine rN (ou ?_ this)
   intro a' w' jw
   rw[vF]at jw
   exact ih a' w' jw
  ·rename_i hw
   rw[if_neg hw,vF]at this
   exact⟨fun _ _=>trivial,ih _ _ this⟩
def pJ (acc:List Nat):List Edge→Nat
 |[]=>0
 |e::r=>match Region.binds .any e with
  |true=>2^e.on|||(acc.getD e.on 0|||pJ acc r)
  |false=>pJ acc r
def yn:List Oper→List Nat→List Nat
 |[],acc=>acc
 |o::r,acc=>yn r (acc++[pJ acc o.after.toList])
def qy (i:Nat):List Edge→Bool
 |[]=>true
 |e::r=>match Region.binds .any e with
  |true=>Nat.blt e.on i&&qy i r
  |false=>qy i r
def qz:Nat→List Oper→Bool
 |_,[]=>true
 |i,o::r=>qy i o.after.toList&&qz (i+1) r
def uD (x:Nat):List Nat→Bool
 |[]=>false
 |y::r=>Nat.beq x y||uD x r
def meets:List Nat→List Nat→Bool
 |[],_=>false
 |x::r,l=>uD x l||meets r l
def PG:Option Nat→List Nat
 |none=>[]
 |some d=>[d]
def BT (f g:fU):Bool:=
 meets (PG f.wt) g.rt||(meets (PG f.wt) (PG g.wt)||(meets (PG g.wt) f.rt||(meets f.wk g.rk||(meets f.wk g.wk||meets g.wk f.rk))))
def BU (f:fU) (m:Nat):Nat→List fU→Bool
 |_,[]=>true
 |i,g::r=>(!BT g f||Nat.testBit m i)&&BU f m (i+1) r
def zY (ms:List Nat) (done:List fU):Nat→List fU→Bool
 |_,[]=>true
 |j,f::r=>BU f (ms.getD j 0) 0 done&&zY ms (done++[f]) (j+1) r
def indep (ops:List Oper) (fs:List fU):Bool:=qz 0 ops&&zY (yn ops []) [] 0 fs
theorem iW {x:Nat}:∀{l:List Nat},uD x l=true↔x∈l
 |[]=>by simp[uD]
 |y::r=>by
  simp only[uD,Bool.or_eq_true,List.mem_cons,iW,Nat.beq_eq]
theorem yo:∀{l r:List Nat},meets l r=true↔∃x,x∈l∧x∈r
 |[],r=>by simp[meets]
 |y::l,r=>by
  simp only[meets,Bool.or_eq_true,iW,yo,List.mem_cons]
  constructor
  ·rintro(h|⟨x,h1,h2⟩)
   ·exact⟨y,.inl rfl,h⟩
   ·exact⟨x,.inr h1,h2⟩
  ·rintro⟨x,rfl|h1,h2⟩
   ·exact .inl h2
   ·exact .inr ⟨x,h1,h2⟩
theorem qC {ops:Array Oper} {o:Oper} {j:Nat} (ho:ops[j]? =some o) {acc:List Nat} (hacc:∀k m i,acc[k]? =some m→Nat.testBit m i=true→ns ops k i):
  ∀(es:List Edge),(∀e∈es,e∈o.after)→∀i,Nat.testBit (pJ acc es) i=true→ns ops j i
 |[],_,i,h=>by simp[pJ]at h
 |e::r,hes,i,h=>by
  have ih:=qC ho hacc r (fun x hx=>hes x (List.mem_cons_of_mem _ hx)) i
  unfold pJ at h
  split at h
  ·rename_i hb
   rw[Nat.testBit_or,Nat.testBit_or,Nat.testBit_two_pow]at h
   have he:=hes e (List.mem_cons_self ..)
   simp only[Bool.or_eq_true,decide_eq_true_eq]at h
   rcases h with h|h|h
   ·rw[←h];exact .one ho he hb
   ·cases hg:acc[e.on]? with
    |none=>simp[hg]at h
    |some m=>
     have:acc.getD e.on 0=m:=by simp[hg]
     rw[this]at h
     exact .trans (.one ho he hb) (hacc _ _ _ hg h)
   ·exact ih h
  ·exact ih h
theorem sZ {ops:Array Oper}:∀(l:List Oper) (acc:List Nat),(∀j,l[j]? =ops[acc.length+j]?)→(∀k m i,acc[k]? =some m→Nat.testBit m i=true→ns ops k i)→
  ∀k m i,(yn l acc)[k]? =some m→Nat.testBit m i=true→ns ops k i
 |[],acc,_,h=>by simpa [yn]using h
 |o::r,acc,hl,h=>by
  have h0:ops[acc.length]? =some o:=by have:=hl 0;simpa using this.symm
  refine sZ r (acc++[pJ acc o.after.toList]) (fun j=> ?_) (fun k m i hk hb=> ?_)
  ·have:=hl (j+1)
   simpa [Nat.add_assoc,Nat.add_comm 1 j]using this
  ·rcases Nat.lt_trichotomy k acc.length with aA|rfl|Pz
   ·rw[List.getElem?_append_left aA]at hk
    exact h k m i hk hb
   ·simp at hk
    subst hk
    exact qC h0 h _ (fun e he=>by simpa using he) i hb
   ·rw[List.getElem?_eq_none (by simp;omega)]at hk
    cases hk
theorem mH {i:Nat}:∀{es:List Edge},qy i es=true→∀e∈es,Region.binds .any e=true→e.on<i
 |e::r,h,x,hx,hb=>by
  unfold qy at h
  rcases List.mem_cons.1 hx with rfl|hx
  ·rw[hb]at h
   simp only[Bool.and_eq_true,Nat.blt_eq]at h
   exact h.1
  ·split at h
   ·simp only[Bool.and_eq_true]at h
    exact mH h.2 x hx hb
   ·exact mH h x hx hb
theorem xQ (l:List Oper):∀i:Nat,qz i l=true→∀j o,l[j]? =some o→∀e∈o.after,Region.binds .any e=true→e.on<i+j:=by
 induction l with
 |nil=>intro i _ j o ho;simp at ho
 |cons o r ih=>
  intro i h j o' ho e he hb
  simp only[qz,Bool.and_eq_true]at h
  cases j with
  |zero=>
   simp only[List.getElem?_cons_zero,Option.some.injEq]at ho
   rw[←ho]at he
   exact mH h.1 e (by simpa using he) hb
  |succ j=>
   have:=ih (i+1) h.2 j o' (by simpa using ho) e he hb
   omega
theorem vM {f:fU} {m:Nat}:∀{l:List fU} {i:Nat},BU f m i l=true→∀j g,l[j]? =some g→BT g f=true→Nat.testBit m (i+j)=true
 |g::r,i,h,0,g',hg,hc=>by
  simp only[BU,Bool.and_eq_true]at h
  simp at hg
  subst hg
  simpa [hc]using h.1
 |g::r,i,h,j+1,g',hg,hc=>by
  simp only[BU,Bool.and_eq_true]at h
  have:=vM h.2 j g' (by simpa using hg) hc
  rw[show i+(j+1)=i+1+j from by omega]
  exact this
theorem s6 {ms:List Nat}:∀{l done:List fU} {j0:Nat},done.length=j0→zY ms done j0 l=true→∀i j f g,i<j→j0≤j→(done++l)[i]? =some f→(done++l)[j]? =some g→BT f g=true→Nat.testBit (ms.getD j 0) i=true
 |[],done,j0,hd,_,i,j,f,g,_,hj,_,hg,_=>by
  rw[List.append_nil,List.getElem?_eq_none aa]at hg
  cases hg
 |x::l,done,j0,hd,h,i,j,f,g,GG,hj,hf,hg,hc=>by
  simp only[zY,Bool.and_eq_true]at h
  rcases Nat.eq_or_lt_of_le hj with rfl|aA
  ·rw[List.getElem?_append_right aa]at hg
   simp[hd]at hg
   subst hg
   rw[List.getElem?_append_left aa]at hf
   have:=vM h.1 i f hf hc
   simpa using this
  ·exact s6 (l:=l) (done:=done++[x]) (j0:=j0+1) (by simp[hd]) h.2 i j f g GG aa (by simpa using hf) (by simpa using hg) hc
def jF (rc:Rec):iR Loc LV where
 rd:=fun
  |.t t=>decide (t∈rc.f.rt)
  |.k k=>decide (k∈rc.f.rk)
 wr:=fun
  |.t t=>decide (rc.o.dst=some t)
  |.k k=>(find rc.ks k).isSome
 val:=fun
  |.t _=>.t (some rc.c)
  |.k k=>.k (find rc.ks k)
theorem vN (rc:Rec) (s:Loc→LV):(jF rc).ap s=lay rc.o.dst rc.c rc.ks s:=by
 funext l
 cases l with
 |t n=>simp only[iR.ap,jF,lay];by_cases h:rc.o.dst=some n<;>simp[h]
 |k n=>
  have key:∀(x:Option aC) (y:LV),(if x.isSome=true then LV.k x else y)=match x with
    |some b=>LV.k (some b)
    |none=>y:=fun x y=>by cases x<;>rfl
  exact key (find rc.ks n) (s (.k n))
def iX (recs:List Rec) (j:Nat):iR Loc LV:=
 match recs[j]? with
 |some r=>jF r
 |none=>⟨fun _=>false,fun _=>false,fun _=>.t none⟩
theorem jG {recs:List Rec} {j:Nat} {r:Rec} (h:recs[j]? =some r):iX recs j=jF r:=by simp[iX,h]
theorem z6 {L V:Type} (steps:Nat→iR L V) (s0:L→V) (n:Nat):sx steps s0 (fun _=>true) (n+1)=(steps n).ap (sx steps s0 (fun _=>true) n):=by simp[sx]
theorem BV {E:Env} {ops:Array Oper}:∀{l:List Oper} {fr:List (Nat×SV)} {hp:List (Nat×aC)} {recs:List Rec} {fr':List (Nat×SV)} {cd:List (Nat×aC)},Dy E ops l fr hp recs fr' cd→
  recs.length=l.length∧(∀i rc,recs[i]? =some rc→l[i]? =some rc.o∧vG E ops rc.o rc.fr rc.hp rc.f rc.c rc.ks∧fn rc.fr rc.hp=sx (iX recs) (fn fr hp) (fun _=>true) i)∧
  fn fr' cd=sx (iX recs) (fn fr hp) (fun _=>true) l.length
 |[],fr,hp,recs,fr',cd,h=>by
  obtain⟨rfl,rfl,rfl⟩:=h
  exact⟨rfl,fun i rc h=>by simp at h,rfl⟩
 |o::l,fr,hp,recs,fr',cd,h=>by
  obtain⟨rc,rest,rfl,rfl,rfl,rfl,hs,h2⟩:=h
  obtain⟨g1,g2,g3⟩:=BV h2
  have shift:∀n,sx (iX (rc::rest)) (fn rc.fr rc.hp) (fun _=>true) (n+1)=
    sx (iX rest) (fn (BP rc.o.dst rc.c rc.fr) (vE rc.ks rc.hp)) (fun _=>true) n:=by
   intro n
   induction n with
   |zero=>rw[z6,jG (r:=rc) (by simp),vN];exact vF ..
   |succ n ih=>rw[z6,ih,z6];simp[iX]
  refine⟨by simp[g1],fun i rc' hi=> ?_, ?_⟩
  ·cases i with
   |zero=>simp at hi;subst hi;exact⟨by simp,hs,rfl⟩
   |succ i=>
    obtain⟨e1,e2,e3⟩:=g2 i rc' (by simpa using hi)
    exact⟨by simpa using e1,e2,by rw[shift];exact e3⟩
  ·rw[List.length_cons,shift];exact g3
theorem IG {E:Env} (hm:E.P.follows .mixedOrders=true) {l:List Oper} {Q:Exit→Act→World→Prop} {fr:List (Nat×SV)} {hp:List (Nat×aC)} {recs:List Rec} {fr':List (Nat×SV)} {cd:List (Nat×aC)}
  (h:Dy E l.toArray l fr hp recs fr' cd) (hi:indep l (recs.map (·.f))=true) (hQ:∀a w,RR E (fn fr' cd) a w→Q .normal a w) (id:Nat) (a:Act) (w:World) (hR:RR E (fn fr hp) a w):
  (Code.region id l.toArray true).wpIn (EY E.ro) 0 E.P Q a w:=by
 obtain⟨g1,g2,g3⟩:=BV h
 simp only[indep,Bool.and_eq_true]at hi
 have lT:∀i,i<l.length→∃rc,recs[i]? =some rc:=fun i hi=>⟨recs[i],by simp[g1,hi]⟩
 refine Gw (Rel:=RR E) (steps:=iX recs) (s0:=fn fr hp) hm ?_ ?_ ?_ ?_ a w ?_
 ·intro i hi s' hs' a w hR
  obtain⟨rc,vO⟩:=lT i (by simpa using hi)
  obtain⟨e1,⟨e2,e3,e4⟩,e5⟩:=g2 i rc vO
  rw[jG vO]at hs' ⊢
  rw[←e5]at hs'
  have:=e4 s' (fun t ht=>hs' _ (.inl (by simpa [jF]using ht))) (fun k hk=>hs' _ (by
   rcases hk with hk|hk
   ·exact .inl (by simpa [jF]using hk)
   ·right
    obtain⟨b,hb⟩:=(e3 k).1 hk
    simp only[jF]
    cases hf:find rc.ks k with
    |some b'=>rfl
    |none=>exact absurd hb (ov hf b))) a w hR
  unfold wpOpIn
  have ho:l.toArray[i]? =some rc.o:=by simpa using e1
  rw[ho]
  simp only[vN]
  split
  ·rename_i hw
   rw[if_pos hw]at this
   exact rN this
  ·rename_i hw
   rw[if_neg hw]at this
   exact⟨fun _ _=>trivial,this⟩
 ·intro i j GG hj hc
  have nG:j<l.length:=by simpa using hj
  obtain⟨ri,hri⟩:=lT i aa
  obtain⟨rj,hrj⟩:=lT j nG
  obtain⟨_,⟨i2,i3,_⟩,_⟩:=g2 i ri hri
  obtain⟨_,⟨j2,j3,_⟩,_⟩:=g2 j rj hrj
  rw[jG hri,jG hrj]at hc
  have wki:∀k,(find ri.ks k).isSome=true→k∈ri.f.wk:=fun k hk=>by
   cases hf:find ri.ks k with
   |none=>rw[hf]at hk;cases hk
   |some b=>exact(i3 k).2 ⟨b,iS hf⟩
  have wkj:∀k,(find rj.ks k).isSome=true→k∈rj.f.wk:=fun k hk=>by
   cases hf:find rj.ks k with
   |none=>rw[hf]at hk;cases hk
   |some b=>exact(j3 k).2 ⟨b,iS hf⟩
  have x0:BT ri.f rj.f=true:=by
   obtain⟨loc,hc⟩:=hc
   simp only[BT,Bool.or_eq_true,yo]
   cases loc with
   |t n=>
    simp only[jF,decide_eq_true_eq]at hc
    rcases hc with⟨h1,h2|h2⟩|⟨h1,h2⟩
    ·exact .inl ⟨n,by rw[i2,h1];simp[PG],h2⟩
    ·exact .inr (.inl ⟨n,by rw[i2,h1];simp[PG],by rw[j2,h2];simp[PG]⟩)
    ·exact .inr (.inr (.inl ⟨n,by rw[j2,h2];simp[PG],h1⟩))
   |k n=>
    simp only[jF,decide_eq_true_eq]at hc
    rcases hc with⟨h1,h2|h2⟩|⟨h1,h2⟩
    ·exact .inr (.inr (.inr (.inl ⟨n,wki n h1,h2⟩)))
    ·exact .inr (.inr (.inr (.inr (.inl ⟨n,wki n h1,wkj n h2⟩))))
    ·exact .inr (.inr (.inr (.inr (.inr ⟨n,wkj n h2,h1⟩))))
  have RM:=s6 (l:=recs.map (·.f)) (done:=[]) (j0:=0) rfl hi.2 i j ri.f rj.f GG (Nat.zero_le _) (by simp[hri]) (by simp[hrj]) x0
  cases hmj:(yn l [])[j]? with
  |none=>simp[hmj]at RM
  |some m=>
   have:(yn l []).getD j 0=m:=by simp[hmj]
   rw[this]at RM
   exact sZ l [] (by simp) (by simp) j m i hmj RM
 ·intro i o ho e he hb
  have:=xQ l 0 hi.1 i o (by simpa using ho) e he hb
  omega
 ·intro a w hR
  rw[List.size_toArray,←g3]at hR
  exact hQ a w hR
 ·obtain⟨ρ,h1,h3,h2⟩:=hR
  exact⟨ρ,h1,h3,{h2 with bO:=⟨h2.bO.os,h2.bO.tape,h2.bO.output,h2.bO.size,h2.bO.block⟩,hp:=⟨h2.hp.blk,h2.hp.sep,h2.hp.own,h2.hp.rL,h2.hp.aY,h2.hp.fb⟩}⟩
end Go.Sx
namespace Go.Sx
abbrev bQ:=Exit→List (Nat×SV)→List (Nat×aC)→Prop
def s7 (E:Env) (K:bQ):Exit→Act→World→Prop:=fun e a w=>∃fr hp,K e fr hp∧RR E (fn fr hp) a w
def SW (E:Env) (c:Code) (K:bQ) (fr:List (Nat×SV)) (hp:List (Nat×aC)):Prop:=
 ∀a w,RR E (fn fr hp) a w→c.wpIn (EY E.ro) 0 E.P (s7 E K) a w
theorem SW.mono {E:Env} {c:Code} {K K':bQ} {fr:List (Nat×SV)} {hp:List (Nat×aC)} (h:SW E c K fr hp) (hk:∀e fr hp,K e fr hp→K' e fr hp):SW E c K' fr hp:=
 fun a w hR=>Code.wpIn_mono (fun _ _ _ ⟨fr,hp,h1,h2⟩=>⟨fr,hp,hk _ _ _ h1,h2⟩) (h a w hR)
structure ey (E:Env) (c:Code) (K:bQ) (fr:List (Nat×SV)) (hp:List (Nat×aC)):Prop where
 run:SW E c K fr hp
def ny (E:Env):Code→bQ→List (Nat×SV)→List (Nat×aC)→Prop
 |.skip,K,fr,hp=>K .normal fr hp
 |.region id ops draw,K,fr,hp=>match ZD (100000+id) E.Z with
  |true=>ey E (.region id ops draw) K fr hp
  |false=>lex E ops.toList ops.toList fr hp [] fun fr' cd fs=>match draw with
   |true=>indep ops.toList fs.reverse=true∧K .normal fr' cd
   |false=>K .normal fr' cd
 |.seq a b,K,fr,hp=>ny E a (fun e fr' cd=>match e with
  |.normal=>ny E b K fr' cd
  |e=>K e fr' cd) fr hp
 |.cond c a b,K,fr,hp=>match ev fr c with
  |some (.val (.bool t))=>(t=true→ny E a K fr hp)∧(t=false→ny E b K fr hp)
  |_=>False
 |.block id c,K,fr,hp=>ny E c (fun e fr' cd=>match e with
  |.exit i=>match Nat.beq i id with
   |true=>K .normal fr' cd
   |false=>K (.exit i) fr' cd
  |e=>K e fr' cd) fr hp
 |.exit id,K,fr,hp=>K (.exit id) fr hp
 |.ret,K,fr,hp=>K .ret fr hp
 |.scope c,K,fr,hp=>ny E c (fun e fr' cd=>match e with
  |.goto _=>False
  |e=>K e fr' cd) fr hp
 |.label _,K,fr,hp=>K .normal fr hp
 |c,K,fr,hp=>ey E c K fr hp
def RN (K:bQ) (fr:List (Nat×SV)) (hp:List (Nat×aC)):Prop:=K .normal fr hp
def E6 (E:Env) (ops:Array Oper) (draw:Bool) (K:bQ) (fr:List (Nat×SV)) (hp:List (Nat×aC)):Prop:=lex E ops.toList ops.toList fr hp [] fun fr' cd fs=>match draw with
  |true=>indep ops.toList fs.reverse=true∧K .normal fr' cd
  |false=>K .normal fr' cd
def IH (E:Env) (id:Nat) (ops:Array Oper) (draw:Bool) (K:bQ) (fr:List (Nat×SV)) (hp:List (Nat×aC)):Prop:=match ZD (100000+id) E.Z with
 |true=>ey E (.region id ops draw) K fr hp
 |false=>E6 E ops draw K fr hp
def II (_ _:Code) (iha ihb:bQ→List (Nat×SV)→List (Nat×aC)→Prop) (K:bQ) (fr:List (Nat×SV)) (hp:List (Nat×aC)):Prop:=iha (fun e fr' cd=>match e with
  |.normal=>ihb K fr' cd
  |e=>K e fr' cd) fr hp
def Dz (c:Operand) (_ _:Code) (iha ihb:bQ→List (Nat×SV)→List (Nat×aC)→Prop) (K:bQ) (fr:List (Nat×SV)) (hp:List (Nat×aC)):Prop:=match ev fr c with
  |some (.val (.bool t))=>(t=true→iha K fr hp)∧(t=false→ihb K fr hp)
  |_=>False
def z7 (id:Nat) (_:Code) (ih:bQ→List (Nat×SV)→List (Nat×aC)→Prop) (K:bQ) (fr:List (Nat×SV)) (hp:List (Nat×aC)):Prop:=ih (fun e fr' cd=>match e with
  |.exit i=>match Nat.beq i id with
   |true=>K .normal fr' cd
   |false=>K (.exit i) fr' cd
  |e=>K e fr' cd) fr hp
def RO (E:Env) (c:Code) (_:bQ→List (Nat×SV)→List (Nat×aC)→Prop) (K:bQ) (fr:List (Nat×SV)) (hp:List (Nat×aC)):Prop:=ey E (.loop c) K fr hp
def MY (E:Env) (f:Operand) (ps:Array Tmp) (a b:Code) (_ _:bQ→List (Nat×SV)→List (Nat×aC)→Prop) (K:bQ) (fr:List (Nat×SV)) (hp:List (Nat×aC)):Prop:=ey E (.rangeFunc f ps a b) K fr hp
def RP (id:Nat) (K:bQ) (fr:List (Nat×SV)) (hp:List (Nat×aC)):Prop:=K (.exit id) fr hp
def z8 (_:Code) (ih:bQ→List (Nat×SV)→List (Nat×aC)→Prop) (K:bQ) (fr:List (Nat×SV)) (hp:List (Nat×aC)):Prop:=ih (fun e fr' cd=>match e with
  |.goto _=>False
  |e=>K e fr' cd) fr hp
def MZ (_:Nat) (K:bQ) (fr:List (Nat×SV)) (hp:List (Nat×aC)):Prop:=K .normal fr hp
def RQ (E:Env) (l:Nat) (K:bQ) (fr:List (Nat×SV)) (hp:List (Nat×aC)):Prop:=ey E (.goto l) K fr hp
def Z8 (K:bQ) (fr:List (Nat×SV)) (hp:List (Nat×aC)):Prop:=K .ret fr hp
def IJ (E:Env) (l:String) (K:bQ) (fr:List (Nat×SV)) (hp:List (Nat×aC)):Prop:=ey E (.refuse l) K fr hp
def Aa (E:Env) (c:Code):bQ→List (Nat×SV)→List (Nat×aC)→Prop:=
 Code.rec (motive:=fun _=>bQ→List (Nat×SV)→List (Nat×aC)→Prop) RN (IH E) II Dz z7 (RO E) (MY E) RP z8 MZ (RQ E) Z8 (IJ E) c
theorem RS (E:Env) (c:Code):Aa E c=ny E c:=by
 induction c with
 |seq a b iha ihb=>
  funext K fr hp
  show II a b (Aa E a) (Aa E b) K fr hp=_
  rw[iha,ihb]
  simp only[ny,II]
 |cond c a b iha ihb=>
  funext K fr hp
  show Dz c a b (Aa E a) (Aa E b) K fr hp=_
  rw[iha,ihb]
  simp only[ny,Dz]
 |block id c ih=>
  funext K fr hp
  show z7 id c (Aa E c) K fr hp=_
  rw[ih]
  simp only[ny,z7]
 |scope c ih=>
  funext K fr hp
  show z8 c (Aa E c) K fr hp=_
  rw[ih]
  simp only[ny,z8]
 |_=>funext K fr hp;simp only[ny];rfl
structure Env.OK (E:Env):Prop where
 vP:gQ E.P E.T
 mixed:E.P.follows .mixedOrders=true
 rL:∀k x,E.ρ0.key k=some x→k∈E.fx
theorem qD {E:Env} (hE:E.OK) {id:Nat} {ops:Array Oper} {draw:Bool} {K:bQ} {fr:List (Nat×SV)} {hp:List (Nat×aC)} (h:E6 E ops draw K fr hp):SW E (.region id ops draw) K fr hp:=by
 intro a w hR
 simp only[E6]at h
 obtain⟨recs,fr',cd,h1,h2⟩:=qx hE.vP _ _ _ _ h
 have ie:K .normal fr' cd→∀a w,RR E (fn fr' cd) a w→s7 E K .normal a w:=fun h3 a w hR=>⟨fr',cd,h3,hR⟩
 cases draw with
 |false=>
  have ie:=ie h2
  have:=rQ _ _ _ _ _ _ h1 ie a w hR
  exact wpIn_region_list (by simpa using this)
 |true=>
  have hi:=h2.1
  have ie:=ie h2.2
  simp only[List.append_nil,List.reverse_reverse]at hi
  have:=IG hE.mixed h1 hi ie id a w hR
  simpa using this
theorem dC {E:Env} (hE:E.OK) {id:Nat} {ops:Array Oper} {draw:Bool} {K:bQ} {fr:List (Nat×SV)} {hp:List (Nat×aC)} (h:E6 E ops draw K fr hp):ey E (.region id ops draw) K fr hp:=⟨qD hE h⟩
theorem gD {P:Program} {b:Frame} {a:Act} {k:List Item} {cs:List Frame} {w:World} {c:Code}:step P (lone (b.atR a (.code (.scope c)::k)) cs w)= .next (lone (b.atR a (.code c:: .inScope c::k)) cs w):=
 step_lone_go (by simp[stepG,stepG.exec,Frame.atR])
theorem xR {P:Program} {b:Frame} {a:Act} {k:List Item} {cs:List Frame} {w:World} {c:Code}:step P (lone (b.atR a (.inScope c::k)) cs w)= .next (lone (b.atR a k) cs w):=
 step_lone_go (by simp[stepG,stepG.exec,Frame.atR])
theorem pk {F:Fence} {n:Nat} {P:Program} {Q:Exit→Act→World→Prop} {a:Act} {w:World} {c:Code} (h:c.wpIn F n P (Exit.noGoto Q) a w):(Code.scope c).wpIn F n P Q a w:=by
 intro b k cs hro hb hr
 obtain⟨e,a₁,w₁,hq,iB⟩:=h b (.inScope c::k) cs hro hb hr
 have h0:(lone (b.atR a (.code (.scope c)::k)) cs w).fenced P F:=fenced_calm hb hr rfl
 cases e with
 |normal=>exact⟨.normal,a₁,w₁,hq,.head h0 gD (StepsIn.trans iB (.one (fenced_calm hb hr rfl) xR))⟩
 |exit id=>
  have hx:exitTo id (.inScope c::k)=exitTo id k:=by simp[exitTo]
  exact⟨.exit id,a₁,w₁,hq,fun k' hk=>.head h0 gD (iB.1 k' (by rw[hx];exact hk)),fun hr' hk=>let ⟨k₁,h1,h2⟩:=iB.2 hr' (by rw[hx];exact hk);⟨k₁,h1,.head h0 gD h2⟩⟩
 |goto l=>exact hq.elim
 |ret=>exact⟨_,a₁,w₁,hq,.of_steps (.one h0 gD) iB⟩
 |panic ch=>exact⟨_,a₁,w₁,hq,.of_steps (.one h0 gD) iB⟩
 |outgrown=>exact⟨_,a₁,w₁,hq,.of_steps (.one h0 gD) iB⟩
theorem gx {E:Env} (hE:E.OK):∀(c:Code) (K:bQ) (fr:List (Nat×SV)) (hp:List (Nat×aC)),ny E c K fr hp→SW E c K fr hp
 |.skip,K,fr,hp,h=>fun a w hR=>wpIn_skip ⟨fr,hp,h,hR⟩
 |.region id ops draw,K,fr,hp,h=>by
  simp only[ny]at h
  split at h
  ·exact h.run
  ·exact qD hE h
 |.seq x y,K,fr,hp,h=>by
  intro a w hR
  simp only[ny]at h
  refine wpIn_seq (Code.wpIn_mono ?_ (gx hE x _ fr hp h a w hR))
  rintro e a' w' ⟨fr',cd,h1,h2⟩
  cases e<;>first|exact gx hE y K fr' cd h1 a' w' h2|exact⟨fr',cd,h1,h2⟩
 |.cond c x y,K,fr,hp,h=>by
  intro a w hR
  simp only[ny]at h
  split at h
  ·rename_i t ht
   have hv:a.eval c= .bool t:=by
    obtain⟨ρ,_,_,hR⟩:=hR
    have:Has ρ (.val (.bool t)) (a.eval c):=by
     cases c with
     |tmp u=>exact hR.fr u _ (by simp only[fn,LV.sv];exact ht)
     |const v=>exact aj (fr:=[]) (by simpa [ev]using ht) ρ a (fun _ _ h=>by cases h)
     |func f=>simp[ev]at ht
     |global g=>simp[ev]at ht
    exact aI this
   refine wpIn_cond_split hv (fun hb=>gx hE x K fr hp (h.1 hb) a w hR) (fun hb=>gx hE y K fr hp (h.2 hb) a w hR)
  ·exact h.elim
 |.block id c,K,fr,hp,h=>by
  intro a w hR
  simp only[ny]at h
  refine wpIn_block (Code.wpIn_mono ?_ (gx hE c _ fr hp h a w hR))
  rintro e a' w' ⟨fr',cd,h1,h2⟩
  cases e with
  |exit i=>
   simp only[Exit.inBlock]
   simp only at h1
   split at h1
   ·rename_i hb
    rw[if_pos (Nat.eq_of_beq_eq_true hb)]
    exact⟨fr',cd,h1,h2⟩
   ·rename_i hb
    rw[if_neg (by rintro rfl;simp[Nat.beq_refl]at hb)]
    exact⟨fr',cd,h1,h2⟩
  |_=>exact⟨fr',cd,h1,h2⟩
 |.exit id,K,fr,hp,h=>fun a w hR=>wpIn_exit ⟨fr,hp,h,hR⟩
 |.ret,K,fr,hp,h=>fun a w hR=>wpIn_ret ⟨fr,hp,h,hR⟩
 |.loop c,K,fr,hp,h=>h.run
 |.rangeFunc _ _ _ _,K,fr,hp,h=>h.run
 |.scope c,K,fr,hp,h=>by
  intro a w hR
  simp only[ny]at h
  refine pk (Code.wpIn_mono ?_ (gx hE c _ fr hp h a w hR))
  rintro e a' w' ⟨fr',cd,h1,h2⟩
  cases e<;>first|exact h1.elim|exact⟨fr',cd,h1,h2⟩
 |.label _,K,fr,hp,h=>fun a w hR=>wpIn_label ⟨fr,hp,h,hR⟩
 |.goto _,K,fr,hp,h=>h.run
 |.refuse _,K,fr,hp,h=>h.run
theorem iC {E:Env} (hE:E.OK) (c:Code) (K:bQ) (fr:List (Nat×SV)) (hp:List (Nat×aC)) (h:Aa E c K fr hp):SW E c K fr hp:=
 gx hE c K fr hp (by rw[RS]at h;exact h)
theorem Ab {E:Env} {c:Code} {K:bQ} {fr:List (Nat×SV)} {hp:List (Nat×aC)} (I:Nat→List (Nat×SV)→List (Nat×aC)→Prop) (m:Nat) (h0:I m fr hp)
  (h:∀m fr hp,I m fr hp→SW E c (fun e fr' cd=>match e with
   |.normal=>∃m',m'<m∧I m' fr' cd
   |e=>K e fr' cd) fr hp):SW E (.loop c) K fr hp:=by
 intro a w hR b k cs hro hb hr
 have key:∀m fr hp a w,I m fr hp→RR E (fn fr hp) a w→
   ∃e a' w',s7 E K e a' w'∧ArrivesIn (Machine.fenced E.P (EY E.ro)) E.P (lone (b.atR a (.code c:: .inLoop c::k)) cs w) b k cs e a' w':=by
  intro m
  induction m using Nat.strongRecOn with
  |_ m ih=>
   intro fr hp a w hI hR
   obtain⟨e,a₁,w₁,⟨fr',cd,hq,jw⟩,iB⟩:=h m fr hp hI a w hR b (.inLoop c::k) cs hro hb hr
   cases e with
   |normal=>
    obtain⟨m',aA,hI'⟩:=hq
    obtain⟨e₂,a₂,w₂,hq₂,harr₂⟩:=ih m' aA fr' cd a₁ w₁ hI' jw
    exact⟨e₂,a₂,w₂,hq₂,.of_steps (StepsIn.trans iB (.one (fenced_calm hb hr rfl) stepR_inLoop)) harr₂⟩
   |exit id=>exact⟨_,a₁,w₁,⟨fr',cd,hq,jw⟩,.pass (x:=.inLoop c) rfl (fun _ _=>.inl (by simp)) iB⟩
   |goto l=>exact⟨_,a₁,w₁,⟨fr',cd,hq,jw⟩,.pass (x:=.inLoop c) rfl (fun _ _=>.inl (by simp)) iB⟩
   |ret=>exact⟨_,a₁,w₁,⟨fr',cd,hq,jw⟩,.pass (x:=.inLoop c) rfl (fun _ _=>.inl (by simp)) iB⟩
   |panic ch=>exact⟨_,a₁,w₁,⟨fr',cd,hq,jw⟩,.pass (x:=.inLoop c) rfl (fun _ _=>.inl (by simp)) iB⟩
   |outgrown=>exact⟨_,a₁,w₁,⟨fr',cd,hq,jw⟩,.pass (x:=.inLoop c) rfl (fun _ _=>.inl (by simp)) iB⟩
 obtain⟨e,a',w',hq,iB⟩:=key m fr hp a w h0 hR
 exact⟨e,a',w',hq,.of_steps (.one (fenced_calm hb hr rfl) stepR_loop) iB⟩
def Ac (T:List (TypeId×TI)) (fr:List (Nat×SV)) (hp:List (Nat×aC)):ResultVar→Option (Option Prop×SV)
 |.tmp t=>match lk fr t with
  |some c=>match bs c with
   |true=>some (none,c)
   |false=>none
  |none=>none
 |.cell a ty=>match lk fr a,dz T ty with
  |some (.ptr key s i r),some ti=>match find hp key with
   |some blk=>match elem blk.data s i with
    |some (ob,cs)=>match sub 64 cs r ti.size,ti.size with
     |some l,_+1=>match eU ti l with
      |some c=>match bs c with
       |true=>some (ob,c)
       |false=>none
      |none=>none
     |_,_=>none
    |none=>none
   |none=>none
  |_,_=>none
def both:Option Prop→Option Prop→Option Prop
 |none,q=>q
 |p,none=>p
 |some p,some q=>some (p∧q)
theorem yp {p q:Option Prop} (h:Bn (both p q)):Bn p∧Bn q:=by
 cases p<;>cases q<;>first|exact⟨trivial,h⟩|exact⟨h,trivial⟩|exact h
def jY (T:List (TypeId×TI)) (fr:List (Nat×SV)) (hp:List (Nat×aC)):List ResultVar→Option (Option Prop×List SV)
 |[]=>some (none,[])
 |r::rs=>match Ac T fr hp r,jY T fr hp rs with
  |some (ob,c),some (ob',l)=>some (both ob ob',c::l)
  |_,_=>none
def pw:List SV→SV
 |[c]=>c
 |l=>.ct l
def H9 (T:List (TypeId×TI)) (rs:List ResultVar) (K:SV→List (Nat×aC)→Prop):bQ:=fun e fr hp=>match e with
 |.normal=>match jY T fr hp rs with
  |some (ob,l)=>Rt ob (K (pw l) hp)
  |none=>False
 |.ret=>match jY T fr hp rs with
  |some (ob,l)=>Rt ob (K (pw l) hp)
  |none=>False
 |_=>False
def Ad (tmps:Array Value):ResultVar→Sem Value
 |.tmp t=>pure (tmps.getD t undef)
 |.cell p t=>do loadVar t (←asAddr (tmps.getD p undef))
theorem DA {E:Env} (hE:E.OK) {fr:List (Nat×SV)} {hp:List (Nat×aC)} {r:ResultVar} {ob:Option Prop} {c:SV} (h:Ac E.T fr hp r=some (ob,c)) (jr:Bn ob) {ρ:bY} {a:Act} {w:World} (hR:R E.W0 E.w0 E.n ρ (fn fr hp) a w):
  ∃v,(Ad a.tmps r).run E.P w= .ok v w∧Has ρ c v∧bs c=true:=by
 cases r with
 |tmp t=>
  simp only[Ac]at h
  split at h
  ·rename_i d hd
   split at h
   ·rename_i cd
    simp only[Option.some.injEq,Prod.mk.injEq]at h
    obtain⟨rfl,rfl⟩:=h
    exact⟨_,rfl,hR.fr t d (by simp only[fn,LV.sv];exact hd),cd⟩
   ·simp at h
  ·simp at h
 |cell p ty=>
  simp only[Ac]at h
  split at h
  ·rename_i key s i r ti hx qu
   split at h
   ·rename_i blk gw
    split at h
    ·rename_i ob' cs he
     split at h
     ·rename_i l _ hs ir
      split at h
      ·rename_i d hd
       split at h
       ·rename_i cd
        simp only[Option.some.injEq,Prod.mk.injEq]at h
        obtain⟨rfl,rfl⟩:=h
        have hv:=hR.fr p _ (by simp only[fn,LV.sv];exact hx)
        simp only[Has,aK]at hv
        obtain⟨_,⟨b,n,b9,rfl⟩,b7⟩:=hv
        simp only[cM,SV.bf,if_true,List.headD_cons]at b7
        obtain⟨v,h1,h2⟩:=E1 (hE.vP.get qu) b9 (hR.hp.blk _ _ (by simp only[fn,LV.blk];exact gw)) he jr hs aa hd
        exact⟨v,by simp only[Ad,b7,asAddr,Sem.run_bind,Sem.run_pure,Result.andThen_ok,h1],h2,cd⟩
       ·simp at h
      ·simp at h
     ·simp at h
    ·simp at h
   ·simp at h
  ·simp at h
theorem vQ {E:Env} (hE:E.OK) {fr:List (Nat×SV)} {hp:List (Nat×aC)} {ρ:bY} {a:Act} {w:World} (hR:R E.W0 E.w0 E.n ρ (fn fr hp) a w):∀(rs:List ResultVar) (ob:Option Prop) (l:List SV),jY E.T fr hp rs=some (ob,l)→Bn ob→
  ∃vs:List Value,(rs.mapM (Ad a.tmps)).run E.P w= .ok vs w∧
   (∃z,au ρ l z∧vs=List.zipWith cM l z)∧(∀c∈l,bs c=true)∧l.length=rs.length
 |[],ob,l,h,_=>by
  simp only[jY,Option.some.injEq,Prod.mk.injEq]at h
  obtain⟨_,rfl⟩:=h
  exact⟨[],rfl,⟨[],by simp[au],rfl⟩,by simp,rfl⟩
 |r::rs,ob,l,h,jr=>by
  unfold jY at h
  split at h
  ·rename_i ob1 c ob2 l' h1 h2
   simp only[Option.some.injEq,Prod.mk.injEq]at h
   obtain⟨rfl,rfl⟩:=h
   obtain⟨v,e1,e2,e3⟩:=DA hE h1 (yp jr).1 hR
   obtain⟨vs,f1,⟨z,f2,rfl⟩,f3,f4⟩:=vQ hE hR rs ob2 l' h2 (yp jr).2
   obtain⟨x,g1,rfl⟩:=BC e3 e2
   refine⟨cM c x::List.zipWith cM l' z, ?_,⟨x::z,by simp only[au];exact⟨x,z,rfl,g1,f2⟩,rfl⟩, ?_,by simp[f4]⟩
   ·rw[List.mapM_cons,Sem.run_bind,e1]
    simp only[Result.andThen_ok,Sem.run_bind,f1,Sem.run_pure]
   ·intro d hd
    rcases List.mem_cons.1 hd with rfl|hd
    ·exact e3
    ·exact f3 d hd
  ·simp at h
theorem lh {E:Env} (hE:E.OK) {fn':Func} {fr:List (Nat×SV)} {hp:List (Nat×aC)} {ρ:bY} {a:Act} {w:World} (hR:R E.W0 E.w0 E.n ρ (fn fr hp) a w) {ob:Option Prop} {l:List SV}
  (h:jY E.T fr hp fn'.results.toList=some (ob,l)) (jr:Bn ob):∃v,(results fn' a.tmps).run E.P w= .ok v w∧Has ρ (pw l) v:=by
 obtain⟨vs,h1,⟨z,h2,rfl⟩,h3,h4⟩:=vQ hE hR _ ob l h jr
 have hz:l.length=z.length:=by
  clear h h1 h3 h4
  induction l generalizing z with
  |nil=>simp only[au]at h2;subst h2;rfl
  |cons c l ih=>simp only[au]at h2;obtain⟨x,r,rfl,_,h⟩:=h2;simp[ih r h]
 refine⟨if l.length=1 then(List.zipWith cM l z).headD undef else .tuple (List.zipWith cM l z).toArray, ?_, ?_⟩
 ·have RT:results fn' a.tmps=(do
    let vs ←fn'.results.mapM (Ad a.tmps)
    pure (if h:vs.size=1 then vs[0]else .tuple vs)):=by
   unfold results
   congr 1
  rw[RT,Array.mapM_eq_mapM_toList,Sem.run_bind,Sem.run_map,h1]
  simp only[Result.andThen_ok,Sem.run_pure,List.size_toArray,List.length_zipWith,hz,Nat.min_self]
  congr 1
  by_cases hl:z.length=1
  ·rw[dif_pos hl,if_pos hl]
   obtain⟨c,rfl⟩:=List.length_eq_one_iff.1 (hz.trans hl)
   obtain⟨x,rfl⟩:=List.length_eq_one_iff.1 hl
   rfl
  ·rw[dif_neg hl,if_neg hl]
 ·have hp:=h3
  match l,z,h2,hz with
  |[c],z,h2,hz=>
   simp only[au]at h2
   obtain⟨x,r,rfl,g1,rfl⟩:=h2
   have:=h3 c (by simp)
   simp only[pw,List.length_singleton,if_true]
   have:Has ρ c (cM c x):=by
    cases c<;>simp[bs]at this<;>simp only[Has]<;>exact⟨x,g1,rfl⟩
   simpa using this
  |[],z,h2,hz=>simp only[pw,Has];exact⟨z,h2,by simp⟩
  |c::d::l,z,h2,hz=>simp only[pw,Has];exact⟨z,h2,by simp⟩
def enum:Nat→List SV→List (Nat×SV)
 |_,[]=>[]
 |i,c::l=>(i,c)::enum (i+1) l
theorem qE:∀(l:List SV) (i t:Nat) (c:SV),lk (enum i l) t=some c→i≤t∧l[t - i]? =some c
 |d::l,i,t,c,h=>by
  unfold enum lk at h
  split at h
  ·rename_i hb
   have:=Nat.eq_of_beq_eq_true hb
   subst this
   cases h
   simp
  ·rename_i hb
   obtain⟨h1,h2⟩:=qE l (i+1) t c h
   refine⟨aa, ?_⟩
   rw[show t - i=(t - (i+1))+1 from by omega]
   simpa using h2
def aq (c d:SV):Prop:=∀ρ v,Has ρ c v→Has ρ d v
theorem aq.refl (c:SV):aq c c:=fun _ _ h=>h
def shut:List Nat→World→World
 |[],w=>w
 |D::Ds,w=>shut Ds (w.putObj D (.deferred none))
theorem yq:∀(Ds:List Nat) (w:World),(shut Ds w).heap.size=w.heap.size
 |[],_=>rfl
 |D::Ds,w=>by rw[shut,yq Ds,World.putObj_size]
theorem oy:∀(Ds:List Nat) (w:World) (b:Nat),b∉Ds→(shut Ds w).heap[b]? =w.heap[b]?
 |[],_,_,_=>rfl
 |D::Ds,w,b,h=>by
  simp only[List.mem_cons,not_or]at h
  rw[shut,oy Ds _ b h.2,World.putObj_heap_other h.1]
theorem yr:∀(Ds:List Nat) (w:World),(shut Ds w).os=w.os∧(shut Ds w).tape=w.tape∧(shut Ds w).output=w.output
 |[],_=>⟨rfl,rfl,rfl⟩
 |D::Ds,w=>yr Ds (w.putObj D (.deferred none))
theorem R.shut {W0:Nat→Prop} {w0:World} {n:Nat} {ρ:bY} {s:Loc→LV} {a:Act} {w:World} (h:R W0 w0 n ρ s a w) {Ds:List Nat}
  (hd:∀D∈Ds,w0.heap.size≤D∧w.heap[D]? =some (.deferred (some []))∧ρ.aY D=none):R W0 w0 n ρ s {a with defers:=[]} (Sx.shut Ds w):=by
 obtain⟨r1,r2,r3⟩:=yr Ds w
 refine {defers:=.nil,size:=h.size,fr:=h.fr,bO:= ?_,hp:= ?_}
 ·refine⟨r1.trans h.bO.os,r2.trans h.bO.tape,r3.trans h.bO.output,by rw[yq];exact h.bO.size,fun b hb hw=> ?_⟩
  rw[oy,h.bO.block b hb hw]
  intro hm
  have:=(hd b hm).1
  omega
 ·refine {blk:=fun k b hb=> ?_,sep:=h.hp.sep,own:=h.hp.own,rL:=h.hp.rL,aY:=fun b o hb=> ?_,fb:=h.hp.fb}
  ·rcases h.hp.blk k b hb with h4|⟨b',t',vs,ex,h4,h5,h6⟩|h4
   ·exact .inl h4
   ·refine .inr (.inl ⟨b',t',vs,ex,h4, ?_,h6⟩)
    rw[oy _ _ _ (fun hm=>by rw[(hd b' hm).2.1]at h5;exact Data.jz (Option.some.inj h5).symm)]
    exact h5
   ·exact .inr (.inr h4)
  ·rw[oy _ _ _ (fun hm=>by rw[(hd b hm).2.2]at hb;cases hb)]
   exact h.hp.aY b o hb
theorem nR {P:Program} {fn':Func} {tmps:Array Value} {Q:Ending→World→Prop}:∀(Ds:List Nat) (w:World),Ds.Nodup→(∀D∈Ds,w.heap[D]? =some (.deferred (some [])))→
  (∃v,(results fn' tmps).run P (shut Ds w)= .ok v (shut Ds w)∧Q (.returned v) (shut Ds w))→LeavesInM Fence.wide 0 P fn' tmps Q (Ds.map mk1) .returning w
 |[],w,_,_,h=>by
  simp only[List.map_nil,LeavesInM,LeavesIn]
  exact h
 |D::Ds,w,hn,hd,h=>by
  rw[List.nodup_cons]at hn
  refine⟨by simp,.inl ⟨D,w.putObj D (.deferred none),rfl,run_takeDeferred (hd D (List.mem_cons_self ..)),nR Ds _ hn.2 (fun D' hD'=> ?_) h⟩⟩
  have b6:D'≠D:=by rintro rfl;exact hn.1 hD'
  rw[World.putObj_heap_other b6]
  exact hd D' (List.mem_cons_of_mem _ hD')
theorem jH {E:Env} {f:FuncId} {fn':Func} {code:Code} {args:Array Value} {w:World} {Q:Ending→World→Prop} {K:bQ} (hro:E.ro=none) (hf:E.P.funcs[f]? =some fn') (hb:fn'.body=some code)
  (hK1:∀ch fr hp,¬K (.panic ch) fr hp) (hK2:∀fr hp,¬K .outgrown fr hp)
  (Ms:code.wpIn (EY E.ro) 0 E.P (s7 E K) {tmps:=args++Array.replicate (fn'.ntmps - args.size) undef,defers:=[]} w)
  (h:∀e a' w',a'.defers=[]→s7 E K e a' w'→bodyPost E.P fn' Q e a' w'):Calls E.P f args w Q:=by
 rw[hro]at Ms
 refine callsIn_wide.1 (callsIn_of_wp_marks (n:=0) hf hb trivial (wpIn_mono (F:=Fence.wide) Ms ?_))
 rintro e a' w' ⟨fr,hp,hk,ρ,hx,hfx,hR⟩
 obtain⟨Ds,d1,d2,d3⟩:=hR.defers
 have:=h e {a' with defers:=[]} (shut Ds w') rfl ⟨fr,hp,hk,ρ,hx,hfx,hR.shut d3⟩
 cases e with
 |normal=>
  simp only[bodyPostM,d1]
  exact nR Ds w' d2 (fun D hD=>(d3 D hD).2.1) this.2
 |ret=>
  simp only[bodyPostM,d1]
  exact nR Ds w' d2 (fun D hD=>(d3 D hD).2.1) this.2
 |panic ch=>exact absurd hk (hK1 _ _ _)
 |outgrown=>exact absurd hk (hK2 _ _)
 |exit id=>exact this
 |goto l=>exact this
theorem Z9 {P:Program} {T:List (TypeId×TI)} {Z:List Nat} (hT:gQ P T) (hm:P.follows .mixedOrders=true) {f:FuncId} {fn':Func} {code:Code} (hf:P.funcs[f]? =some fn') (hb:fn'.body=some code)
  (hn:(fn'.name== "runtime.NumGoroutine")=false) {args:List SV} {c:SV} (ha:bn args=true) (hc:bE c=true) (hnt:Nat.ble args.length fn'.ntmps=true) (hpass:args.all bs=true)
  (h:∀W0 w0 ρ0,Env.OK ⟨P,T,W0,w0,fn'.ntmps,ρ0,[],Z,none⟩→Aa ⟨P,T,W0,w0,fn'.ntmps,ρ0,[],Z,none⟩ code (H9 T fn'.results.toList fun sv _=>aq sv c) (enum 0 args) []):ab P f args [] c [] []:=by
 have IK:=Nat.le_of_ble_eq_true hnt
 refine .inl ⟨⟨fn',hf,hn,by rw[hb];rfl⟩,fun ρ w z hz hpw=> ?_⟩
 let ρ1:bY:=⟨fun _=>none,ρ.aY,ρ.cq⟩
 let E:Env:=⟨P,T,fun _=>False,w,fn'.ntmps,ρ1,[],Z,none⟩
 have hE:E.OK:=⟨hT,hm,fun k x hx=>by cases hx⟩
 have ph:z.length=args.length:=by
  clear h hnt IK hpass ha
  induction args generalizing z with
  |nil=>simp only[au]at hz;subst hz;rfl
  |cons c l ih=>simp only[au]at hz;obtain⟨x,r,rfl,_,h⟩:=hz;simp[ih r h]
 have E7:=ck (ρ:=ρ) (ρ':=ρ1) (fun b o hb=>hb) args z ha hz
 have lT:∀(l:List SV) (y:List (List Value)),au ρ1 l y→l.all bs=true→∀(j:Nat) (c:SV),l[j]? =some c→∃v,(List.zipWith cM l y)[j]? =some v∧Has ρ1 c v:=by
  intro l
  induction l with
  |nil=>intro y _ _ j c h;simp at h
  |cons d l ih=>
   intro y hy hp j c hj
   simp only[au]at hy
   obtain⟨x,r,rfl,g1,g2⟩:=hy
   simp only[List.all_cons,Bool.and_eq_true]at hp
   cases j with
   |zero=>
    simp at hj
    subst hj
    refine⟨cM d x,by simp, ?_⟩
    have hp1:=hp.1
    cases d<;>simp[bs]at hp1<;>simp only[Has]<;>exact⟨x,g1,rfl⟩
   |succ j=>simpa using ih r g2 hp.2 j c (by simpa using hj)
 have s9:((List.zipWith cM args z).toArray++Array.replicate (fn'.ntmps - (List.zipWith cM args z).toArray.size) undef).size=fn'.ntmps:=by
  simp[ph]
  omega
 have hR:R E.W0 E.w0 E.n ρ1 (fn (enum 0 args) []) {tmps:=(List.zipWith cM args z).toArray++Array.replicate (fn'.ntmps - (List.zipWith cM args z).toArray.size) undef,defers:=[]} w:={
  defers:=.nil
  size:=s9
  fr:=fun t sv ht=>by
   simp only[fn,LV.sv]at ht
   obtain⟨_,h2⟩:=qE args 0 t sv ht
   obtain⟨v,h3,h4⟩:=lT args z E7 hpass t sv (by simpa using h2)
   have aA:t<(List.zipWith cM args z).length:=(List.getElem?_eq_some_iff.1 h3).1
   have:((List.zipWith cM args z).toArray++Array.replicate (fn'.ntmps - (List.zipWith cM args z).toArray.size) undef).getD t undef=v:=by
    rw[Array.getD_eq_getD_getElem?,Array.getElem?_append_left (by simpa using aA)]
    simp[h3]
   rw[this];exact h4
  bO:=.refl _ _
  hp:={
   blk:=fun k b hb=>by simp[fn,find,LV.blk]at hb
   sep:=fun k k' x x' b b' hx=>by cases hx
   own:=fun k b x hb=>by simp[fn,find,LV.blk]at hb
   rL:=fun k x hx=>by cases hx
   aY:=hpw.aY
   fb:=fun k b x hb=>by simp[fn,find,LV.blk]at hb}}
 have Ms:=iC hE code _ _ _ (h E.W0 w ρ1 hE) _ w ⟨ρ1,⟨.refl _,fun b o hb=>.inl hb,(fun _ h=>by cases h)⟩,(fun _ h=>by cases h),hR⟩
 refine jH (E:=E) rfl hf hb (fun _ _ _ h=>h) (fun _ _ h=>h) Ms ?_
 rintro e a' w' hdf ⟨fr',cd,hK,ρ',hext,_,jw⟩
 have fin:∀ob l,jY T fr' cd fn'.results.toList=some (ob,l)→Bn ob→aq (pw l) c→a'.defers=[]∧∃v,(results fn' a'.tmps).run P w'= .ok v w'∧∃v' ρ'',Ending.returned v= .returned v'∧jA ρ w c [] [] v' ρ'' w':=by
  intro ob l h1 h2 h3
  obtain⟨v,r1,r2⟩:=lh hE jw h1 h2
  refine⟨hdf,v,r1,v,⟨ρ.key,ρ'.aY,ρ'.cq⟩,rfl,⟨⟨fun k x hx=>hx,fun b o hb=>hext.le.aY b o hb⟩, ?_,fun _ _=>rfl, ?_,(fun k b h=>by rcases h with h|h<;>cases h),(fun _ _ _ h=>by cases h),(fun k b x h=>by cases h),(fun k b k' b' x x' h=>by cases h), ?_⟩⟩
  ·exact mr (ρ:=ρ') (ρ':=⟨ρ.key,ρ'.aY,ρ'.cq⟩) (fun b o hb=>hb) c v hc (h3 ρ' v r2)
  ·exact jw.bO.mono (fun b _ hb=>hb.elim)
  ·intro b o hb
   rcases hext.aY b o hb with h4|h4
   ·exact .inl h4
   ·exact .inr ⟨h4,jw.hp.aY b o hb,fun k blk x h=>by cases h⟩
 cases e<;>simp only[H9]at hK<;>simp only[bodyPost]
 ·split at hK
  ·rename_i ob l hl;exact fin ob l hl (cl hK).1 (cl hK).2
  ·exact hK.elim
 ·split at hK
  ·rename_i ob l hl;exact fin ob l hl (cl hK).1 (cl hK).2
  ·exact hK.elim
end Go.Sx
namespace Go.Sx
mutual
def fc (σ:Nat→Nat):SV→SV
 |.ptr k s i r=>.ptr (σ k) s i r
 |.aN k s i n=>.aN (σ k) s i n
 |.agg cs=>.agg (kR σ cs)
 |.ct vs=>.ct (kR σ vs)
 |.clo f a b=>.clo f (kR σ a) (kR σ b)
 |.yld k rc ts a=>.yld (σ k) rc ts (kR σ a)
 |.any=>.any
 |.val v=>.val v
 |.nat n=>.nat n
 |.int z=>.int z
 |.frac q=>.frac q
 |.atom p=>.atom p
def kR (σ:Nat→Nat):List SV→List SV
 |[]=>[]
 |c::l=>fc σ c::kR σ l
end
mutual
def refs:SV→List Nat
 |.ptr k _ _ _=>[k]
 |.aN k _ _ _=>[k]
 |.agg cs=>gb cs
 |.ct vs=>gb vs
 |.clo _ a b=>gb a++gb b
 |.yld k _ _ a=>k::gb a
 |_=>[]
def gb:List SV→List Nat
 |[]=>[]
 |c::l=>refs c++gb l
end
def xT (σ:Nat→Nat):Data→Data
 |.one cs=>.one (kR σ cs)
 |.seq w xs=>.seq w xs
 |.ints k xs=>.ints k xs
 |.cm xs=>.cm xs
 |.dead=>.dead
 |.loop rc=>.loop rc
def nS:Data→List Nat
 |.one cs=>gb cs
 |.seq _ _=>[]
 |_=>[]
def dM (σ:Nat→Nat) (b:aC):aC:=⟨b.ty,b.wr,xT σ b.data⟩
def kT (σ:Nat→Nat):List (Nat×aC)→List (Nat×aC)
 |[]=>[]
 |(k,b)::r=>(σ k,dM σ b)::kT σ r
theorem DB (σ:Nat→Nat) (c:SV):(fc σ c).bf=c.bf:=by cases c<;>simp[fc,SV.bf]
theorem vR (σ:Nat→Nat) (c:SV) (x:List Value):cM (fc σ c) x=cM c x:=by simp[cM,DB]
theorem oz (σ:Nat→Nat):∀(l:List SV) (z:List (List Value)),List.zipWith cM (kR σ l) z=List.zipWith cM l z
 |[],z=>by simp[kR]
 |c::l,[]=>by simp[kR]
 |c::l,x::z=>by simp[kR,vR,oz σ l z]
mutual
theorem qF {ρ ρ':bY} {σ:Nat→Nat} (hi:ρ'.aY=ρ.aY):∀(c:SV) (x:List Value),(∀k∈refs c,ρ'.key (σ k)=ρ.key k)→(aK ρ' (fc σ c) x↔aK ρ c x)
 |.any,_,_=>by simp only[fc,aK]
 |.val _,_,_=>by simp only[fc,aK]
 |.nat _,_,_=>by simp only[fc,aK]
 |.int _,_,_=>by simp only[fc,aK]
 |.frac _,_,_=>by simp only[fc,aK]
 |.atom p,_,_=>by simp only[fc,aK,hi]
 |.ptr k s i r,_,h=>by simp only[fc,aK,h k (by simp[refs])]
 |.aN k s i n,_,h=>by simp only[fc,aK,h k (by simp[refs])]
 |.agg cs,_,h=>by
  simp only[fc,aK]
  constructor
  ·rintro⟨z,h1,h2⟩;exact⟨z,(dA hi cs z (by simpa [refs]using h)).1 h1,h2⟩
  ·rintro⟨z,h1,h2⟩;exact⟨z,(dA hi cs z (by simpa [refs]using h)).2 h1,h2⟩
 |.ct vs,_,_=>by simp only[fc,aK]
 |.clo f a b,_,h=>by
  have ha:∀k∈gb a,ρ'.key (σ k)=ρ.key k:=fun k hk=>h k (by simp[refs,hk])
  have hb:∀k∈gb b,ρ'.key (σ k)=ρ.key k:=fun k hk=>h k (by simp[refs,hk])
  simp only[fc,aK,oz]
  constructor
  ·rintro⟨fz,cz,h1,h2,h3⟩;exact⟨fz,cz,(dA hi a fz ha).1 h1,(dA hi b cz hb).1 h2,h3⟩
  ·rintro⟨fz,cz,h1,h2,h3⟩;exact⟨fz,cz,(dA hi a fz ha).2 h1,(dA hi b cz hb).2 h2,h3⟩
 |.yld k rc ts a,_,h=>by
  have h0:ρ'.key (σ k)=ρ.key k:=h k (by simp[refs])
  have ha:∀k∈gb a,ρ'.key (σ k)=ρ.key k:=fun k hk=>h k (by simp[refs,hk])
  simp only[fc,aK,oz,h0]
  constructor
  ·rintro⟨l,t,h1,h2,z,h3,h4⟩;exact⟨l,t,h1,h2,z,(dA hi a z ha).1 h3,h4⟩
  ·rintro⟨l,t,h1,h2,z,h3,h4⟩;exact⟨l,t,h1,h2,z,(dA hi a z ha).2 h3,h4⟩
theorem dA {ρ ρ':bY} {σ:Nat→Nat} (hi:ρ'.aY=ρ.aY):∀(l:List SV) (z:List (List Value)),(∀k∈gb l,ρ'.key (σ k)=ρ.key k)→(au ρ' (kR σ l) z↔au ρ l z)
 |[],_,_=>by simp only[kR,au]
 |c::l,_,h=>by
  have hc:∀k∈refs c,ρ'.key (σ k)=ρ.key k:=fun k hk=>h k (by simp[gb,hk])
  have hl:∀k∈gb l,ρ'.key (σ k)=ρ.key k:=fun k hk=>h k (by simp[gb,hk])
  simp only[kR,au]
  constructor
  ·rintro⟨x,r,h1,h2,h3⟩;exact⟨x,r,h1,(qF hi c x hc).1 h2,(dA hi l r hl).1 h3⟩
  ·rintro⟨x,r,h1,h2,h3⟩;exact⟨x,r,h1,(qF hi c x hc).2 h2,(dA hi l r hl).2 h3⟩
end
theorem iN {ρ:bY} {c:SV} {v:Value} (h:bs c=true):Has ρ c v↔∃x,aK ρ c x∧v=cM c x:=by
 cases c<;>simp only[bs,Bool.false_eq_true]at h<;>simp only[Has]
theorem IL (σ:Nat→Nat) (c:SV):bs (fc σ c)=bs c:=by cases c<;>rfl
theorem uK {ρ ρ':bY} {σ:Nat→Nat} (hi:ρ'.aY=ρ.aY) (c:SV) (v:Value) (h:∀k∈refs c,ρ'.key (σ k)=ρ.key k):Has ρ' (fc σ c) v↔Has ρ c v:=by
 cases hp:bs c with
 |true=>
  rw[iN hp,iN (by rw[IL];exact hp)]
  constructor
  ·rintro⟨x,h1,h2⟩;exact⟨x,(qF hi c x h).1 h1,by rw[h2,vR]⟩
  ·rintro⟨x,h1,h2⟩;exact⟨x,(qF hi c x h).2 h1,by rw[h2,vR]⟩
 |false=>
  cases c<;>simp only[bs,Bool.true_eq_false]at hp
  case ct l=>
   simp only[fc,Has,oz]
   constructor
   ·rintro⟨z,h1,h2⟩;exact⟨z,(dA hi l z (by simpa [refs]using h)).1 h1,h2⟩
   ·rintro⟨z,h1,h2⟩;exact⟨z,(dA hi l z (by simpa [refs]using h)).2 h1,h2⟩
  case any=>simp only[fc,Has]
mutual
theorem GI (σ:Nat→Nat):∀c:SV,(fc σ c).width=c.width
 |.any=>rfl
 |.val _=>rfl
 |.nat _=>rfl
 |.int _=>rfl
 |.frac _=>rfl
 |.atom _=>rfl
 |.ptr .. =>rfl
 |.aN .. =>rfl
 |.agg cs=>by simp only[fc,SV.width];exact vS σ cs
 |.ct _=>rfl
 |.clo .. =>rfl
 |.yld .. =>rfl
theorem vS (σ:Nat→Nat):∀l:List SV,SV.dn (kR σ l)=SV.dn l
 |[]=>rfl
 |c::l=>by simp only[kR,SV.dn];rw[GI σ c,vS σ l]
end
theorem BW {ρ ρ':bY} {σ:Nat→Nat} (hi:ρ'.aY=ρ.aY) (d:Data) (vs:List Value) (h:∀k∈nS d,ρ'.key (σ k)=ρ.key k):c9 ρ' (xT σ d) vs↔c9 ρ d vs:=by
 cases d
 case one cs=>
  simp only[xT,c9]
  constructor
  ·rintro⟨z,h1,h2⟩;exact⟨z,(dA hi cs z h).1 h1,h2⟩
  ·rintro⟨z,h1,h2⟩;exact⟨z,(dA hi cs z h).2 h1,h2⟩
 case seq w xs=>
  have e:cN ρ'.aY ρ'.cq=cN ρ.aY ρ.cq:=by
   cases ρ;cases ρ';simp only at hi;subst hi;rfl
  simp only[xT,c9,e]
 all_goals simp only[xT,c9]
theorem cI (σ:Nat→Nat) (d:Data):(xT σ d).live=d.live:=by cases d<;>rfl
theorem DC (σ:Nat→Nat) (d:Data):(xT σ d).empty↔d.empty:=by
 cases d<;>simp[xT,Data.empty]
theorem IM (σ:Nat→Nat) (d:Data) (l:List Value) (ty:TypeId):(xT σ d).obj l ty=d.obj l ty:=by cases d<;>rfl
theorem iY {ρ ρ':bY} {σ:Nat→Nat} {w:World} (hi:ρ'.aY=ρ.aY) (k:Nat) (b:aC) (hk:ρ'.key (σ k)=ρ.key k) (h:∀k∈nS b.data,ρ'.key (σ k)=ρ.key k):gP ρ' w (σ k) (dM σ b)↔gP ρ w k b:=by
 simp only[gP,dM,hk,cI,DC,IM]
 constructor
 ·rintro(h0|⟨b',t,vs,ex,h1,h2,h3,h4⟩|h0)
  ·exact .inl h0
  ·exact .inr (.inl ⟨b',t,vs,ex,h1,h2,(BW hi b.data vs h).1 h3,h4⟩)
  ·exact .inr (.inr h0)
 ·rintro(h0|⟨b',t,vs,ex,h1,h2,h3,h4⟩|h0)
  ·exact .inl h0
  ·exact .inr (.inl ⟨b',t,vs,ex,h1,h2,(BW hi b.data vs h).2 h3,h4⟩)
  ·exact .inr (.inr h0)
def cx (l:List (Nat×Nat)) (k:Nat):Nat:=match l with
 |[]=>k
 |(a,b)::r=>match Nat.beq a k with|true=>b|false=>cx r k
def fp (σ:Nat→Nat) (fr:List (Nat×SV)):List Nat→List (Nat×SV)
 |[]=>[]
 |t::r=>match lk fr t with
  |some c=>(t,fc σ c)::fp σ fr r
  |none=>fp σ fr r
def gE (σ:Nat→Nat) (hp:List (Nat×aC)):List Nat→List (Nat×aC)
 |[]=>[]
 |k::r=>match find hp k with
  |some b=>(σ k,dM σ b)::gE σ hp r
  |none=>gE σ hp r
def eI (l r:List Nat):Bool:=match l with
 |[]=>true
 |x::t=>uD x r&&eI t r
theorem dI {l r:List Nat} (h:eI l r=true):∀x∈l,x∈r:=by
 induction l with
 |nil=>intro x hx;cases hx
 |cons y l ih=>
  simp only[eI,Bool.and_eq_true]at h
  intro x hx
  rcases List.mem_cons.1 hx with rfl|hx
  ·exact iW.1 h.1
  ·exact ih h.2 x hx
def dZ (ks:List Nat) (fr:List (Nat×SV)):List Nat→Bool
 |[]=>true
 |t::r=>match lk fr t with
  |some c=>eI (refs c) ks&&dZ ks fr r
  |none=>dZ ks fr r
def dD (ks:List Nat) (hp:List (Nat×aC)):List Nat→Bool
 |[]=>true
 |k::r=>match find hp k with
  |some b=>eI (nS b.data) ks&&dD ks hp r
  |none=>false
def qG (σ:Nat→Nat):List Nat→Bool
 |[]=>true
 |k::r=> !(uD (σ k) (r.map σ))&&qG σ r
def ua (σ:Nat→Nat) (ks:List Nat):List Nat→Bool
 |[]=>true
 |k::r=>(uD k ks&&Nat.beq (σ k) k)&&ua σ ks r
def gT (fx:List Nat) (σ:Nat→Nat) (ts ks:List Nat) (fr:List (Nat×SV)) (hp:List (Nat×aC)):Bool:=
 dZ ks fr ts&&(dD ks hp ks&&(qG σ ks&&ua σ ks fx))
theorem pK {σ:Nat→Nat}:∀{ks:List Nat},qG σ ks=true→∀a∈ks,∀b∈ks,σ a=σ b→a=b
 |k::r,h,a,ha,b,hb,he=>by
  simp only[qG,Bool.and_eq_true,Bool.not_eq_true',←Bool.not_eq_true,iW]at h
  rcases List.mem_cons.1 ha with ha'|ha'
  ·rcases List.mem_cons.1 hb with gj|gj
   ·rw[ha',gj]
   ·exact absurd (List.mem_map.2 ⟨b,gj,by rw[←he,ha']⟩) h.1
  ·rcases List.mem_cons.1 hb with gj|gj
   ·exact absurd (List.mem_map.2 ⟨a,ha',by rw[he,gj]⟩) h.1
   ·exact pK h.2 a ha' b gj he
theorem qH {σ:Nat→Nat} {fr:List (Nat×SV)} {ks:List Nat}:∀{ts:List Nat},dZ ks fr ts=true→∀t sv,lk (fp σ fr ts) t=some sv→∃c,lk fr t=some c∧sv=fc σ c∧∀k∈refs c,k∈ks
 |u::r,h,t,sv,hl=>by
  unfold dZ at h
  unfold fp at hl
  cases hu:lk fr u with
  |none=>rw[hu]at h hl;exact qH h t sv hl
  |some c=>
   rw[hu]at h hl
   simp only[Bool.and_eq_true]at h
   simp only[lk]at hl
   cases hb:Nat.beq u t with
   |true=>
    rw[hb]at hl
    simp only[Option.some.injEq]at hl
    obtain rfl:=Nat.eq_of_beq_eq_true hb
    exact⟨c,hu,hl.symm,dI h.1⟩
   |false=>rw[hb]at hl;exact qH h.2 t sv hl
theorem pL {σ:Nat→Nat} {hp:List (Nat×aC)} {ks:List Nat}:∀{l:List Nat},dD ks hp l=true→∀k' b',find (gE σ hp l) k'=some b'→∃k∈l,σ k=k'∧∃b,find hp k=some b∧b'=dM σ b∧∀j∈nS b.data,j∈ks
 |k::r,h,k',b',hf=>by
  unfold dD at h
  unfold gE at hf
  cases hk:find hp k with
  |none=>rw[hk]at h;cases h
  |some b=>
   rw[hk]at h hf
   simp only[Bool.and_eq_true]at h
   simp only[find]at hf
   cases hb:Nat.beq (σ k) k' with
   |true=>
    rw[hb]at hf
    simp only[Option.some.injEq]at hf
    exact⟨k,List.mem_cons_self ..,Nat.eq_of_beq_eq_true hb,b,hk,hf.symm,dI h.1⟩
   |false=>
    rw[hb]at hf
    obtain⟨j,h1,h2⟩:=pL h.2 k' b' hf
    exact⟨j,List.mem_cons_of_mem _ h1,h2⟩
theorem lU {σ:Nat→Nat} {hp:List (Nat×aC)} {ks:List Nat}:∀{l:List Nat},dD ks hp l=true→∀k∈l,∃b,find (gE σ hp l) (σ k)=some b
 |j::r,h,k,hk=>by
  unfold dD at h
  unfold gE
  cases hj:find hp j with
  |none=>rw[hj]at h;cases h
  |some b=>
   rw[hj]at h
   simp only[Bool.and_eq_true]at h
   simp only[find]
   cases hb:Nat.beq (σ j) (σ k)with
   |true=>exact⟨_,rfl⟩
   |false=>
    rcases List.mem_cons.1 hk with rfl|hk
    ·simp[Nat.beq_refl]at hb
    ·exact lU h.2 k hk
theorem vT {σ:Nat→Nat} {ks:List Nat}:∀{l:List Nat},ua σ ks l=true→∀k∈l,k∈ks∧σ k=k
 |j::r,h,k,hk=>by
  simp only[ua,Bool.and_eq_true,iW]at h
  rcases List.mem_cons.1 hk with rfl|hk
  ·exact⟨h.1.1,Nat.eq_of_beq_eq_true h.1.2⟩
  ·exact vT h.2 k hk
theorem oA {E:Env} (hE:E.OK) {σ:Nat→Nat} {ts ks:List Nat} {fr:List (Nat×SV)} {hp:List (Nat×aC)} (h:gT E.fx σ ts ks fr hp=true) {a:Act} {w:World} (hR:RR E (fn fr hp) a w):
  RR E (fn (fp σ fr ts) (gE σ hp ks)) a w:=by
 simp only[gT,Bool.and_eq_true]at h
 obtain⟨h1,h2,h3,h4⟩:=h
 obtain⟨ρ,hext,hfx,hR⟩:=hR
 have RU:=pK h3
 have GJ:=vT h4
 let ρ':bY:=⟨fun k'=>match ks.find? (fun k=>σ k==k')with
  |some k=>ρ.key k
  |none=>none,ρ.aY,ρ.cq⟩
 have b9:∀k∈ks,ρ'.key (σ k)=ρ.key k:=by
  intro k hk
  show(match ks.find? (fun j=>σ j==σ k)with|some k=>ρ.key k|none=>none)=ρ.key k
  cases hf:ks.find? (fun j=>σ j==σ k)with
  |none=>have:=List.find?_eq_none.1 hf k hk;simp at this
  |some j=>
   have hj:=List.mem_of_find?_eq_some hf
   have hs:=List.find?_some hf
   have:j=k:=RU j hj k hk (by simpa using hs)
   rw[this]
 have IN:∀k' x,ρ'.key k'=some x→∃k∈ks,σ k=k'∧ρ.key k=some x:=by
  intro k' x hx
  have hx:(match ks.find? (fun j=>σ j==k')with|some k=>ρ.key k|none=>none)=some x:=hx
  cases hf:ks.find? (fun j=>σ j==k')with
  |none=>rw[hf]at hx;cases hx
  |some j=>rw[hf]at hx;exact⟨j,List.mem_of_find?_eq_some hf,by simpa using List.find?_some hf,hx⟩
 have hold:∀k' b',(fn (fp σ fr ts) (gE σ hp ks) (.k k')).blk=some b'→∃k∈ks,σ k=k'∧∃b,find hp k=some b∧b'=dM σ b∧∀j∈nS b.data,j∈ks:=fun k' b' hb=>pL h2 k' b' hb
 refine⟨ρ',⟨⟨fun k x hx=> ?_,hext.le.aY⟩,hext.aY,fun k hk=> ?_⟩,fun k hk=> ?_,{defers:=hR.defers,size:=hR.size,fr:= ?_,bO:=hR.bO,hp:= ?_}⟩
 ·obtain⟨e1,e2⟩:=GJ k (hE.rL k x hx)
  have:=b9 k e1
  rw[e2]at this
  rw[this];exact hext.le.key k x hx
 ·obtain⟨e1,e2⟩:=GJ k hk
  have:=b9 k e1
  rw[e2]at this
  rw[this];exact hext.fix k hk
 ·obtain⟨e1,e2⟩:=GJ k hk
  obtain⟨b,hb⟩:=lU (σ:=σ) h2 k e1
  rw[e2]at hb
  simp[fn,LV.blk,hb]
 ·intro t sv ht
  obtain⟨c,c1,rfl,c3⟩:=qH h1 t sv ht
  exact(uK (ρ:=ρ) (ρ':=ρ') (σ:=σ) rfl c _ (fun k hk=>b9 k (c3 k hk))).2 (hR.fr t c (by simp only[fn,LV.sv];exact c1))
 ·constructor
  ·intro k' b' hb
   obtain⟨k,hk,rfl,b,b1,rfl,b3⟩:=hold k' b' hb
   exact(iY (ρ:=ρ) (ρ':=ρ') (σ:=σ) rfl k b (b9 k hk) (fun j hj=>b9 j (b3 j hj))).2 (hR.hp.blk k b (by simp only[fn,LV.blk];exact b1))
  ·intro k1 k2 x1 x2 b1 b2 hx1 Mp b6 he hb1 hb2 gp iM
   obtain⟨j1,m1,rfl,c1,d1,rfl,_⟩:=hold k1 b1 hb1
   obtain⟨j2,m2,rfl,c2,d2,rfl,_⟩:=hold k2 b2 hb2
   rw[b9 j1 m1]at hx1
   rw[b9 j2 m2]at Mp
   exact hR.hp.sep j1 j2 x1 x2 c1 c2 hx1 Mp (fun h=>b6 (by rw[h])) he (by simp only[fn,LV.blk];exact d1) (by simp only[fn,LV.blk];exact d2) (by rwa [dM,cI]at gp) (by rwa [dM,cI]at iM)
  ·intro k' b' x hb hw hl hx
   obtain⟨k,hk,rfl,b,b1,rfl,_⟩:=hold k' b' hb
   rw[b9 k hk]at hx
   exact hR.hp.own k b x (by simp only[fn,LV.blk];exact b1) hw (by rwa [dM,cI]at hl) hx
  ·intro k' x hx
   obtain⟨k,hk,rfl,_⟩:=IN k' x hx
   obtain⟨b,hb⟩:=lU (σ:=σ) h2 k hk
   exact⟨b,by simp only[fn,LV.blk];exact hb⟩
  ·exact hR.hp.aY
  ·intro k' b' x hb hw hl hx
   obtain⟨k,hk,rfl,b,b1,rfl,_⟩:=hold k' b' hb
   rw[b9 k hk]at hx
   exact hR.hp.fb k b x (by simp only[fn,LV.blk];exact b1) hw (by rwa [dM,cI]at hl) hx
theorem uL {E:Env} (hE:E.OK) (σ:Nat→Nat) (ts ks:List Nat) {c:Code} {K:bQ} {fr:List (Nat×SV)} {hp:List (Nat×aC)} (h:gT E.fx σ ts ks fr hp=true)
  (hs:SW E c K (fp σ fr ts) (gE σ hp ks)):SW E c K fr hp:=fun a w hR=>hs a w (oA hE h hR)
def vU (t k s:Nat) (fr:List (Nat×SV)):List (Nat×SV):=(t,.aN k s 0 0)::fr
theorem IP {E:Env} {t k s:Nat} {blk:aC} {fr:List (Nat×SV)} {hp:List (Nat×aC)} (ht:lk fr t=some (.val (.slice none 0 0))) (hk:find hp k=none) (he:blk.data.empty) {a:Act} {w:World} (hR:RR E (fn fr hp) a w):
  RR E (fn (vU t k s fr) ((k,blk)::hp)) a w:=by
 obtain⟨ρ,hext,hfx,hR⟩:=hR
 have Dh:ρ.key k=none:=by
  cases hx:ρ.key k with
  |none=>rfl
  |some x=>
   obtain⟨b,hb⟩:=hR.hp.rL k x hx
   simp only[fn,LV.blk,hk]at hb
   cases hb
 have gw:∀j b,(fn (vU t k s fr) ((k,blk)::hp) (.k j)).blk=some b→(j=k∧b=blk)∨(j≠k∧(fn fr hp (.k j)).blk=some b):=by
  intro j b hb
  simp only[fn,LV.blk,find]at hb ⊢
  cases hj:Nat.beq k j with
  |true=>rw[hj]at hb;simp only[Option.some.injEq]at hb;exact .inl ⟨(Nat.eq_of_beq_eq_true hj).symm,hb.symm⟩
  |false=>rw[hj]at hb;exact .inr ⟨by rintro rfl;simp[Nat.beq_refl]at hj,hb⟩
 have b6:∀j x,ρ.key j=some x→j≠k:=fun j x hx h=>by rw[h,Dh]at hx;cases hx
 refine⟨ρ,hext,fun j hj=> ?_,{defers:=hR.defers,size:=hR.size,fr:= ?_,bO:=hR.bO,hp:= ?_}⟩
 ·have:=hfx j hj
  simp only[fn,LV.blk,find]at this ⊢
  cases hb:Nat.beq k j with
  |true=>simp
  |false=>exact this
 ·intro u sv hu
  simp only[fn,LV.sv,vU,lk]at hu
  cases hb:Nat.beq t u with
  |true=>
   rw[hb]at hu
   simp only[Option.some.injEq]at hu
   subst hu
   obtain rfl:=Nat.eq_of_beq_eq_true hb
   have:=aI (hR.fr t _ (by simp only[fn,LV.sv];exact ht))
   rw[this]
   exact gk (.inr ⟨rfl,none,rfl⟩)
  |false=>
   rw[hb]at hu
   exact hR.fr u sv (by simp only[fn,LV.sv];exact hu)
 ·constructor
  ·intro j b hb
   rcases gw j b hb with⟨rfl,rfl⟩|⟨_,h1⟩
   ·exact .inr (.inr ⟨Dh,he⟩)
   ·exact hR.hp.blk j b h1
  ·intro j j' x x' b b' hx pG hn hxe hb gj
   rcases gw j b hb with⟨h1,_⟩|⟨_,h1⟩
   ·exact absurd h1 (b6 j x hx)
   ·rcases gw j' b' gj with⟨h2,_⟩|⟨_,h2⟩
    ·exact absurd h2 (b6 j' x' pG)
    ·exact hR.hp.sep j j' x x' b b' hx pG hn hxe h1 h2
  ·intro j b x hb hw hl hx
   rcases gw j b hb with⟨h1,_⟩|⟨_,h1⟩
   ·exact absurd h1 (b6 j x hx)
   ·exact hR.hp.own j b x h1 hw hl hx
  ·intro j x hx
   obtain⟨b,hb⟩:=hR.hp.rL j x hx
   have:=b6 j x hx
   refine⟨b, ?_⟩
   simp only[fn,LV.blk,find]at hb ⊢
   cases hj:Nat.beq k j with
   |true=>exact absurd (Nat.eq_of_beq_eq_true hj).symm this
   |false=>exact hb
  ·exact hR.hp.aY
  ·intro j b x hb hw hl hx
   rcases gw j b hb with⟨h1,_⟩|⟨_,h1⟩
   ·exact absurd h1 (b6 j x hx)
   ·exact hR.hp.fb j b x h1 hw hl hx
theorem IQ {E:Env} (t k s:Nat) (blk:aC) {c:Code} {K:bQ} {fr:List (Nat×SV)} {hp:List (Nat×aC)} (ht:lk fr t=some (.val (.slice none 0 0))) (hk:find hp k=none) (he:blk.data.empty)
  (hs:SW E c K (vU t k s fr) ((k,blk)::hp)):SW E c K fr hp:=fun a w hR=>hs a w (IP ht hk he hR)
theorem bR {E:Env} {t k s:Nat} {c:Code} {K:bQ} {blk:aC} {fr:List (Nat×SV)} {hp:List (Nat×aC)} (ht:lk fr t=some (.val (.slice none 0 0))) (hk:find hp k=none) (he:blk.data.empty)
  (hs:ey E c K (vU t k s fr) ((k,blk)::hp)):ey E c K fr hp:=⟨IQ t k s blk ht hk he hs.run⟩
theorem ai {E:Env} (hE:E.OK) {c:Code} {K:bQ} {fr:List (Nat×SV)} {hp:List (Nat×aC)} (σ:Nat→Nat) (ts ks:List Nat) (I:Nat→List (Nat×SV)→List (Nat×aC)→Prop) (m:Nat)
  (h0:gT E.fx σ ts ks fr hp=true) (hI:I m (fp σ fr ts) (gE σ hp ks))
  (h:∀m fr hp,I m fr hp→Aa E c (fun e fr' cd=>match e with
   |.normal=>∃m' σ ts ks,m'<m∧gT E.fx σ ts ks fr' cd=true∧I m' (fp σ fr' ts) (gE σ cd ks)
   |e=>K e fr' cd) fr hp):ey E (.loop c) K fr hp:=by
 refine⟨?_⟩
 refine uL hE σ ts ks h0 (Ab (fun m fr hp=>∃fr0 rR,(∀a w,RR E (fn fr hp) a w→RR E (fn fr0 rR) a w)∧I m fr0 rR) m ⟨_,_,fun _ _ h=>h,hI⟩ ?_)
 rintro m fr hp ⟨fr0,rR,hw,hI⟩ a w hR
 refine Code.wpIn_mono ?_ (iC hE c _ fr0 rR (h m fr0 rR hI) a w (hw a w hR))
 rintro e a' w' ⟨fr',cd,h1,h2⟩
 cases e with
 |normal=>
  obtain⟨m',σ,ts,ks,aA,uE,hI'⟩:=h1
  exact⟨fr',cd,⟨m',aA,_,_,fun a w hR=>oA hE uE hR,hI'⟩,h2⟩
 |_=>exact⟨fr',cd,h1,h2⟩
end Go.Sx
namespace Go.Sx
def Fin (c:SV) (new upd:List (Nat×aC)) (sv:SV) (hp:List (Nat×aC)):Prop:=
 aq sv c∧(∀k b,(k,b)∈new→find hp k=some b)∧(∀k b,(k,b)∈upd→find hp k=some b)
def qI:List (Nat×aC)→Bool
 |[]=>true
 |(_,b)::r=>(b.wr&&b.data.live)&&qI r
def gU:List (Nat×aC)→List Nat
 |[]=>[]
 |(_,b)::r=>nS b.data++gU r
def nT:List Nat→Bool
 |[]=>true
 |x::r=> !(uD x r)&&nT r
structure cu (args:List SV) (fk:List (Nat×aC)) (c:SV) (new upd:List (Nat×aC)):Prop where
 RV:eI (gb args) (ax fk)=true
 fkr:eI (gU fk) (ax fk)=true
 nd:nT (ax fk++ax new)=true
 RX:qI new=true
 RY:qI upd=true
 IS:∀k b,(k,b)∈upd→∃b0,(k,b0)∈fk∧b0.wr=true∧b0.data.live=true
 DD:∀k b,(k,b)∈fk→b.wr=true→b.data.live=true→∃b',(k,b')∈upd
 cr:eI (refs c) (ax fk++ax new)=true
 nr:eI (gU new) (ax fk++ax new)=true
 ur:eI (gU upd) (ax fk++ax new)=true
 pass:args.all bs=true
structure bh (fk new:List (Nat×aC)) (σ:Nat→Nat):Prop where
 inj:∀q q' b b',(q,b)∈fk→(q',b')∈fk→q≠q'→b.wr=true→σ q≠σ q'
 IT:∀m m',m∈ax new→m'∈ax new→m≠m'→σ m≠σ m'
 IU:∀m q,m∈ax new→q∈ax fk→σ m≠σ q
theorem lj:∀{l:List Nat},nT l=true→l.Nodup
 |[],_=>List.nodup_nil
 |x::r,h=>by
  simp only[nT,Bool.and_eq_true,Bool.not_eq_true',←Bool.not_eq_true,iW]at h
  exact List.nodup_cons.2 ⟨h.1,lj h.2⟩
theorem iZ:∀{l:List (Nat×aC)} {k:Nat} {b:aC},(ax l).Nodup→(k,b)∈l→find l k=some b
 |(j,c)::r,k,b,hn,hm=>by
  simp only[ax,List.nodup_cons]at hn
  simp only[find]
  rcases List.mem_cons.1 hm with h|h
  ·cases h;simp[Nat.beq_refl]
  ·have b6:j≠k:=by rintro rfl;exact hn.1 (aT.2 ⟨b,h⟩)
   cases hb:Nat.beq j k with
   |true=>exact absurd (Nat.eq_of_beq_eq_true hb) b6
   |false=>exact iZ hn.2 h
theorem mI:∀{l:List (Nat×aC)},qI l=true→∀k b,(k,b)∈l→b.wr=true∧b.data.live=true
 |(j,c)::r,h,k,b,hm=>by
  simp only[qI,Bool.and_eq_true]at h
  rcases List.mem_cons.1 hm with h1|h1
  ·cases h1;exact h.1
  ·exact mI h.2 k b h1
theorem iD:∀{l:List (Nat×aC)} {k:Nat} {b:aC},(k,b)∈l→∀x∈nS b.data,x∈gU l
 |(j,c)::r,k,b,hm,x,hx=>by
  simp only[gU,List.mem_append]
  rcases List.mem_cons.1 hm with h1|h1
  ·cases h1;exact .inl hx
  ·exact .inr (iD h1 x hx)
theorem bI {σ:Nat→Nat}:∀{l:List (Nat×aC)} {k:Nat} {b:aC},(k,b)∈kT σ l↔∃q b0,(q,b0)∈l∧k=σ q∧b=dM σ b0
 |[],k,b=>by simp[kT]
 |(j,c)::r,k,b=>by
  simp only[kT,List.mem_cons,Prod.mk.injEq,bI (l:=r)]
  constructor
  ·rintro(⟨rfl,rfl⟩|⟨q,b0,h1,h2,h3⟩)
   ·exact⟨j,c,.inl ⟨rfl,rfl⟩,rfl,rfl⟩
   ·exact⟨q,b0,.inr h1,h2,h3⟩
  ·rintro⟨q,b0,⟨rfl,rfl⟩|h1,h2,h3⟩
   ·exact .inl ⟨h2,h3⟩
   ·exact .inr ⟨q,b0,h1,h2,h3⟩
theorem fq {P:Program} {T:List (TypeId×TI)} {Z:List Nat} (hT:gQ P T) (hm:P.follows .mixedOrders=true) {f:FuncId} {fn':Func} {code:Code} (hf:P.funcs[f]? =some fn') (hb:fn'.body=some code)
  (hn:(fn'.name== "runtime.NumGoroutine")=false) {args:List SV} {fk:List (Nat×aC)} {c:SV} {new upd:List (Nat×aC)} (hs:cu args fk c new upd) (hnt:Nat.ble args.length fn'.ntmps=true)
  (σ:Nat→Nat) (hσ:bh fk new σ)
  (h:∀W0 w0 ρ0,Env.OK ⟨P,T,W0,w0,fn'.ntmps,ρ0,ax fk,Z,none⟩→Aa ⟨P,T,W0,w0,fn'.ntmps,ρ0,ax fk,Z,none⟩ code (H9 T fn'.results.toList (Fin c new upd)) (enum 0 args) fk):
  ab P f (kR σ args) (kT σ fk) (fc σ c) (kT σ new) (kT σ upd):=by
 have IK:=Nat.le_of_ble_eq_true hnt
 refine .inl ⟨⟨fn',hf,hn,by rw[hb];rfl⟩,fun ρ w z hz hpw=> ?_⟩
 have PH:=lj hs.nd
 have IV:(ax fk).Nodup:=(List.nodup_append.1 PH).1
 have ad5:(ax new).Nodup:=(List.nodup_append.1 PH).2.1
 have IW:∀m∈ax new,m∉ax fk:=fun m hm hq=>(List.nodup_append.1 PH).2.2 m hq m hm rfl
 let ρ1:bY:=⟨fun q=>if q∈ax fk then ρ.key (σ q)else none,ρ.aY,ρ.cq⟩
 have Br:∀q∈ax fk,ρ.key (σ q)=ρ1.key q:=fun q hq=>by
  show _=if q∈ax fk then _ else _
  rw[if_pos hq]
 have IX:∀q x,ρ1.key q=some x→q∈ax fk:=fun q x hx=>by
  have hx:(if q∈ax fk then ρ.key (σ q)else none)=some x:=hx
  by_cases hq:q∈ax fk
  ·exact hq
  ·rw[if_neg hq]at hx;cases hx
 let W0:Nat→Prop:=fun b=>∃q blk t,(q,blk)∈upd∧ρ1.key q=some (b,t)
 let E:Env:=⟨P,T,W0,w,fn'.ntmps,ρ1,ax fk,Z,none⟩
 have hE:E.OK:=⟨hT,hm,IX⟩
 have IY:=dI hs.RV
 have E7:au ρ1 args z:=(dA (ρ:=ρ1) (ρ':=ρ) (σ:=σ) rfl args z (fun k hk=>Br k (IY k hk))).1 hz
 have ph:z.length=args.length:=cR E7
 have lT:∀(l:List SV) (y:List (List Value)),au ρ1 l y→l.all bs=true→∀(j:Nat) (c:SV),l[j]? =some c→∃v,(List.zipWith cM l y)[j]? =some v∧Has ρ1 c v:=by
  intro l
  induction l with
  |nil=>intro y _ _ j c h;simp at h
  |cons d l ih=>
   intro y hy hp j c hj
   simp only[au]at hy
   obtain⟨x,r,rfl,g1,g2⟩:=hy
   simp only[List.all_cons,Bool.and_eq_true]at hp
   cases j with
   |zero=>
    simp at hj
    subst hj
    exact⟨cM d x,by simp,(iN hp.1).2 ⟨x,g1,rfl⟩⟩
   |succ j=>simpa using ih r g2 hp.2 j c (by simpa using hj)
 have s9:((List.zipWith cM args z).toArray++Array.replicate (fn'.ntmps - (List.zipWith cM args z).toArray.size) undef).size=fn'.ntmps:=by
  simp[ph]
  omega
 have RZ:=dI hs.fkr
 have nU:∀k b,find fk k=some b→(k,b)∈fk:=fun k b hb=>iS hb
 have hR:R E.W0 E.w0 E.n ρ1 (fn (enum 0 args) fk) {tmps:=(List.zipWith cM args z).toArray++Array.replicate (fn'.ntmps - (List.zipWith cM args z).toArray.size) undef,defers:=[]} w:={
  defers:=.nil
  size:=s9
  fr:=fun t sv ht=>by
   simp only[fn,LV.sv]at ht
   obtain⟨_,h2⟩:=qE args 0 t sv ht
   obtain⟨v,h3,h4⟩:=lT args z E7 hs.pass t sv (by simpa using h2)
   have aA:t<(List.zipWith cM args z).length:=(List.getElem?_eq_some_iff.1 h3).1
   have:((List.zipWith cM args z).toArray++Array.replicate (fn'.ntmps - (List.zipWith cM args z).toArray.size) undef).getD t undef=v:=by
    rw[Array.getD_eq_getD_getElem?,Array.getElem?_append_left (by simpa using aA)]
    simp[h3]
   rw[this];exact h4
  bO:=.refl _ _
  hp:={
   blk:=fun k b hb=>by
    have hm:=nU k b hb
    have:=hpw.mu (σ k) (dM σ b) (bI.2 ⟨k,b,hm,rfl,rfl⟩)
    exact(iY (ρ:=ρ1) (ρ':=ρ) (σ:=σ) rfl k b (Br k (aT.2 ⟨b,hm⟩)) (fun j hj=>Br j (RZ j (iD hm j hj)))).1 this
   sep:=fun k k' x x' b b' hx pG b6 he hb gj hl qh=>by
    have hm:=nU k b hb
    have DE:=nU k' b' gj
    have H3:ρ.key (σ k)=some x:=by rw[Br k (aT.2 ⟨b,hm⟩)];exact hx
    have R3:ρ.key (σ k')=some x':=by rw[Br k' (aT.2 ⟨b',DE⟩)];exact pG
    cases hw:b.wr with
    |false=>rfl
    |true=>
     have:=hpw.sep (σ k) (σ k') x x' (dM σ b) (dM σ b') (bI.2 ⟨k,b,hm,rfl,rfl⟩) (bI.2 ⟨k',b',DE,rfl,rfl⟩) H3 R3 (hσ.inj k k' b b' hm DE b6 hw) he (by rw[dM,cI];exact hl) (by rw[dM,cI];exact qh)
     rw[dM]at this
     rw[hw]at this;exact this
   own:=fun k b x hb hw hl hx=>by
    have hm:=nU k b hb
    obtain⟨b',hu⟩:=hs.DD k b hm hw hl
    exact .inr ⟨k,b',x.2,hu,hx⟩
   rL:=fun k x hx=>by
    obtain⟨b,hb⟩:=aT.1 (IX k x hx)
    exact⟨b,by simp only[fn,LV.blk];exact iZ IV hb⟩
   aY:=hpw.aY
   fb:=fun k b x hb hw hl hx=>by
    have hm:=nU k b hb
    have H3:ρ.key (σ k)=some x:=by rw[Br k (aT.2 ⟨b,hm⟩)];exact hx
    exact hpw.fb (σ k) (dM σ b) x (bI.2 ⟨k,b,hm,rfl,rfl⟩) hw (by rw[dM,cI];exact hl) H3}}
 have Ms:=iC hE code _ _ _ (h E.W0 w ρ1 hE) _ w ⟨ρ1,⟨.refl _,(fun b o hb=>.inl hb),(fun _ _=>rfl)⟩,(fun k hk=>by
  obtain⟨b,hb⟩:=aT.1 hk
  simp only[fn,LV.blk,iZ IV hb]
  simp),hR⟩
 rw[oz]
 refine jH (E:=E) rfl hf hb (fun _ _ _ h=>h) (fun _ _ h=>h) Ms ?_
 rintro e a' w' hdf ⟨fr',cd,hK,ρ',hext,_,jw⟩
 have fin:∀ob l,jY T fr' cd fn'.results.toList=some (ob,l)→Bn ob→Fin c new upd (pw l) cd→a'.defers=[]∧∃v,(results fn' a'.tmps).run P w'= .ok v w'∧∃v' ρ'',Ending.returned v= .returned v'∧jA ρ w (fc σ c) (kT σ new) (kT σ upd) v' ρ'' w':=by
  rintro ob l h1 h2 ⟨h3,fg,hupd⟩
  obtain⟨v,r1,r2⟩:=lh hE jw h1 h2
  let ρ2:bY:=⟨fun k=>match (ax new).find? (fun m=>σ m==k)with
   |some m=>ρ'.key m
   |none=>ρ.key k,ρ'.aY,ρ'.cq⟩
  have nV:∀m∈ax new,ρ2.key (σ m)=ρ'.key m:=by
   intro m hm
   show(match (ax new).find? (fun j=>σ j==σ m)with|some m=>ρ'.key m|none=>ρ.key (σ m))=ρ'.key m
   cases DF:(ax new).find? (fun j=>σ j==σ m)with
   |none=>have:=List.find?_eq_none.1 DF m hm;simp at this
   |some j=>
    have hj:=List.mem_of_find?_eq_some DF
    have hjs:=List.find?_some DF
    have:j=m:=Classical.byContradiction fun b6=>hσ.IT j m hj hm b6 (by simpa using hjs)
    rw[this]
  have vV:∀k,(∀m∈ax new,σ m≠k)→ρ2.key k=ρ.key k:=by
   intro k hk
   show(match (ax new).find? (fun j=>σ j==k)with|some m=>ρ'.key m|none=>ρ.key k)=ρ.key k
   cases DF:(ax new).find? (fun j=>σ j==k)with
   |none=>rfl
   |some j=>exact absurd (by simpa using List.find?_some DF) (hk j (List.mem_of_find?_eq_some DF))
  have k2:∀q∈ax fk++ax new,ρ2.key (σ q)=ρ'.key q:=by
   intro q hq
   rcases List.mem_append.1 hq with hq|hq
   ·rw[vV (σ q) (fun m hm=>hσ.IU m q hm hq),Br q hq,hext.fix q hq]
   ·exact nV q hq
  have du:∀m∈ax new,ρ.key (σ m)=none:=by
   intro m hm
   obtain⟨b,hb⟩:=aT.1 hm
   exact hpw.fresh (σ m) (dM σ b) (bI.2 ⟨m,b,hb,rfl,rfl⟩)
  have gV:=mI hs.RX
  have IZ:=mI hs.RY
  have hnr:=dI hs.nr
  have hur:=dI hs.ur
  have ZE:=dI hs.cr
  have mJ:∀q b,(q,b)∈upd→q∈ax fk:=fun q b hq=>by
   obtain⟨b0,h1,_⟩:=hs.IS q b hq
   exact aT.2 ⟨b0,h1⟩
  refine⟨hdf,v,r1,v,ρ2,rfl,⟨⟨fun k x hx=> ?_,fun b o hb=>hext.le.aY b o hb⟩, ?_,fun k hk=> ?_, ?_, ?_, ?_, ?_, ?_, ?_⟩⟩
  ·rw[vV k]
   ·exact hx
   ·rintro m hm rfl
    rw[du m hm]at hx;cases hx
  ·exact(uK (ρ:=ρ') (ρ':=ρ2) (σ:=σ) rfl c v (fun k hk=>k2 k (ZE k hk))).2 (h3 ρ' v r2)
  ·refine vV k fun m hm he=> ?_
   obtain⟨b,hb⟩:=aT.1 hm
   exact hk (dM σ b) (bI.2 ⟨m,b,hb,he.symm,rfl⟩)
  ·refine jw.bO.mono (fun b _ hb=> ?_)
   obtain⟨q,blk,t,hq,hx⟩:=hb
   refine⟨σ q,dM σ blk,t,bI.2 ⟨q,blk,hq,rfl,rfl⟩, ?_⟩
   rw[Br q (mJ q blk hq)];exact hx
  ·intro k b hk
   rcases hk with hk|hk
   ·obtain⟨q,b0,hq,rfl,rfl⟩:=bI.1 hk
    exact(iY (ρ:=ρ') (ρ':=ρ2) (σ:=σ) rfl q b0 (k2 q (List.mem_append.2 (.inl (mJ q b0 hq)))) (fun j hj=>k2 j (hur j (iD hq j hj)))).2 (jw.hp.blk q b0 (by simp only[fn,LV.blk];exact hupd q b0 hq))
   ·obtain⟨q,b0,hq,rfl,rfl⟩:=bI.1 hk
    exact(iY (ρ:=ρ') (ρ':=ρ2) (σ:=σ) rfl q b0 (k2 q (List.mem_append.2 (.inr (aT.2 ⟨b0,hq⟩)))) (fun j hj=>k2 j (hnr j (iD hq j hj)))).2 (jw.hp.blk q b0 (by simp only[fn,LV.blk];exact fg q b0 hq))
  ·intro k b b' hk _ hl _
   obtain⟨q,b0,hq,rfl,rfl⟩:=bI.1 hk
   rw[dM,cI]at hl
   rw[(IZ q b0 hq).2]at hl;cases hl
  ·intro k b x hk hx
   obtain⟨m,b0,hm,rfl,rfl⟩:=bI.1 hk
   rw[nV m (aT.2 ⟨b0,hm⟩)]at hx
   have hfm:(fn fr' cd (.k m)).blk=some b0:=by simp only[fn,LV.blk];exact fg m b0 hm
   rcases jw.hp.own m b0 x hfm (gV m b0 hm).1 (gV m b0 hm).2 hx with h4|⟨q,bu,t,hq,hxq⟩
   ·exact .inl h4
   ·exfalso
    have ZF:=mJ q bu hq
    have b6:m≠q:=fun he=>IW m (aT.2 ⟨b0,hm⟩) (he▸ZF)
    have R4:ρ'.key q=some (x.1,t):=by rw[hext.fix q ZF];exact hxq
    have:=jw.hp.sep m q x (x.1,t) b0 bu hx R4 b6 rfl hfm (by simp only[fn,LV.blk];exact hupd q bu hq) (gV m b0 hm).2 (IZ q bu hq).2
    rw[(gV m b0 hm).1]at this;cases this
  ·intro k b k' b' x x' hk my b6 hx pG he
   obtain⟨m,b0,hm,rfl,rfl⟩:=bI.1 hk
   obtain⟨m',b0',DE,rfl,rfl⟩:=bI.1 my
   rw[nV m (aT.2 ⟨b0,hm⟩)]at hx
   rw[nV m' (aT.2 ⟨b0',DE⟩)]at pG
   have:=jw.hp.sep m m' x x' b0 b0' hx pG (fun h=>b6 (by rw[h])) he (by simp only[fn,LV.blk];exact fg m b0 hm) (by simp only[fn,LV.blk];exact fg m' b0' DE) (gV m b0 hm).2 (gV m' b0' DE).2
   rw[(gV m b0 hm).1]at this;cases this
  ·intro b o hb
   rcases hext.aY b o hb with h4|h4
   ·exact .inl h4
   ·refine .inr ⟨h4,jw.hp.aY b o hb,fun k blk x hk hx he=> ?_⟩
    obtain⟨m,b0,hm,rfl,rfl⟩:=bI.1 hk
    rw[nV m (aT.2 ⟨b0,hm⟩)]at hx
    have:=jw.hp.fb m b0 x (by simp only[fn,LV.blk];exact fg m b0 hm) (gV m b0 hm).1 (gV m b0 hm).2 hx
    rw[he]at this
    have gj:ρ'.aY b=some o:=hb
    rw[gj]at this;cases this
 cases e<;>simp only[H9]at hK<;>simp only[bodyPost]
 ·split at hK
  ·rename_i ob l hl;exact fin ob l hl (cl hK).1 (cl hK).2
  ·exact hK.elim
 ·split at hK
  ·rename_i ob l hl;exact fin ob l hl (cl hK).1 (cl hK).2
  ·exact hK.elim
def ro (b:aC):aC:=⟨b.ty,false,b.data⟩
theorem nL.ro {ρ:bY} {w:World} {fk new:List (Nat×aC)} (hp:nL fk new ρ w):nL (fk.map fun x=>(x.1,ro x.2)) new ρ w:=by
 refine⟨fun k b hk=> ?_,fun k k' x x' b b' hk _ _ _ _ _ _ _=> ?_,hp.aY,fun k b x hk hw=> ?_,hp.fresh⟩
 ·obtain⟨⟨q,b0⟩,hq,he⟩:=List.mem_map.1 hk
  cases he
  exact hp.mu q b0 hq
 ·obtain⟨⟨q,b0⟩,hq,he⟩:=List.mem_map.1 hk
  cases he
  rfl
 ·obtain⟨⟨q,b0⟩,hq,he⟩:=List.mem_map.1 hk
  cases he
  cases hw
theorem ab.px {P:Program} {f:FuncId} {args:List SV} {fk:List (Nat×aC)} {c:SV} {new:List (Nat×aC)} (h:ab P f args (fk.map fun x=>(x.1,ro x.2)) c new []):ab P f args fk c new []:=by
 rcases h with⟨h1,h2⟩|h
 ·exact .inl ⟨h1,fun ρ w z hz hp=>h2 ρ w z hz hp.ro⟩
 ·exact .inr fun ρ w z hz hp=>h ρ w z hz hp.ro
end Go.Sx
namespace Go.Sx
def oB:List Nat→Nat
 |[]=>0
 |w::l=>w+4294967296*oB l
theorem jI:∀(f n:Nat),n≤f→oB (cP f n)=n∧(∀w∈cP f n,w<4294967296)∧(cP f n≠[]→(cP f n).getLast?≠some 0)∧(cP f n=[]↔n=0)
 |0,n,h=>by
  obtain rfl:n=0:=aa
  simp[cP,oB]
 |f+1,n,h=>by
  simp only[cP]
  by_cases hn:n=0
  ·simp[hn,oB]
  ·have ih:=jI f (n/4294967296) aa
   simp only[hn,if_false]
   refine⟨?_, ?_,fun _=> ?_,by simp⟩
   ·simp only[oB,ih.1];omega
   ·intro w hw
    rcases List.mem_cons.1 hw with rfl|hw
    ·omega
    ·exact ih.2.1 w hw
   ·by_cases hz:n/4294967296=0
    ·have:cP f (n/4294967296)=[]:=ih.2.2.2.2 hz
     rw[this]
     simp
     omega
    ·have b6:cP f (n/4294967296)≠[]:=fun he=>hz (ih.2.2.2.1 he)
     rw[List.getLast?_cons,Option.getD_of_ne_none (by simp[b6])]
     have:=ih.2.2.1 b6
     exact this
theorem py (n:Nat):oB (words n)=n:=(jI n n (Nat.le_refl n)).1
theorem vW {n w:Nat} (h:w∈words n):w<4294967296:=(jI n n (Nat.le_refl n)).2.1 w h
theorem GK {n:Nat}:words n=[]↔n=0:=(jI n n (Nat.le_refl n)).2.2.2
theorem xU {a b:Nat} (ha:a<4294967296) (hb:b<4294967296) (h:bK a=bK b):a=b:=by
 simp only[bK,List.cons.injEq,and_true]at h
 obtain⟨h1,h2,h3,h4⟩:=h
 have e:=fun(x y:Nat) (h:UInt8.ofNat x=UInt8.ofNat y)=>by
  have:=congrArg UInt8.toNat h
  simpa [UInt8.toNat_ofNat']using this
 have e1:=e _ _ h1;have e2:=e _ _ h2;have e3:=e _ _ h3;have e4:=e _ _ h4
 omega
theorem bytes_inj:∀(l m:List Nat),(∀w∈l,w<4294967296)→(∀w∈m,w<4294967296)→l.flatMap bK=m.flatMap bK→l=m
 |[],[],_,_,_=>rfl
 |[],y::m,_,_,h=>by simp[bK]at h
 |x::l,[],_,_,h=>by simp[bK]at h
 |x::l,y::m,hl,hm,h=>by
  simp only[List.flatMap_cons]at h
  have:=List.append_inj h (by simp[bK])
  rw[xU (hl x (List.mem_cons_self ..)) (hm y (List.mem_cons_self ..)) this.1,bytes_inj l m (fun w hw=>hl w (List.mem_cons_of_mem _ hw)) (fun w hw=>hm w (List.mem_cons_of_mem _ hw)) this.2]
theorem vX (n:Nat):(nu n).toList=if n<18446744073709551616 then[]else(words n).flatMap bK:=by
 unfold nu
 split
 ·rw[ByteArray.toList_eq];rfl
 ·rw[ByteArray.toList_eq]
theorem lV {n:Nat}:(nu n).toList=[]↔n<18446744073709551616:=by
 rw[vX]
 split
 ·simp[*]
 ·rename_i h
  refine iff_of_false (fun he=> ?_) h
  cases hw:words n with
  |nil=>have:=GK.1 hw;omega
  |cons x l=>rw[hw]at he;simp[bK]at he
theorem iE (a b:Nat):((low a==low b)&&((nu a).toList==(nu b).toList))=decide (a=b):=by
 rw[Bool.eq_iff_iff]
 simp only[Bool.and_eq_true,beq_iff_eq,decide_eq_true_eq]
 constructor
 ·rintro⟨h1,h2⟩
  by_cases ha:a<18446744073709551616
  ·have hb:b<18446744073709551616:=lV.1 (h2▸lV.2 ha)
   simp only[low,ha,hb,if_true]at h1
   omega
  ·have hb:¬b<18446744073709551616:=fun hb=>ha (lV.1 (h2▸lV.2 hb))
   simp only[vX,ha,hb,if_false]at h2
   have:=bytes_inj _ _ (fun w=>vW) (fun w=>vW) h2
   rw[←py a,←py b,this]
 ·rintro rfl;exact⟨rfl,rfl⟩
def Ae:TK→List Value→List Value→Option Bool
 |.int _,[.int k a],[.int k' b]=>if k=k' then some (a==b)else none
 |.bool,[.bool a],[.bool b]=>some (a==b)
 |.str,[.string a],[.string b]=>some (a.toList==b.toList)
 |_,_,_=>none
mutual
def pn (T:List (TypeId×TI)) (dP:List TypeId):Nat→TypeId→List Value→List Value→Option Bool
 |0,_,_,_=>none
 |f+1,t,xs,ys=>match dz T t with
  |some ti=>match ti.kind with
   |.agg fs=>match dP.contains t with
    |true=>GL T dP f fs xs ys
    |false=>none
   |k=>Ae k xs ys
  |none=>none
def GL (T:List (TypeId×TI)) (dP:List TypeId):Nat→List (Nat×TypeId×Nat)→List Value→List Value→Option Bool
 |0,_,_,_=>none
 |_+1,[],_,_=>some true
 |f+1,(off,t,n)::fs,xs,ys=>match pn T dP f t ((xs.drop off).take n) ((ys.drop off).take n),GL T dP f fs xs ys with
  |some a,some b=>some (a&&b)
  |_,_=>none
end
def vY (P:Program) (dP:List TypeId):Prop:=∀t∈dP,P.stoodInHeld t=false∧(P.fieldsOf t).toList.all (fun f=>f.name != "_")=true
def M0 (ti:TI) (xs:List Value):Value:=match ti.kind with
 |.agg _=>.agg xs.toArray
 |_=>xs.headD undef
theorem BX {P:Program} {t:TypeId} {ti:TI} (ht:aD P t ti) {xs:Array Value} {off:Nat} (ir:ti.kind.isAgg=false→∃v,(xs.toList.drop off).take ti.size=[v]) (iB:∀n e,ti.kind≠ .arr n e) (w:World):
  (part t xs off).run P w= .ok (M0 ti ((xs.toList.drop off).take ti.size)) w:=by
 unfold part
 rw[Sem.run_bind,ht.isAgg]
 simp only[Result.andThen_ok]
 cases hk:ti.kind.isAgg with
 |true=>
  have:∃fs,ti.kind= .agg fs:=by
   cases hq:ti.kind<;>rw[hq]at hk<;>simp[TK.isAgg]at hk
   ·exact⟨_,rfl⟩
   ·exact absurd hq (iB _ _)
  obtain⟨fs,GM⟩:=this
  simp only[if_true,Sem.run_bind,ht.sizeOf,Result.andThen_ok,Sem.run_pure,M0,GM]
  congr 2
  apply Array.ext'
  simp[List.take_drop]
 |false=>
  obtain⟨v,hv⟩:=ir hk
  have hg:xs[off]? =some v:=by
   have:((xs.toList.drop off).take ti.size)[0]? =some v:=by rw[hv];rfl
   rw[List.getElem?_take]at this
   split at this
   ·rw[List.getElem?_drop]at this
    simpa using this
   ·cases this
  simp only[Bool.false_eq_true,if_false,hg,Sem.run_pure,M0]
  cases hq:ti.kind<;>rw[hq]at hk<;>simp[TK.isAgg]at hk<;>simp[hv]
theorem DG {P:Program} {t:TypeId} {d:Nat} {w:World} {k:TK} (hk:k.ok P t) {xs ys:List Value} {r:Bool} (h:Ae k xs ys=some r):∃x y,xs=[x]∧ys=[y]∧(Op.equalIn (d+1) t x y).run P w= .ok r w:=by
 unfold Ae at h
 split at h
 ·split at h
  ·rename_i hkk
   subst hkk
   simp only[Option.some.injEq]at h
   subst h
   exact⟨_,_,rfl,rfl,run_equalIn_int w d t _ _ _ _ hk⟩
  ·simp at h
 ·simp only[Option.some.injEq]at h
  subst h
  exact⟨_,_,rfl,rfl,run_equalIn_bool' w d t _ _ hk⟩
 ·simp only[Option.some.injEq]at h
  subst h
  exact⟨_,_,rfl,rfl,run_equalIn_string w d t _ _ hk⟩
 ·simp at h
mutual
theorem vZ {P:Program} {T:List (TypeId×TI)} {dP:List TypeId} (hT:gQ P T) (hg:vY P dP):∀(f:Nat) (t:TypeId) (xs ys:List Value) (r:Bool),pn T dP f t xs ys=some r→∀(d:Nat) (w:World),f≤d→∃ti,dz T t=some ti∧(∀n e,ti.kind≠ .arr n e)∧(ti.kind.isAgg=false→(∃v,xs=[v])∧∃v,ys=[v])∧(Op.equalIn d t (M0 ti xs) (M0 ti ys)).run P w= .ok r w
 |0,_,_,_,_,h,_,_,_=>by simp[pn]at h
 |f+1,t,xs,ys,r,h,d,w,hd=>by
  obtain⟨d,rfl⟩:∃d',d=d'+1:=⟨d - 1,aa⟩
  unfold pn at h
  split at h
  ·rename_i ti qu
   have hk:=(hT.get qu).kind
   refine⟨ti,qu, ?_⟩
   cases hq:ti.kind<;>rw[hq]at h hk<;>simp only at h
   case agg fs=>
    split at h
    ·rename_i hgood
     obtain⟨h1,h2,h3⟩:=hk
     obtain⟨g1,g2⟩:=hg t (by simpa using hgood)
     refine⟨by simp,by simp[TK.isAgg], ?_⟩
     simp only[M0,hq]
     rw[run_equalIn_struct w d t _ _ h1 g1]
     exact BY hT hg f fs xs ys r h (P.fieldsOf t).toList h2 g2 d w aa
    ·simp at h
   case arr=>simp[Ae]at h
   all_goals (obtain⟨x,y,rfl,rfl,h1⟩:=DG (d:=d) (w:=w) hk h;exact⟨by simp,fun _=>⟨⟨_,rfl⟩,⟨_,rfl⟩⟩,by simpa only[M0,hq,List.headD_cons]using h1⟩)
  ·simp at h
theorem BY {P:Program} {T:List (TypeId×TI)} {dP:List TypeId} (hT:gQ P T) (hg:vY P dP):∀(f:Nat) (fs:List (Nat×TypeId×Nat)) (xs ys:List Value) (r:Bool),GL T dP f fs xs ys=some r→
  ∀(l:List Field),l.map (fun f=>(f.offset,f.type,P.cellsOf f.type))=fs→l.all (fun f=>f.name != "_")=true→∀(d:Nat) (w:World),f≤d→(Op.eqFields d xs.toArray ys.toArray l).run P w= .ok r w
 |0,_,_,_,_,h,_,_,_,_,_,_=>by simp[GL]at h
 |f+1,[],xs,ys,r,h,l,hl,_,d,w,_=>by
  simp only[GL,Option.some.injEq]at h
  subst h
  obtain rfl:l=[]:=by simpa using hl
  simp[Op.eqFields]
 |f+1,(off,t,n)::fs,xs,ys,r,h,l,hl,hn,d,w,hd=>by
  cases l with
  |nil=>simp at hl
  |cons g l=>
   simp only[List.map_cons,List.cons.injEq,Prod.mk.injEq]at hl
   obtain⟨⟨rfl,rfl,rfl⟩,hl⟩:=hl
   simp only[List.all_cons,Bool.and_eq_true,bne_iff_ne,ne_eq]at hn
   unfold GL at h
   split at h
   ·rename_i a b ha hb
    simp only[Option.some.injEq]at h
    subst h
    obtain⟨ti,h1,h2,h3,h4⟩:=vZ hT hg f _ _ _ _ ha d w aa
    have ht:=hT.get h1
    have ir:P.cellsOf g.type=ti.size:=by
     obtain⟨i,z,e1,e2,_⟩:=ht.info
     simp[Program.cellsOf,e1,e2]
    rw[ir]at h3 h4
    have cv:=BY hT hg f fs xs ys b hb l hl hn.2 d w aa
    have p1:=BX ht (xs:=xs.toArray) (off:=g.offset) (fun hk=>(h3 hk).1) h2 w
    have p2:=BX ht (xs:=ys.toArray) (off:=g.offset) (fun hk=>(h3 hk).2) h2 w
    have R5:¬g.name= "_" :=hn.1
    simp only[Op.eqFields,R5,ne_eq,not_false_eq_true,if_true,Sem.run_bind,p1,p2,Result.andThen_ok,h4]
    cases a
    ·simp
    ·simp[cv]
   ·simp at h
end
def jy:SV→Option (List Value)
 |.nat n=>some (bB n)
 |.int z=>some (cC z)
 |.frac q=>some (bD q)
 |.agg cs=>flatL cs
 |_=>none
where flatL:List SV→Option (List Value)
 |[]=>some []
 |.val v::l=>(flatL l).map (v::·)
 |.nat n::l=>(flatL l).map (bB n++·)
 |.int z::l=>(flatL l).map (cC z++·)
 |.frac q::l=>(flatL l).map (bD q++·)
 |_=>none
theorem pM {ρ:bY}:∀{l:List SV} {cells:List Value} {z:List (List Value)},jy.flatL l=some cells→au ρ l z→z.flatten=cells
 |[],cells,z,h,hz=>by simp only[jy.flatL,Option.some.injEq]at h;simp only[au]at hz;subst h;subst hz;rfl
 |c::l,cells,z,h,hz=>by
  simp only[au]at hz
  obtain⟨x,r,rfl,h1,h2⟩:=hz
  cases c<;>simp only[jy.flatL,Option.map_eq_some_iff,reduceCtorEq]at h<;>obtain⟨m,hm,rfl⟩:=h<;>simp only[aK]at h1<;>have ih:=pM hm h2
  case val=>obtain⟨rfl,_⟩:=h1;simp[ih]
  all_goals (subst h1;simp[ih])
theorem jZ {ρ:bY} {c:SV} {cells:List Value} {v:Value} (h:jy c=some cells) (hv:Has ρ c v):v= .agg cells.toArray:=by
 cases c<;>simp only[jy,Option.some.injEq,reduceCtorEq]at h<;>simp only[Has,aK]at hv<;>obtain⟨x,hx,rfl⟩:=hv<;>simp only[cM,SV.bf,Bool.false_eq_true,if_false]
 case agg=>obtain⟨z,h1,rfl⟩:=hx;rw[pM h h1]
 all_goals (subst h;subst hx;rfl)
section
variable {P:Program} {o:Oper} {ft:List (Nat×SV)} {fk:List (Nat×aC)} {c c':SV}
theorem eJ {T:List (TypeId×TI)} {dP:List TypeId} {t t2:TypeId} {x y:Operand} {l l':List Value} {r:Bool} {fs:List (Nat×TypeId×Nat)} {ti:TI} (hT:gQ P T) (hg:vY P dP) (ho:o.op= .binOp .eql t x y t2) (hx:bp ft x c) (hy:bp ft y c')
  (hl:jy c=some l) (qh:jy c'=some l') (qu:dz T t=some ti) (hk:ti.kind= .agg fs) (hr:pn T dP 10 t l l'=some r) (hgd:P.eqGuardType P.depth t=false):bV P o ft fk (.val (.bool r)) [] []:=
 br fun ρ a w hp=>by
  have e1:=jZ hl (hx ρ a hp.dr)
  have e2:=jZ qh (hy ρ a hp.dr)
  obtain⟨ti',h1,_,_,h4⟩:=vZ hT hg 10 t l l' r hr 10000 w aa
  rw[qu]at h1
  cases h1
  simp only[M0,hk]at h4
  refine⟨_, ?_,ca rfl⟩
  simp only[execOp,ho,e1,e2,Sem.run_bind,run_eqGuard_agg w .eql t x y _ _ hgd,Result.andThen_ok,run_eql_struct,h4,Sem.run_pure]
theorem dK {T:List (TypeId×TI)} {dP:List TypeId} {t t2:TypeId} {x y:Operand} {l l':List Value} {r:Bool} {fs:List (Nat×TypeId×Nat)} {ti:TI} (hT:gQ P T) (hg:vY P dP) (ho:o.op= .binOp .neq t x y t2) (hx:bp ft x c) (hy:bp ft y c')
  (hl:jy c=some l) (qh:jy c'=some l') (qu:dz T t=some ti) (hk:ti.kind= .agg fs) (hr:pn T dP 10 t l l'=some r) (hgd:P.eqGuardType P.depth t=false):bV P o ft fk (.val (.bool (!r))) [] []:=
 br fun ρ a w hp=>by
  have e1:=jZ hl (hx ρ a hp.dr)
  have e2:=jZ qh (hy ρ a hp.dr)
  obtain⟨ti',h1,_,_,h4⟩:=vZ hT hg 10 t l l' r hr 10000 w aa
  rw[qu]at h1
  cases h1
  simp only[M0,hk]at h4
  refine⟨_, ?_,ca rfl⟩
  simp only[execOp,ho,e1,e2,Sem.run_bind,run_eqGuard_agg w .neq t x y _ _ hgd,Result.andThen_ok,run_neq_struct,h4,Sem.run_pure]
end
section
variable {P:Program} {o:Oper} {ft fr:List (Nat×SV)} {fk:List (Nat×aC)} {c c':SV}
theorem BZ {f:FuncId} {xs ys:Array Operand} {l m:List SV} (ho:o.op= .makeFunc (.func f) xs ys) (hx:Is fr xs.toList=some l) (hy:Is fr ys.toList=some m):bV P o fr fk (.clo f l m) [] []:=
 br fun ρ a w hp=>by
  obtain⟨z,h1,h2⟩:=vr hx ρ a hp.dr
  obtain⟨y,h3,h4⟩:=vr hy ρ a hp.dr
  refine⟨.func (.func f) (xs.map (Act.eval a)) (ys.map (Act.eval a)),by simp[execOp,ho,Instr.makeFunc], ?_⟩
  simp only[Has,aK]
  refine⟨_,⟨z,y,h1,h3,rfl⟩, ?_⟩
  simp only[cM,SV.bf,if_true,List.headD_cons,←h2,←h4]
  congr 1<;>(apply Array.ext';simp)
end
theorem eA {c d:SV} {l:List Value} (hc:jy c=some l) (hd:jy d=some l) (hnc:∀cs,d≠ .agg cs):aq c d:=by
 intro ρ v h
 have:=jZ hc h
 subst this
 cases d<;>simp only[jy,Option.some.injEq,reduceCtorEq]at hd
 case agg cs=>exact absurd rfl (hnc cs)
 all_goals (subst hd;simp only[Has,aK];exact⟨_,rfl,by simp[cM,SV.bf]⟩)
mutual
def aab:SV→SV→Prop
 |.ct l,.ct m=>PI l m
 |c,d=>∀ρ x,aK ρ c x→aK ρ d x∧c.bf=d.bf
def PI:List SV→List SV→Prop
 |[],[]=>True
 |c::l,d::m=>aab c d∧PI l m
 |_,_=>False
end
theorem B2 {a b a' b':SV} (h1:∀ρ x,aK ρ a x→aK ρ a' x) (i1:a.bf=a'.bf) (h2:∀ρ x,aK ρ b x→aK ρ b' x) (i2:b.bf=b'.bf):aq (.ct [a,b]) (.ct [a',b']):=by
 intro ρ v h
 simp only[Has,au]at h ⊢
 obtain⟨_,⟨x,_,rfl,hx,y,_,rfl,hy,rfl⟩,rfl⟩:=h
 exact⟨_,⟨x,_,rfl,h1 ρ x hx,y,_,rfl,h2 ρ y hy,rfl⟩,by simp[cM,i1,i2]⟩
theorem ub {a b c a' b' c':SV} (h1:∀ρ x,aK ρ a x→aK ρ a' x) (i1:a.bf=a'.bf) (h2:∀ρ x,aK ρ b x→aK ρ b' x) (i2:b.bf=b'.bf) (h3:∀ρ x,aK ρ c x→aK ρ c' x) (i3:c.bf=c'.bf):aq (.ct [a,b,c]) (.ct [a',b',c']):=by
 intro ρ v h
 simp only[Has,au]at h ⊢
 obtain⟨_,⟨x,_,rfl,hx,y,_,rfl,hy,z,_,rfl,hz,rfl⟩,rfl⟩:=h
 exact⟨_,⟨x,_,rfl,h1 ρ x hx,y,_,rfl,h2 ρ y hy,z,_,rfl,h3 ρ z hz,rfl⟩,by simp[cM,i1,i2,i3]⟩
theorem GN {c d:SV} {l:List Value} (hc:jy c=some l) (hd:jy d=some l) (hnc:∀cs,d≠ .agg cs):∀ρ x,aK ρ c x→aK ρ d x:=by
 intro ρ x h
 have hx:x=l:=by
  cases c<;>simp only[jy,Option.some.injEq,reduceCtorEq]at hc<;>simp only[aK]at h
  case agg cs=>obtain⟨z,h1,rfl⟩:=h;exact pM hc h1
  all_goals (subst hc;exact h)
 subst hx
 cases d<;>simp only[jy,Option.some.injEq,reduceCtorEq]at hd
 case agg cs=>exact absurd rfl (hnc cs)
 all_goals (subst hd;simp only[aK])
theorem wrap_u64 {n:Int} (h0:0≤n) (h:n<18446744073709551616):IntKind.u64.wrap n=n:=by simp[IntKind.wrap,IntKind.bits,IntKind.signed];omega
theorem wrap_u32 {n:Int} (h0:0≤n) (h:n<4294967296):IntKind.u32.wrap n=n:=by simp[IntKind.wrap,IntKind.bits,IntKind.signed];omega
theorem wrap_i64 {n:Int} (h0: -9223372036854775808≤n) (h:n<9223372036854775808):IntKind.i64.wrap n=n:=by
 simp only[IntKind.wrap,IntKind.bits,IntKind.signed,Bool.true_and]
 split<;>simp_all<;>omega
theorem oC (n:Int):IntKind.u64.wrap n=n % 18446744073709551616:=by simp[IntKind.wrap,IntKind.bits,IntKind.signed]
theorem wrap_u32' (n:Int):IntKind.u32.wrap n=n % 4294967296:=by simp[IntKind.wrap,IntKind.bits,IntKind.signed]
theorem cp {n:Nat} (h:n<18446744073709551616):low n=n:=by simp[low,h]
theorem GO {n:Nat} (h:n<18446744073709551616):nu n=ByteArray.empty:=by simp[nu,h]
theorem ke {n:Nat} (h:n<18446744073709551616):bB n=[.int .u64 n,.string .empty]:=by simp[bB,cp h,GO h]
theorem I0 {x y:Nat} (hx:x<18446744073709551616) (hy:y<18446744073709551616):Dr .u64 x y=((x&&& y:Nat):Int):=by
 have:x&&& y<18446744073709551616:=Nat.lt_of_le_of_lt Nat.and_le_left hx
 show IntKind.u64.wrap (((BitVec.ofInt 64 x&&& BitVec.ofInt 64 y).toNat:Nat):Int)=_
 rw[BitVec.toNat_and,BitVec.ofInt_natCast,BitVec.ofInt_natCast,BitVec.toNat_ofNat,BitVec.toNat_ofNat,Nat.mod_eq_of_lt (a:=x) aa,Nat.mod_eq_of_lt (a:=y) aa]
 exact wrap_u64 aa aa
theorem B3 {x y:Nat} (hx:x<4294967296) (hy:y<4294967296):Dr .u32 x y=((x&&& y:Nat):Int):=by
 have:x&&& y<4294967296:=Nat.lt_of_le_of_lt Nat.and_le_left hx
 show IntKind.u32.wrap (((BitVec.ofInt 32 x&&& BitVec.ofInt 32 y).toNat:Nat):Int)=_
 rw[BitVec.toNat_and,BitVec.ofInt_natCast,BitVec.ofInt_natCast,BitVec.toNat_ofNat,BitVec.toNat_ofNat,Nat.mod_eq_of_lt (a:=x) aa,Nat.mod_eq_of_lt (a:=y) aa]
 exact wrap_u32 aa aa
theorem uM {x y:Nat} (hx:x<18446744073709551616) (hy:y<18446744073709551616):Di .u64 x y=((x|||y:Nat):Int):=by
 have:x|||y<2^64:=Nat.or_lt_two_pow hx hy
 show IntKind.u64.wrap (((BitVec.ofInt 64 x|||BitVec.ofInt 64 y).toNat:Nat):Int)=_
 rw[BitVec.toNat_or,BitVec.ofInt_natCast,BitVec.ofInt_natCast,BitVec.toNat_ofNat,BitVec.toNat_ofNat,Nat.mod_eq_of_lt (a:=x) aa,Nat.mod_eq_of_lt (a:=y) aa]
 exact wrap_u64 aa aa
theorem ja (k:IntKind) {x s:Nat} (hs:s≤k.bits):jD k x s=((x/2^s:Nat):Int):=by
 simp only[jD,Int.toNat_natCast,Nat.min_eq_left hs]
 rw[Int.fdiv_eq_ediv_of_nonneg _ (by exact Int.le_of_lt (Int.pow_pos aF))]
 simp
end Go.Sx
namespace Go.Sx
def sz (n:Nat):Nat:=if n=0 then 0 else Nat.log2 n+1
theorem eW {n k:Nat}:sz n≤k↔n<2^k:=by
 unfold sz
 split
 ·rename_i h;subst h;simp[Nat.two_pow_pos]
 ·rename_i h
  rw[←Nat.log2_lt h]
  omega
theorem E8 (n:Nat):n<2^sz n:=eW.1 (Nat.le_refl _)
theorem dQ {a b:Nat} (h:a≤b):sz a≤sz b:=eW.2 (Nat.lt_of_le_of_lt h (E8 b))
theorem v7 {a b k:Nat} (ha:sz a≤k) (hb:sz b≤k):sz (a+b)≤k+1:=by
 rw[eW]at*
 rw[Nat.pow_succ]
 omega
theorem fu (a b:Nat):sz (a*b)≤sz a+sz b:=by
 rw[eW,Nat.pow_add]
 rcases Nat.eq_zero_or_pos a with h|h
 ·subst h;rw[Nat.zero_mul];exact Nat.mul_pos (Nat.two_pow_pos _) (Nat.two_pow_pos _)
 ·exact Nat.mul_lt_mul_of_lt_of_le (E8 a) (Nat.le_of_lt (E8 b)) (by have:=E8 b;omega)
theorem v8 (a b:Nat):sz (a/b)≤sz a:=dQ (Nat.div_le_self a b)
theorem R6 (a b:Nat):sz (a % b)≤sz a:=dQ (Nat.mod_le a b)
theorem I1 {n:Nat} (h:n≠0):1≤sz n:=by unfold sz;rw[if_neg h];omega
theorem DH:sz 1=1:=aB
theorem I2 {a b:Nat} (h:a≠0):sz (Nat.gcd a b)≤sz a:=dQ (Nat.le_of_dvd (Nat.pos_of_ne_zero h) (Nat.gcd_dvd_left a b))
theorem I3 {a b:Nat} (h:b≠0):sz (Nat.gcd a b)≤sz b:=dQ (Nat.le_of_dvd (Nat.pos_of_ne_zero h) (Nat.gcd_dvd_right a b))
theorem ag {b w w':Bool} {A B:Prop} (h:b=w) (hn:(w==w')=false) (a:A):(b=w→A)∧(b=w'→B):=⟨fun _=>a,fun h'=>absurd (h.symm.trans h') (by simpa using hn)⟩
theorem af {b w w':Bool} {A B:Prop} (h:b=w') (hn:(w==w')=false) (a:B):(b=w→A)∧(b=w'→B):=⟨fun h'=>absurd (h'.symm.trans h) (by simpa using hn),fun _=>a⟩
theorem aw {ops:List Oper} {fs:List fU} {A:Prop} (ht:indep ops fs=true) (h:A):(indep ops fs=true)∧A:=And.intro ht h
section
variable {P:Program} {o:Oper} {ft:List (Nat×SV)} {fk:List (Nat×aC)}
theorem I4 {x y z:Operand} {c:SV} (ho:o.op= .pick x y z) (hx:bp ft x (.val (.bool true))) (hy:bp ft y c):bV P o ft fk c [] []:=lg ho hx (fun _=>hy) (fun hb=>by cases hb) rfl (c2:=.any)
theorem I5 {x y z:Operand} {c:SV} (ho:o.op= .pick x y z) (hx:bp ft x (.val (.bool false))) (hy:bp ft z c):bV P o ft fk c [] []:=lg ho hx (fun hb=>by cases hb) (fun _=>hy) rfl (c1:=.any)
end
end Go.Sx
namespace Go.Sx
open Go.ChangeShapes
theorem ab.calls {P:Program} {f:FuncId} {args:List SV} {fk:List (Nat×aC)} {c:SV} {new upd:List (Nat×aC)} (hf:BB P f) (h:ab P f args fk c new upd)
  {ρ:bY} {w:World} {z:List (List Value)} (hz:au ρ args z) (hp:nL fk new ρ w):
  Calls P f (List.zipWith cM args z).toArray w fun e w'=>∃v ρ',e= .returned v∧jA ρ w c new upd v ρ' w':=by
 rcases h with⟨_,h⟩|h
 ·exact h ρ w z hz hp
 ·obtain⟨v,ρ',w',h1,_⟩:=h ρ w z hz hp
  obtain⟨fn,hfn,hn,hb⟩:=hf
  have ZB:¬fn.name= "runtime.NumGoroutine" :=by simpa using hn
  have gj:¬fn.body=none:=fun h=>by rw[h]at hb;cases hb
  simp[callFunc,hfn,ZB,gj]at h1
theorem cell_of_heap {w W:World} {g:Nat} (h:w.heap[g]? =W.heap[g]?) (j:Nat):w.cell? ⟨g,j,none⟩=W.cell? ⟨g,j,none⟩:=by
 simp only[World.cell?,h]
theorem M1 {W:World} (h:vk W):
  iw (fun b=>if lL.any (fun t=>t.1==b)then W.heap[b]? else none):=by
 intro g kd l hm
 obtain⟨b6,hc,ty,fz,hx⟩:=h g kd l hm
 have qe:lL.any (fun t=>t.1==g)=true:=List.any_eq_true.2 ⟨_,hm,by simp⟩
 cases l with
 |nil=>exact absurd rfl b6
 |cons x l=>
  have h0:=hc 0 x rfl
  cases ho:W.heap[g]? with
  |none=>simp[World.cell?,ho]at h0
  |some o=>
   refine⟨o,by simp[qe,ho],fun w hw j y hy=> ?_,ty,fz,by rw[ho]at hx;exact Option.some.inj hx⟩
   rw[cell_of_heap (W:=W) (by rw[hw,ho]) j]
   exact hc j y hy
theorem pz {H:Type} {enc:TypeId×Value→H} {P:Program} (hl:laidOutB P=true) {W W':World} (hb:RowKit.Below W.heap.size W W'):
  ∀(ts:List TypeId) (vs:List Value) (ds:List (DataW H)) (ps:List MemPlace),ts.all (fun t=>P.readableRec t&&decide (t<P.types.size))=true→DataW.TrodAll enc P W 0 (fun _=>true) true ts vs ds ps→(∀p∈ps,p.block<W.heap.size)→
   DataW.TrodAll enc P W' 0 (fun b=>decide (b<W.heap.size)) true ts vs ds ps
 |[],[],[],_,_,h,_=>h
 |t::ts,v::vs,d::ds,ps,hr,h,aA=>by
  obtain⟨p,q,h1,h2,rfl⟩:=h
  simp only[List.all_cons,Bool.and_eq_true,decide_eq_true_eq]at hr
  exact⟨p,q,RowKit.Below.trod hl hr.1.1 hr.1.2 h1 hb (fun x hx=>aA x (List.mem_append.2 (.inl hx))),pz hl hb ts vs ds q hr.2 h2 (fun x hx=>aA x (List.mem_append.2 (.inr hx))),rfl⟩
 |[],_::_,_,_,_,h,_=>h.elim
 |[],[],_::_,_,_,h,_=>h.elim
 |_::_,[],_,_,_,h,_=>h.elim
 |_::_,_::_,[],_,_,h,_=>h.elim
theorem I6 {H:Type} {enc:TypeId×Value→H} {P:Program} {f:Func} {s:ChangeSpec} {W W':World} {args:Array Value} {ds gs:List (DataW H)} {before:List MemPlace} {tb:TypeId}
  (hl:laidOutB P=true) (hr:f.params.toList.all (fun t=>P.readableRec t&&decide (t<P.types.size))=true) (hv:s.vars=[]) (RT:f.resultTypes= #[tb]) (htb:P.underlying tb=some .bool)
  (hW:DataW.Whole enc P f.params.toList s.vars false W args.toList ds gs before) (hfn:(s.fn H (ds++gs)).results=[.lit (.bool true)]∧(s.fn H (ds++gs)).args=ds∧(s.fn H (ds++gs)).vars=[])
  (hb:RowKit.Below W.heap.size W W'):s.post enc P f false true false false W args (.bool true) W':=by
 have aA:=hW.lt
 have hW':=hW
 obtain⟨p,q,h1,h2,rfl,h3,h4⟩:=hW
 rw[hv]at h2
 obtain⟨rfl,rfl⟩:=trodVars_none h2
 rw[List.append_nil]at aA
 refine⟨ds,[],p++[],[],p,[],hW', ?_, ?_, ?_,hb.frame _,fun h=>by cases h⟩
 ·rw[hfn.1,RT]
  exact trodAll_cons_mk (RowKit.shut_bool htb true) trodAll_mk0
 ·rw[hfn.2.1]
  exact pz hl hb _ _ _ _ hr h1 aA
 ·rw[hv,hfn.2.2]
  exact rfl
end Go.Sx
namespace Go.Sx
theorem ey.of {E:Env} (hE:E.OK) {c:Code} {K:bQ} {fr:List (Nat×SV)} {hp:List (Nat×aC)} (h:Aa E c K fr hp):ey E c K fr hp:=⟨iC hE c K fr hp h⟩
theorem dd {E:Env} (hE:E.OK) {c:Code} {K:bQ} {fr:List (Nat×SV)} {hp:List (Nat×aC)} (σ:Nat→Nat) (ts ks:List Nat) (I:Nat→List (Nat×SV)→List (Nat×aC)→Prop) (m:Nat)
  (h0:gT E.fx σ ts ks fr hp=true) (hI:I m (fp σ fr ts) (gE σ hp ks))
  (h:∀m fr hp,I m fr hp→ey E c (fun e fr' cd=>match e with
   |.normal=>∃m' σ ts ks,m'<m∧gT E.fx σ ts ks fr' cd=true∧I m' (fp σ fr' ts) (gE σ cd ks)
   |e=>K e fr' cd) fr hp):ey E (.loop c) K fr hp:=by
 refine⟨?_⟩
 refine uL hE σ ts ks h0 (Ab (fun m fr hp=>∃fr0 rR,(∀a w,RR E (fn fr hp) a w→RR E (fn fr0 rR) a w)∧I m fr0 rR) m ⟨_,_,fun _ _ h=>h,hI⟩ ?_)
 rintro m fr hp ⟨fr0,rR,hw,hI⟩ a w hR
 refine Code.wpIn_mono ?_ ((h m fr0 rR hI).run a w (hw a w hR))
 rintro e a' w' ⟨fr',cd,h1,h2⟩
 cases e with
 |normal=>
  obtain⟨m',σ,ts,ks,aA,uE,hI'⟩:=h1
  exact⟨fr',cd,⟨m',aA,_,_,fun a w hR=>oA hE uE hR,hI'⟩,h2⟩
 |_=>exact⟨fr',cd,h1,h2⟩
def gW:Data→Option (List SV)
 |.ints kd xs=>some (xs.map fun x=>.val (.int kd x))
 |.cm xs=>some (xs.map .frac)
 |.seq _ xs=>some xs
 |_=>none
theorem wc {ρ:bY}:∀(qs:List Rat),au ρ (qs.map .frac) (qs.map bD)
 |[]=>by simp[au]
 |q::qs=>by simp only[List.map_cons,au];exact⟨_,_,rfl,by simp[aK],wc qs⟩
theorem yu {ρ:bY} {kd:IntKind}:∀(xs:List Int),au ρ (xs.map fun x=>.val (.int kd x)) (xs.map fun x=>[.int kd x])
 |[]=>by simp[au]
 |x::xs=>by simp only[List.map_cons,au];exact⟨_,_,rfl,by simp[aK,Value.oneCell'],yu xs⟩
theorem GP {ρ:bY} {d:Data} {w:Nat} {xs:List SV} {vs:List Value} (h:gW d=some xs) (hw:db d=some w) (hd:c9 ρ d vs):∃z,au ρ xs z∧vs=z.flatten∧∀x∈xs,x.width=w:=by
 cases d<;>simp only[gW,Option.some.injEq,reduceCtorEq]at h<;>simp only[db,Option.some.injEq]at hw<;>subst h<;>subst hw<;>simp only[c9]at hd
 case ints kd xs=>
  subst hd
  exact⟨_,yu xs,by rw[←List.flatMap_def,List.map_eq_flatMap],fun x hx=>by obtain⟨q,_,rfl⟩:=List.mem_map.1 hx;rfl⟩
 case cm xs=>
  subst hd
  exact⟨_,wc xs,by rw[List.flatMap_def],fun x hx=>by obtain⟨q,_,rfl⟩:=List.mem_map.1 hx;rfl⟩
 case seq=>obtain⟨z,h1,h2⟩:=hd;exact⟨z,au.mono (nD ρ ρ.cq) _ _ h1,h2⟩
structure Up (ρ:bY) (w:World) (B:Nat) (i:Nat→Option Obj):Prop where
 le:∀b o,ρ.aY b=some o→i b=some o
 new:∀b o,i b=some o→ρ.aY b=some o∨(B≤b∧w.heap[b]? =some o)
structure Holds (hp:List (Nat×aC)) (ρ:bY) (w:World) (B:Nat):Prop where
 blk:∀k b,find hp k=some b→gP ρ w k b
 own:∀k b x,find hp k=some b→b.wr=true→b.data.live=true→ρ.key k=some x→B≤x.1
 aY:∀b o,ρ.aY b=some o→w.heap[b]? =some o
def cW (hp:List (Nat×aC)) (c d:SV):Prop:=c.bf=d.bf∧∀ρ w B,Holds hp ρ w B→∀x,aK ρ c x→∀i,Up ρ w B i→∃i',Up ρ w B i'∧(∀b o,i b=some o→i' b=some o)∧∃hg,aK (cN i' hg) d x
def gd (hp:List (Nat×aC)) (c d:List SV):Prop:=(∀z,List.zipWith cM c z=List.zipWith cM d z)∧∀ρ w B,Holds hp ρ w B→∀z,au ρ c z→∀i,Up ρ w B i→∃i',Up ρ w B i'∧(∀b o,i b=some o→i' b=some o)∧∃hg,au (cN i' hg) d z
def ll (sv:SV) (hp:List (Nat×aC)) (c:SV):Prop:=∀(ρ:bY) (w:World) (B:Nat),(∀k b,find hp k=some b→gP ρ w k b)→(∀k b x,find hp k=some b→b.wr=true→b.data.live=true→ρ.key k=some x→B≤x.1)→(∀b o,ρ.aY b=some o→w.heap[b]? =some o)→
 ∀v,Has ρ sv v→∃i hg,(∀b o,ρ.aY b=some o→i b=some o)∧(∀b o,i b=some o→ρ.aY b=some o∨(B≤b∧w.heap[b]? =some o))∧Has (cN i hg) c v
theorem Up.cq {ρ:bY} {w:World} {B:Nat} {i:Nat→Option Obj} (h:Up ρ w B i):iw i:=ρ.cq.mono h.le
theorem Up.refl (ρ:bY) (w:World) (B:Nat):Up ρ w B ρ.aY:=⟨fun _ _ h=>h,fun _ _ h=>.inl h⟩
theorem DI {c d:SV} (h:c.bf=d.bf) (x:List Value):cM c x=cM d x:=by simp[cM,h]
theorem cW.bE {hp:List (Nat×aC)} {c:SV} (h:bE c=true):cW hp c c:=
 ⟨rfl,fun ρ _ _ _ x hx i hi=>⟨i,hi,fun _ _ h=>h,hi.cq,kW (ρ:=ρ) (ρ':=cN i hi.cq) hi.le c x h hx⟩⟩
theorem cW.via {hp:List (Nat×aC)} {c d e:SV} (h:∀ρ x,aK ρ c x→aK ρ d x) (h1:c.bf=d.bf) (hd:cW hp d e):cW hp c e:=
 ⟨h1.trans hd.1,fun ρ w B hh x hx i hi=>hd.2 ρ w B hh x (h ρ x hx) i hi⟩
theorem gd.nil {hp:List (Nat×aC)}:gd hp [] []:=⟨fun z=>rfl,fun ρ w B _ z hz i hi=>⟨i,hi,fun _ _ h=>h,hi.cq,by simpa only[au]using hz⟩⟩
theorem gd.cons {hp:List (Nat×aC)} {c d:SV} {l m:List SV} (h:cW hp c d) (hl:gd hp l m):gd hp (c::l) (d::m):=by
 refine⟨fun z=>by cases z with|nil=>rfl|cons x z=>simp only[List.zipWith_cons_cons,hl.1 z,DI h.1],fun ρ w B hh z hz i hi=> ?_⟩
 simp only[au]at hz
 obtain⟨x,r,rfl,h1,h2⟩:=hz
 obtain⟨i1,u1,e1,g1,k1⟩:=h.2 ρ w B hh x h1 i hi
 obtain⟨i2,u2,e2,g2,k2⟩:=hl.2 ρ w B hh r h2 i1 u1
 exact⟨i2,u2,fun b o hb=>e2 b o (e1 b o hb),g2,by simp only[au];exact⟨x,r,rfl,aK.mono (qj e2 g1 g2) _ _ k1,k2⟩⟩
theorem cW.agg {hp:List (Nat×aC)} {l m:List SV} (h:gd hp l m):cW hp (.agg l) (.agg m):=
 ⟨rfl,fun ρ w B hh x hx i hi=>by
  simp only[aK]at hx
  obtain⟨z,h1,rfl⟩:=hx
  obtain⟨i',u,e,g,k⟩:=h.2 ρ w B hh z h1 i hi
  exact⟨i',u,e,g,by simp only[aK];exact⟨z,k,rfl⟩⟩⟩
theorem ll.one {hp:List (Nat×aC)} {c d:SV} (hc:bs c=true) (hd:bs d=true) (h:cW hp c d):ll c hp d:=by
 intro ρ w B h1 h2 h3 v hv
 obtain⟨x,hx,rfl⟩:=(iN hc).1 hv
 obtain⟨i,u,_,g,k⟩:=h.2 ρ w B ⟨h1,h2,h3⟩ x hx ρ.aY (Up.refl ρ w B)
 exact⟨i,g,u.le,u.new,(iN hd).2 ⟨x,k,DI h.1 x⟩⟩
theorem ll.ct {hp:List (Nat×aC)} {l m:List SV} (h:gd hp l m):ll (.ct l) hp (.ct m):=by
 intro ρ w B h1 h2 h3 v hv
 simp only[Has]at hv
 obtain⟨z,hz,rfl⟩:=hv
 obtain⟨i,u,_,g,k⟩:=h.2 ρ w B ⟨h1,h2,h3⟩ z hz ρ.aY (Up.refl ρ w B)
 exact⟨i,g,u.le,u.new,by simp only[Has];exact⟨z,k,by rw[h.1]⟩⟩
theorem ll.lJ {hp:List (Nat×aC)} {c d:SV} (h:aq c d) (hk:bE d=true):ll c hp d:=by
 intro ρ w B h1 h2 h3 v hv
 exact⟨ρ.aY,ρ.cq,fun _ _ h=>h,fun _ _ h=>.inl h,mr (ρ:=ρ) (ρ':=cN ρ.aY ρ.cq) (fun _ _ h=>h) d v hk (h ρ v hv)⟩
theorem Up.add {ρ:bY} {w:World} {B b:Nat} {o:Obj} {i:Nat→Option Obj} (hi:Up ρ w B i) (hm:∀b o,ρ.aY b=some o→w.heap[b]? =some o) (hb:B≤b) (ho:w.heap[b]? =some o):
  Up ρ w B (fun c=>if c=b then some o else i c)∧∀c p,i c=some p→(if c=b then some o else i c)=some p:=by
 have h2:∀c p,i c=some p→(if c=b then some o else i c)=some p:=by
  intro c p hc
  by_cases h:c=b
  ·subst h
   rw[if_pos rfl]
   rcases hi.new _ _ hc with h1|h1
   ·rw[hm _ _ h1]at ho;cases ho;rfl
   ·rw[h1.2]at ho;cases ho;rfl
  ·rw[if_neg h];exact hc
 refine⟨⟨fun c p hc=>h2 c p (hi.le c p hc),fun c p hc=> ?_⟩,h2⟩
 by_cases h:c=b
 ·subst h
  simp only[if_true,Option.some.injEq]at hc
  subst hc
  exact .inr ⟨hb,ho⟩
 ·simp only[if_neg h]at hc
  exact hi.new c p hc
theorem Af {xs:List SV} (h:bn xs=true) (l n:Nat):bn (gv xs l n)=true:=by
 have key:∀xs:List SV,bn xs=true↔∀x∈xs,bE x=true:=by
  intro xs
  induction xs with
  |nil=>simp[bn]
  |cons x xs ih=>simp[bn,ih]
 rw[key]at h ⊢
 exact fun x hx=>h x (List.mem_of_mem_drop (List.mem_of_mem_take hx))
theorem bw {α:Type} {f:α→SV} (h:∀x,bE (f x)=true) (l:List α):bn (l.map f)=true:=by
 induction l with
 |nil=>rfl
 |cons x l ih=>simp[bn,h,ih]
theorem pN {k w n i:Nat} {ty:TypeId} {d:Data} {xs:List SV} {ρ:bY} {W:World} {x:List Value} (hb:gP ρ W k ⟨ty,true,d⟩) (he:gW d=some xs) (hw:db d=some w) (mF:bn xs=true)
  (hn:i+n≤xs.length) (hx:aK ρ (.aN k w i n) x):
  (n=0∧∃a,x=[.slice a 0 0])∨∃b t o,ρ.key k=some (b,t)∧W.heap[b]? =some o∧∀j hg,(∀b o,ρ.aY b=some o→j b=some o)→j b=some o→aK (cN j hg) (eH w (gv xs i (i+n))) x:=by
 simp only[aK]at hx
 rcases hx with⟨b,t,cap,h1,h2,h3,rfl⟩|hx
 ·rcases hb with h0|⟨b',t',vs,ex,g1,g2,g3,g4,g5⟩|⟨g1,_⟩
  ·cases d<;>simp[Data.live,gW]at h0 he
  ·rw[h1]at g1
   cases g1
   rw[show({ty:=ty,wr:=true,data:=d}:aC).data.obj (vs++ex) ty= .cells (vs++ex).toArray ty (0,0)from Data.cy (by cases d<;>first|rfl|(simp[gW]at he)) _ _]at g2
   obtain⟨z,z1,rfl,z3⟩:=GP he hw g3
   have ph:z.length=xs.length:=cR z1
   have PE:=fi xs z z1 z3
   refine .inr ⟨b,t,_,h1,g2,fun j hg hj ZG=> ?_⟩
   simp only[aK]
   refine .inr ⟨hg,b,cap,(z.drop i).take (i+n - i),(z.take i).flatten,(z.drop (i+n)).flatten++ex,ty,(0,0), ?_, ?_,fun y hy=>z3 y (List.mem_of_mem_drop (List.mem_of_mem_take hy)), ?_, ?_, ?_⟩
   ·show j b=_
    rw[ZG]
    congr 3
    rw[←List.append_assoc,←List.append_assoc,←List.flatten_append,←List.flatten_append]
    congr 2
    have:z.drop (i+n)=(z.drop i).drop (i+n - i):=by rw[List.drop_drop];congr 1;omega
    rw[this,List.append_assoc,List.take_append_drop,List.take_append_drop]
   ·exact ck (ρ:=ρ) (ρ':=cN j hg) hj _ _ (Af mF i (i+n)) (iy _ (jQ _ z1))
   ·rw[gv,List.length_take,List.length_drop];omega
   ·have nt:((z.take i).flatten).length=i*w:=by
     rw[aQ (s:=w) _ (fun u hu=>PE u (List.mem_of_mem_take hu)),List.length_take,ph,Nat.min_eq_left aa]
    have ad9:(z.flatten++ex).length=((z.take i).flatten).length+(((z.drop i).take (i+n - i)).flatten++((z.drop (i+n)).flatten++ex)).length:=by
     rw[←List.length_append,←List.append_assoc,←List.append_assoc,←List.flatten_append,←List.flatten_append]
     congr 3
     have:z.drop (i+n)=(z.drop i).drop (i+n - i):=by rw[List.drop_drop];congr 1;omega
     rw[this,List.append_assoc,List.take_append_drop,List.take_append_drop]
    rw[g4,nt]at ad9
    rw[Nat.add_mul]at h3
    omega
   ·have nt:((z.take i).flatten).length=i*w:=by
     rw[aQ (s:=w) _ (fun u hu=>PE u (List.mem_of_mem_take hu)),List.length_take,ph,Nat.min_eq_left aa]
    have Bl:(gv xs i (i+n)).length=n:=by rw[gv,List.length_take,List.length_drop];omega
    rw[nt,Bl]
  ·rw[h1]at g1;cases g1
 ·exact .inl hx
theorem cW.aN {hp:List (Nat×aC)} {k w n i:Nat} {ty:TypeId} {d:Data} {xs:List SV} (hf:find hp k=some ⟨ty,true,d⟩) (he:gW d=some xs) (hw:db d=some w) (mF:bn xs=true) (hn:i+n≤xs.length):
  cW hp (.aN k w i n) (eH w (gv xs i (i+n))):=by
 refine⟨rfl,fun ρ W B hh x hx i' hi=> ?_⟩
 have hl:d.live=true:=by cases d<;>simp[gW]at he<;>rfl
 rcases pN (hh.blk k _ hf) he hw mF hn hx with⟨rfl,a,rfl⟩|⟨b,t,o,h1,h2,h3⟩
 ·exact⟨i',hi,fun _ _ h=>h,hi.cq,by simp only[aK];exact .inl ⟨by simp[gv],a,rfl⟩⟩
 ·obtain⟨u,Bq⟩:=hi.add hh.aY (hh.own k _ _ hf rfl hl h1) h2
  exact⟨_,u,Bq,u.cq,h3 _ u.cq u.le (by simp)⟩
theorem gf {xs:List SV} {n:Nat} (h:n=xs.length):gv xs 0 (0+n)=xs:=by
 subst h;simp[gv]
abbrev cT {α:Type} (w:Nat) (f:α→SV) (xs:List α):SV:=eH w (xs.map f)
abbrev cX (qs:List Rat):SV:=cT 5 .frac qs
def fV (kd:IntKind) (x:Int):SV:=.val (.int kd x)
abbrev cF (kd:IntKind) (xs:List Int):SV:=cT 1 (fV kd) xs
theorem cW.cm {hp:List (Nat×aC)} {k n:Nat} {ty:TypeId} {qs:List Rat} (hf:find hp k=some ⟨ty,true,.cm qs⟩) (hn:n=qs.length):cW hp (.aN k 5 0 n) (cX qs):=by
 have:=cW.aN (i:=0) (n:=n) hf rfl rfl (bw (fun _=>rfl) qs) (by simp;omega)
 rwa [gf (by simp;omega)]at this
theorem cW.ints {hp:List (Nat×aC)} {k n:Nat} {ty:TypeId} {kd:IntKind} {xs:List Int} (hf:find hp k=some ⟨ty,true,.ints kd xs⟩) (hn:n=xs.length):cW hp (.aN k 1 0 n) (cF kd xs):=by
 have:=cW.aN (i:=0) (n:=n) hf rfl rfl (bw (fun _=>rfl) xs) (by simp;omega)
 rwa [gf (by simp;omega)]at this
theorem cW.seq {hp:List (Nat×aC)} {k n w:Nat} {ty:TypeId} {xs:List SV} (hf:find hp k=some ⟨ty,true,.seq w xs⟩) (mF:bn xs=true) (hn:n=xs.length):cW hp (.aN k w 0 n) (eH w xs):=by
 have:=cW.aN (i:=0) (n:=n) hf rfl rfl mF aa
 rwa [gf hn]at this
theorem cW.R7 {hp:List (Nat×aC)} {w:Nat} {a:Option Addr}:cW hp (.val (.slice a 0 0)) (eH w []):=
 cW.via (d:=eH w []) (fun ρ x hx=>by simp only[aK]at hx ⊢;exact .inl ⟨rfl,a,hx.1⟩) rfl (cW.bE rfl)
theorem kg {E:Env} (t k:Nat) {c:Code} {K:bQ} {fr:List (Nat×SV)} {hp:List (Nat×aC)} {ty:TypeId} {d:Data} {w i n:Nat} {xs:List SV} (hW:∀b,¬E.W0 b) (ht:lk fr t=some (.aN k w i n)) (hk:find hp k=some ⟨ty,true,d⟩)
  (he:gW d=some xs) (hw:db d=some w) (mF:bn xs=true) (hn:i+n≤xs.length) (hs:ey E c K ((t,eH w (gv xs i (i+n)))::fr) (fI hp k ⟨ty,true,.dead⟩)):ey E c K fr hp:=by
 refine⟨fun a W hR=>hs.run a W ?_⟩
 have hl:d.live=true:=by cases d<;>simp[gW]at he<;>rfl
 obtain⟨ρ,hext,hfx,hR⟩:=hR
 have Bs:(fn fr hp (.k k)).blk=some ⟨ty,true,d⟩:=by simp only[fn,LV.blk];exact hk
 have hv:=hR.fr t _ (by simp only[fn,LV.sv];exact ht)
 obtain⟨x,hx,hxv⟩:=(iN (c:=.aN k w i n) rfl).1 hv
 have ec:∀j b,(fn ((t,eH w (gv xs i (i+n)))::fr) (fI hp k ⟨ty,true,.dead⟩) (.k j)).blk=some b→(j=k∧b=⟨ty,true,.dead⟩)∨(j≠k∧(fn fr hp (.k j)).blk=some b):=by
  intro j b hb
  simp only[fn,LV.blk,cn]at hb ⊢
  by_cases hj:j=k
  ·rw[if_pos hj]at hb;exact .inl ⟨hj,(Option.some.inj hb).symm⟩
  ·rw[if_neg hj]at hb;exact .inr ⟨hj,hb⟩
 have fin:∀ρ':bY,ρ'.key=ρ.key→(∀b o,ρ.aY b=some o→ρ'.aY b=some o)→(∀b o,ρ'.aY b=some o→ρ.aY b=some o∨E.w0.heap.size≤b)→(∀b o,ρ'.aY b=some o→W.heap[b]? =some o)→
   (∀j b x,j≠k→(fn fr hp (.k j)).blk=some b→b.wr=true→b.data.live=true→ρ.key j=some x→ρ'.aY x.1=none)→(∀D,W.heap[D]? =some (.deferred (some []))→ρ.aY D=none→ρ'.aY D=none)→Has ρ' (eH w (gv xs i (i+n))) (a.tmps.getD t undef)→
   RR E (fn ((t,eH w (gv xs i (i+n)))::fr) (fI hp k ⟨ty,true,.dead⟩)) a W:=by
  intro ρ' b9 himm fg hheap iV hmark hhas
  have hle:ρ.Le ρ':=⟨fun j y hy=>by rw[b9];exact hy,himm⟩
  refine⟨ρ',⟨hext.le.trans hle,fun b o hb=>(fg b o hb).elim (fun h=>hext.aY b o h) .inr,fun j hj=>by rw[b9];exact hext.fix j hj⟩,fun j hj=> ?_,{defers:= ?_,size:=hR.size,fr:= ?_,bO:=hR.bO,hp:= ?_}⟩
  ·have:=hfx j hj
   simp only[fn,LV.blk,cn]at this ⊢
   split
   ·simp
   ·exact this
  ·obtain⟨Ds,d1,d2,d3⟩:=hR.defers
   refine⟨Ds,d1,d2,fun D hD=> ?_⟩
   obtain⟨e1,e2,e3⟩:=d3 D hD
   refine⟨e1,e2, ?_⟩
   exact hmark D e2 e3
  ·intro u sv hu
   simp only[fn,LV.sv,lk]at hu
   cases hb:Nat.beq t u with
   |true=>
    rw[hb]at hu
    simp only[Option.some.injEq]at hu
    subst hu
    rw[←Nat.eq_of_beq_eq_true hb]
    exact hhas
   |false=>rw[hb]at hu;exact Has.mono hle _ _ (hR.fr u sv (by simp only[fn,LV.sv];exact hu))
  ·constructor
   ·intro j b hb
    rcases ec j b hb with⟨rfl,rfl⟩|⟨hj,hb⟩
    ·exact .inl rfl
    ·rcases hR.hp.blk j b hb with g0|⟨b',t',vs,ex,g1,g2,g3,g4⟩|⟨g1,g2⟩
     ·exact .inl g0
     ·exact .inr (.inl ⟨b',t',vs,ex,by rw[b9];exact g1,g2,g3.mono hle,g4⟩)
     ·exact .inr (.inr ⟨by rw[b9];exact g1,g2⟩)
   ·intro j j' y y' b b' hy Dw b6 hyy hb gj gp iM
    rw[b9]at hy Dw
    rcases ec j b hb with⟨_,rfl⟩|⟨_,hb⟩
    ·cases gp
    rcases ec j' b' gj with⟨_,rfl⟩|⟨_,gj⟩
    ·cases iM
    exact hR.hp.sep j j' y y' b b' hy Dw b6 hyy hb gj gp iM
   ·intro j b y hb hwr gp hy
    rw[b9]at hy
    rcases ec j b hb with⟨_,rfl⟩|⟨_,hb⟩
    ·cases gp
    exact hR.hp.own j b y hb hwr gp hy
   ·intro j y hy
    rw[b9]at hy
    obtain⟨b,hb⟩:=hR.hp.rL j y hy
    simp only[fn,LV.blk,cn]at hb ⊢
    split
    ·exact⟨_,rfl⟩
    ·exact⟨b,hb⟩
   ·exact hheap
   ·intro j b y hb hwr gp hy
    rw[b9]at hy
    rcases ec j b hb with⟨_,rfl⟩|⟨hj,hb⟩
    ·cases gp
    exact iV j b y hj hb hwr gp hy
 rcases pN (hR.hp.blk k _ Bs) he hw mF hn hx with⟨rfl,ad,rfl⟩|⟨b,t',o,h1,h2,h3⟩
 ·refine fin ρ rfl (fun _ _ h=>h) (fun _ _ h=>.inl h) hR.hp.aY (fun j b y _ hb hwr gp hy=>hR.hp.fb j b y hb hwr gp hy) (fun _ _ h=>h) ?_
  rw[hxv]
  exact uJ (.inl ⟨by simp[gv],ad,by simp[cM,SV.bf]⟩)
 ·have hB:E.w0.heap.size≤b:=(hR.hp.own k _ _ Bs rfl hl h1).resolve_right (hW _)
  obtain⟨u,Bq⟩:=(Up.refl ρ W E.w0.heap.size).add hR.hp.aY hB h2
  refine fin ⟨ρ.key,_,u.cq⟩ rfl u.le (fun b o hb=>(u.new b o hb).imp id (fun h=>h.1)) (fun c p hc=> ?_) (fun j blk y hj hb hwr gp hy=> ?_) (fun D I7 hD2=> ?_) ?_
  ·rcases u.new c p hc with h|h
   ·exact hR.hp.aY c p h
   ·exact h.2
  ·show(if y.1=b then some o else ρ.aY y.1)=none
   rw[if_neg]
   ·exact hR.hp.fb j blk y hb hwr gp hy
   ·intro he2
    have:=hR.hp.sep k j (b,t') y _ _ h1 hy (fun h=>hj h.symm) he2.symm Bs hb hl gp
    cases this
  ·show(if D=b then some o else ρ.aY D)=none
   rw[if_neg,hD2]
   rintro rfl
   rcases hR.hp.blk k _ Bs with g0|⟨b',t'',vs,ex,g1,g2,_⟩|⟨g1,_⟩
   ·rw[show Data.live d=false from g0]at hl;cases hl
   ·rw[h1]at g1;cases g1;rw[I7]at g2;exact Data.jz (Option.some.inj g2).symm
   ·rw[h1]at g1;cases g1
  ·rw[hxv]
   refine(iN (c:=eH w (gv xs i (i+n))) rfl).2 ⟨x, ?_,by simp[cM,SV.bf,GB]⟩
   exact aK.mono (nD ⟨ρ.key,_,u.cq⟩ u.cq) _ _ (h3 _ u.cq u.le (by simp))
theorem aac {P:Program} {T:List (TypeId×TI)} {Z:List Nat} (hT:gQ P T) (hm:P.follows .mixedOrders=true) {f:FuncId} {fn':Func} {code:Code} (hf:P.funcs[f]? =some fn') (hb:fn'.body=some code)
  (hn:(fn'.name== "runtime.NumGoroutine")=false) {args:List SV} {c:SV} (ha:bn args=true) (hc:bE c=true) (hnt:Nat.ble args.length fn'.ntmps=true) (hpass:args.all bs=true)
  (h:∀w0 ρ0,Env.OK ⟨P,T,fun _=>False,w0,fn'.ntmps,ρ0,[],Z,none⟩→Aa ⟨P,T,fun _=>False,w0,fn'.ntmps,ρ0,[],Z,none⟩ code (H9 T fn'.results.toList fun sv hp=>ll sv hp c) (enum 0 args) []):ab P f args [] c [] []:=by
 have IK:=Nat.le_of_ble_eq_true hnt
 refine .inl ⟨⟨fn',hf,hn,by rw[hb];rfl⟩,fun ρ w z hz hpw=> ?_⟩
 let ρ1:bY:=⟨fun _=>none,ρ.aY,ρ.cq⟩
 let E:Env:=⟨P,T,fun _=>False,w,fn'.ntmps,ρ1,[],Z,none⟩
 have hE:E.OK:=⟨hT,hm,fun k x hx=>by cases hx⟩
 have ph:z.length=args.length:=by
  clear h hnt IK hpass ha
  induction args generalizing z with
  |nil=>simp only[au]at hz;subst hz;rfl
  |cons c l ih=>simp only[au]at hz;obtain⟨x,r,rfl,_,h⟩:=hz;simp[ih r h]
 have E7:=ck (ρ:=ρ) (ρ':=ρ1) (fun b o hb=>hb) args z ha hz
 have lT:∀(l:List SV) (y:List (List Value)),au ρ1 l y→l.all bs=true→∀(j:Nat) (c:SV),l[j]? =some c→∃v,(List.zipWith cM l y)[j]? =some v∧Has ρ1 c v:=by
  intro l
  induction l with
  |nil=>intro y _ _ j c h;simp at h
  |cons d l ih=>
   intro y hy hp j c hj
   simp only[au]at hy
   obtain⟨x,r,rfl,g1,g2⟩:=hy
   simp only[List.all_cons,Bool.and_eq_true]at hp
   cases j with
   |zero=>
    simp at hj
    subst hj
    refine⟨cM d x,by simp, ?_⟩
    have hp1:=hp.1
    cases d<;>simp[bs]at hp1<;>simp only[Has]<;>exact⟨x,g1,rfl⟩
   |succ j=>simpa using ih r g2 hp.2 j c (by simpa using hj)
 have s9:((List.zipWith cM args z).toArray++Array.replicate (fn'.ntmps - (List.zipWith cM args z).toArray.size) undef).size=fn'.ntmps:=by
  simp[ph]
  omega
 have hR:R E.W0 E.w0 E.n ρ1 (fn (enum 0 args) []) {tmps:=(List.zipWith cM args z).toArray++Array.replicate (fn'.ntmps - (List.zipWith cM args z).toArray.size) undef,defers:=[]} w:={
  defers:=.nil
  size:=s9
  fr:=fun t sv ht=>by
   simp only[fn,LV.sv]at ht
   obtain⟨_,h2⟩:=qE args 0 t sv ht
   obtain⟨v,h3,h4⟩:=lT args z E7 hpass t sv (by simpa using h2)
   have aA:t<(List.zipWith cM args z).length:=(List.getElem?_eq_some_iff.1 h3).1
   have:((List.zipWith cM args z).toArray++Array.replicate (fn'.ntmps - (List.zipWith cM args z).toArray.size) undef).getD t undef=v:=by
    rw[Array.getD_eq_getD_getElem?,Array.getElem?_append_left (by simpa using aA)]
    simp[h3]
   rw[this];exact h4
  bO:=.refl _ _
  hp:={
   blk:=fun k b hb=>by simp[fn,find,LV.blk]at hb
   sep:=fun k k' x x' b b' hx=>by cases hx
   own:=fun k b x hb=>by simp[fn,find,LV.blk]at hb
   rL:=fun k x hx=>by cases hx
   aY:=hpw.aY
   fb:=fun k b x hb=>by simp[fn,find,LV.blk]at hb}}
 have Ms:=iC hE code _ _ _ (h w ρ1 hE) _ w ⟨ρ1,⟨.refl _,fun b o hb=>.inl hb,(fun _ h=>by cases h)⟩,(fun _ h=>by cases h),hR⟩
 refine jH (E:=E) rfl hf hb (fun _ _ _ h=>h) (fun _ _ h=>h) Ms ?_
 rintro e a' w' hdf ⟨fr',cd,hK,ρ',hext,_,jw⟩
 have fin:∀ob l,jY T fr' cd fn'.results.toList=some (ob,l)→Bn ob→ll (pw l) cd c→a'.defers=[]∧∃v,(results fn' a'.tmps).run P w'= .ok v w'∧∃v' ρ'',Ending.returned v= .returned v'∧jA ρ w c [] [] v' ρ'' w':=by
  intro ob l h1 h2 h3
  obtain⟨v,r1,r2⟩:=lh hE jw h1 h2
  obtain⟨i2,hg,u1,u2,u3⟩:=h3 ρ' w' w.heap.size (fun k b hk=>jw.hp.blk k b (by simp only[fn,LV.blk];exact hk)) (fun k b x hk hw hl hx=>(jw.hp.own k b x (by simp only[fn,LV.blk];exact hk) hw hl hx).resolve_right (fun h=>h)) jw.hp.aY v r2
  refine⟨hdf,v,r1,v,⟨ρ.key,i2,hg⟩,rfl,⟨⟨fun k x hx=>hx,fun b o hb=>u1 b o (hext.le.aY b o hb)⟩, ?_,fun _ _=>rfl, ?_,(fun k b h=>by rcases h with h|h<;>cases h),(fun _ _ _ h=>by cases h),(fun k b x h=>by cases h),(fun k b k' b' x x' h=>by cases h), ?_⟩⟩
  ·exact mr (ρ:=cN i2 hg) (ρ':=⟨ρ.key,i2,hg⟩) (fun b o hb=>hb) c v hc u3
  ·exact jw.bO.mono (fun b _ hb=>hb.elim)
  ·intro b o hb
   rcases u2 b o hb with h4|⟨h4,h5⟩
   ·rcases hext.aY b o h4 with h4|h4
    ·exact .inl h4
    ·exact .inr ⟨h4,jw.hp.aY b o (by assumption),fun k blk x h=>by cases h⟩
   ·exact .inr ⟨h4,h5,fun k blk x h=>by cases h⟩
 cases e<;>simp only[H9]at hK<;>simp only[bodyPost]
 ·split at hK
  ·rename_i ob l hl;exact fin ob l hl (cl hK).1 (cl hK).2
  ·exact hK.elim
 ·split at hK
  ·rename_i ob l hl;exact fin ob l hl (cl hK).1 (cl hK).2
  ·exact hK.elim
section
variable {P:Program} {o:Oper} {ft:List (Nat×SV)} {fk:List (Nat×aC)} {w:Nat} {α:Type} {f:α→SV} {xs:List α}
theorem M3 {x:Operand} {t:TypeId} {xs':Array Operand} {ts:Array TypeId} {ti:TI} {e:TypeId} (ho:o.op= .call ⟨.builtin .len,xs',ts⟩) (hxs:xs'= #[x]) (jx:ts= #[t]) (hx:bp ft x (cT w f xs)) (ht:aD P t ti)
  (hk:ti.kind= .aN e):bV P o ft fk (.val (.int .i64 (xs.length:Int))) [] []:=by
 have:=MT (fk:=fk) ho hxs jx hx ht hk
 rwa [List.length_map]at this
theorem oD {t e:TypeId} {x ix:Operand} {ti te:TI} {kd:IntKind} {j:Int} {d:α} (ho:o.op= .indexAddr t x ix) (hx:bp ft x (cT w f xs)) (hi:bp ft ix (.val (.int kd j)))
  (ht:aD P t ti) (hk:ti.kind= .aN e) (he:aD P e te) (hs:te.size=w) (hj:0≤j∧j<(xs.length:Int)):bV P o ft fk (bG [f (xs.getD j.toNat d)]) [] []:=
 ye ho hx hi ht hk he hs hj.1 (by rw[List.length_map];exact hj.2) (by
  have h1:j.toNat<xs.length:=aa
  simp[List.getD_eq_getElem?_getD,List.getElem?_eq_getElem h1])
theorem fJ {t e:TypeId} {x ix:Operand} {ti te:TI} {kd:IntKind} {j:Nat} {d:α} (ho:o.op= .indexAddr t x ix) (hx:bp ft x (cT w f xs)) (hi:bp ft ix (.val (.int kd (j:Int))))
  (ht:aD P t ti) (hk:ti.kind= .aN e) (he:aD P e te) (hs:te.size=w) (hj:j<xs.length):bV P o ft fk (bG [f (xs.getD j d)]) [] []:=by
 have:=oD (fk:=fk) (d:=d) ho hx hi ht hk he hs ⟨aa,aa⟩
 rwa [Int.toNat_natCast]at this
theorem yv {t e:TypeId} {x:Operand} {lo hi mx:Option Operand} {ti te:TI} {l h:Int} (ho:o.op= .slice t x lo hi mx) (hx:bp ft x (cT w f xs))
  (Bo:lo=none∧l=0∨∃y kd,lo=some y∧bp ft y (.val (.int kd l))) (Bp:hi=none∧h=xs.length∨∃y kd,hi=some y∧bp ft y (.val (.int kd h)))
  (hmx:mx=none∨(hi≠none∧∃y kd,mx=some y∧bp ft y (.val (.int kd h))))
  (ht:aD P t ti) (hk:ti.kind= .aN e) (he:aD P e te) (hs:te.size=w) (hb:0≤l∧l≤h∧h≤(xs.length:Int)):bV P o ft fk (cT w f ((xs.drop l.toNat).take (h.toNat - l.toNat))) [] []:=by
 have:=GD (fk:=fk) ho hx Bo (by rw[List.length_map];exact Bp) hmx ht hk he hs hb.1 hb.2.1 (by rw[List.length_map];exact hb.2.2)
 rwa [gv,←List.map_drop,←List.map_take]at this
end
section
variable {P:Program} {f:FuncId} {args:List SV} {hp:List (Nat×aC)} {o:Oper} {fr:List (Nat×SV)} {c:SV}
abbrev B4 (hp fk:List (Nat×aC)):Prop:=∀j b,(j,b)∈fk→find hp j=some b
abbrev uc (hp new:List (Nat×aC)):Prop:=∀j b,(j,b)∈new→find hp j=none
abbrev pA (fk upd:List (Nat×aC)):Prop:=∀j b,(j,b)∈upd→∃b0:aC,(j,b0)∈fk∧b0.wr=true∧b0.data.live=true∧b.wr=true
theorem aS {k:SV→List (Nat×aC)→List (Nat×aC)→List (Nat×aC)→Prop} (h:ab P f args [] c [] []) (hk:k c [] [] []):
  ∃fk c new upd,ab P f args fk c new upd∧B4 hp fk∧uc hp new∧pA fk upd∧k c fk new upd:=⟨[],c,[],[],h,aJ,ar,an,hk⟩
theorem kU {k:SV→List (Nat×aC)→List (Nat×aC)→List (Nat×aC)→Prop} {a:Nat} {A:aC} (h:ab P f args [(a,A)] c [] []) (ha:find hp a=some A) (hk:k c [(a,A)] [] []):
  ∃fk c new upd,ab P f args fk c new upd∧B4 hp fk∧uc hp new∧pA fk upd∧k c fk new upd:=⟨[(a,A)],c,[],[],h,dv ha,ar,an,hk⟩
theorem mK {k:SV→List (Nat×aC)→List (Nat×aC)→List (Nat×aC)→Prop} {b:Nat} {B:aC} (h:ab P f args [] c [(b,B)] []) (hb:find hp b=none) (hk:k c [] [(b,B)] []):
  ∃fk c new upd,ab P f args fk c new upd∧B4 hp fk∧uc hp new∧pA fk upd∧k c fk new upd:=⟨[],c,[(b,B)],[],h,aJ,cV hb,an,hk⟩
theorem E9 {k:SV→List (Nat×aC)→List (Nat×aC)→List (Nat×aC)→Prop} {a b:Nat} {A B:aC} (h:ab P f args [(a,A)] c [(b,B)] []) (ha:find hp a=some A) (hb:find hp b=none) (hk:k c [(a,A)] [(b,B)] []):
  ∃fk c new upd,ab P f args fk c new upd∧B4 hp fk∧uc hp new∧pA fk upd∧k c fk new upd:=⟨[(a,A)],c,[(b,B)],[],h,dv ha,cV hb,an,hk⟩
theorem I8 {k:SV→List (Nat×aC)→List (Nat×aC)→List (Nat×aC)→Prop} {a:Nat} {ty ty':TypeId} {d d':Data} (h:ab P f args [(a,⟨ty,true,d⟩)] c [] [(a,⟨ty',true,d'⟩)]) (ha:find hp a=some ⟨ty,true,d⟩) (hl:d.live=true)
  (hk:k c [(a,⟨ty,true,d⟩)] [] [(a,⟨ty',true,d'⟩)]):
  ∃fk c new upd,ab P f args fk c new upd∧B4 hp fk∧uc hp new∧pA fk upd∧k c fk new upd:=
 ⟨[(a,⟨ty,true,d⟩)],c,[],[(a,⟨ty',true,d'⟩)],h,dv ha,ar,(fun j b hm=>by
  simp only[List.mem_singleton,Prod.mk.injEq]at hm
  obtain⟨rfl,rfl⟩:=hm
  exact⟨_,List.mem_cons_self ..,rfl,hl,rfl⟩),hk⟩
theorem aad {k:SV→List (Nat×aC)→List (Nat×aC)→List (Nat×aC)→Prop} {a b:Nat} {A B:aC} (h:ab P f args [(a,A),(b,B)] c [] []) (ha:find hp a=some A) (hb:find hp b=some B) (hk:k c [(a,A),(b,B)] [] []):
  ∃fk c new upd,ab P f args fk c new upd∧B4 hp fk∧uc hp new∧pA fk upd∧k c fk new upd:=
 ⟨[(a,A),(b,B)],c,[],[],h,(fun j c hm=>by
  simp only[List.mem_cons,Prod.mk.injEq,List.not_mem_nil,or_false]at hm
  rcases hm with⟨rfl,rfl⟩|⟨rfl,rfl⟩<;>assumption),ar,an,hk⟩
theorem ak {k:SV→List (Nat×aC)→List (Nat×aC)→List (Nat×aC)→Prop} (h:bV P o fr [] c [] []) (hk:k c [] [] []):
  ∃c fk new upd,bV P o fr fk c new upd∧B4 hp fk∧uc hp new∧pA fk upd∧k c fk new upd:=⟨c,[],[],[],h,aJ,ar,an,hk⟩
end
end Go.Sx
namespace Go.Sx
open Go.ChangeShapes Go.WideShapes
theorem we {P:Program} {W:World} {name:String} {k:IntKind} {zs:List Int} {g:Nat} (hg:P.globalNamed name=some g) (h:Lib.TabIs P W name k zs):∃ty fz,W.heap[g]? =some (.cells (zs.map fun x=>Value.int k x).toArray ty fz):=by
 unfold Lib.TabIs World.var? at h
 rw[hg]at h
 simp only[Option.bind_some]at h
 cases ho:W.heap[g]? with
 |none=>rw[ho]at h;cases h
 |some o=>
  rw[ho]at h
  cases o<;>simp_all
theorem R8 {P:Program} {W:World} {name:String} {k:IntKind} {zs:List Int} {g:Nat} (hg:P.globalNamed name=some g) {ty:TypeId} {fz:Nat×Nat} (h:W.heap[g]? =some (.cells (zs.map fun x=>Value.int k x).toArray ty fz)):Lib.TabIs P W name k zs:=by
 unfold Lib.TabIs World.var?
 rw[hg]
 simp only[Option.bind_some,h]
theorem B5 {W:World} (h:vk W):iw (fun b=>W.heap[b]?):=by
 intro g kd l hm
 obtain⟨o,h1,h2⟩:=M1 h g kd l hm
 refine⟨o, ?_,h2⟩
 have h1:(if lL.any (fun t=>t.1==g)then W.heap[g]? else none)=some o:=h1
 show W.heap[g]? =some o
 split at h1
 ·exact h1
 ·cases h1
def mL {W:World} (h:vk W):bY:=cN _ (B5 h)
theorem I9 {P:Program} {f:FuncId} {args:List SV} {W:World} (hf:BB P f) (h:ab P f args [] (.val (.bool true)) [] [])
  (hg:vk W) {z:List (List Value)} (hz:au (mL hg) args z):
  Calls P f (List.zipWith cM args z).toArray W fun e w'=>e= .returned (.bool true)∧RowKit.Below W.heap.size W w':=by
 refine(h.calls hf hz ⟨(fun k b hb=>by cases hb),(fun k k' x x' b b' hb=>by cases hb),(fun b o hb=>hb),(fun k b x hb=>by cases hb),(fun k b hb=>by cases hb)⟩).mono ?_
 rintro e w' ⟨v,ρ',rfl,hp⟩
 refine⟨by rw[aI hp.has], ?_⟩
 exact(hp.bO.mono (W':=fun _=>False) (fun b _ ⟨k,blk,t,hm,_⟩=>by cases hm)).below
section
variable {H:Type} {enc:TypeId×Value→H} {P:Program} {W:World} {hg:vk W}
def pB (enc:TypeId×Value→H) (P:Program) (hg:vk W) (t:TypeId) {α:Type} (f:α→SV) (dP:α→Prop):Prop:=
 ∀fuel cs x,DataW.trod enc P W 0 (fun _=>true) true fuel t cs=some x→∃y,dP y∧aK (mL hg) (f y) cs
theorem pB.int {t:TypeId} {k:IntKind} (ht:P.underlying t=some (.int k)):pB enc P hg t (fV k) (fun n=>(Lit.int k n).wf=true):=fun fuel cs x h=>by
 obtain⟨n,rfl,_,hw⟩:=DataW.trod_int ht h
 exact⟨n,hw,by simp[fV,aK,Value.oneCell']⟩
def bel (b:Bool):SV:=.val (.bool b)
theorem pB.bool {t:TypeId} (ht:P.underlying t=some .bool):pB enc P hg t bel (fun _=>True):=fun fuel cs x h=>by
 obtain⟨n,rfl,_⟩:=DataW.trod_bool ht h
 exact⟨n,trivial,by simp[bel,aK,Value.oneCell']⟩
def ag2 {α β:Type} (f:α→SV) (g:β→SV) (p:α×β):SV:=.agg [f p.1,g p.2]
def agL {α:Type} (f:α→SV) (l:List α):SV:=.agg (l.map f)
theorem wg {ρ:bY} {α:Type} {f:α→SV} {n w:Nat} {cs:List Value} (Dm:cs.length=n*w) {y:Nat→α} (h:∀i,i<n→aK ρ (f (y i)) ((cs.drop (i*w)).take w)):∃z,au ρ (((List.range n).map y).map f) z∧z.flatten=cs:=by
 induction n generalizing cs y with
 |zero=>exact⟨[],by simp[au],by simp at Dm;simp[Dm]⟩
 |succ n ih=>
  have h0:=h 0 aa
  rw[Nat.zero_mul,List.drop_zero]at h0
  obtain⟨z,z1,z2⟩:=ih (cs:=cs.drop w) (y:=fun i=>y (i+1)) (by rw[List.length_drop,Dm,Nat.succ_mul];omega) (fun i hi=>by
   have:=h (i+1) aa
   rw[List.drop_drop,show w+i*w=(i+1)*w from by rw[Nat.succ_mul];omega]
   exact this)
  refine⟨cs.take w::z, ?_,by rw[List.flatten_cons,z2,List.take_append_drop]⟩
  rw[List.range_succ_eq_map,List.map_cons,List.map_cons,show List.map y (List.map Nat.succ (List.range n))=List.map (fun i=>y (i+1)) (List.range n)from by rw[List.map_map];rfl]
  simp only[au]
  exact⟨_,_,rfl,h0,z1⟩
theorem pB.array {t e:TypeId} {n:Nat} {α:Type} {f:α→SV} {dP:α→Prop} (ht:P.underlying t=some (.array n e)) (hc:P.cellsOf t=n*P.cellsOf e) (h:pB enc P hg e f dP):
  pB enc P hg t (agL f) (fun l=>l.length=n∧∀x∈l,dP x):=fun fuel cs x hx=>by
 obtain⟨xs,m,rfl,_,hlen,MH,hf⟩:=DataW.trod_array ht hx
 have mo:∀i,i<n→∃y,dP y∧aK (mL hg) (f y) ((cs.drop (i*P.cellsOf e)).take (P.cellsOf e)):=fun i hi=>by
  have h1:=hf i hi
  rw[List.getElem?_eq_getElem aa]at h1
  exact h _ _ _ h1
 by_cases hn:n=0
 ·subst hn
  refine⟨[],⟨rfl,fun x hx=>by cases hx⟩, ?_⟩
  simp only[agL,aK]
  rw[hc,Nat.zero_mul]at hlen
  exact⟨[],by simp[au],by simpa using hlen⟩
 ·obtain⟨d,_⟩:=mo 0 aa
  have:∀i,∃y,i<n→dP y∧aK (mL hg) (f y) ((cs.drop (i*P.cellsOf e)).take (P.cellsOf e)):=fun i=>by
   by_cases hi:i<n
   ·obtain⟨y,hy⟩:=mo i hi
    exact⟨y,fun _=>hy⟩
   ·exact⟨d,fun h=>absurd h hi⟩
  obtain⟨y,hy⟩:=Classical.axiomOfChoice this
  obtain⟨z,z1,z2⟩:=wg (ρ:=mL hg) (f:=f) (by rw[hlen,hc]) (fun i hi=>(hy i hi).2)
  refine⟨(List.range n).map y,⟨by simp,fun x hx=> ?_⟩, ?_⟩
  ·obtain⟨i,hi,rfl⟩:=List.mem_map.1 hx
   exact(hy i (List.mem_range.1 hi)).1
  ·simp only[agL,aK]
   exact⟨z,z1,z2.symm⟩
theorem pB.slice {t e:TypeId} {w:Nat} {α:Type} {f:α→SV} {dP:α→Prop} (ht:P.underlying t=some (.slice e)) (hc:P.cellsOf e=w) (Fa:w≠0) (hw:∀x,(f x).width=w) (h:pB enc P hg e f dP):
  pB enc P hg t (cT w f) (fun l=>l.length≤maxLen∧∀x∈l,dP x):=fun fuel cs x hx=>by
 rcases Deep.open_slice ht hx with⟨rfl,_⟩|⟨a,len,cap,m,n,D,Pl,rfl,hb,hl,hm,hmm,rfl,mo⟩
 ·exact⟨[],⟨Nat.zero_le _,fun x hx=>by cases hx⟩,by simp only[aK];exact .inl ⟨rfl,none,rfl⟩⟩
 ·rw[if_pos rfl]at hmm
  have H7:∀i,i<cap→∃y,dP y∧∃cs',W.cells? 0 (a.add (i*w)) w=some cs'∧aK (mL hg) (f y) cs':=fun i hi=>by
   obtain⟨cs',h1,h2⟩:=mo i aa
   obtain⟨y,y1,y2⟩:=h _ _ _ h2
   exact⟨y,y1,cs',by rw[←hc];exact h1,y2⟩
  by_cases hcap:cap=0
  ·subst hcap
   obtain rfl:len=0:=aa
   exact⟨[],⟨Nat.zero_le _,fun x hx=>by cases hx⟩,by simp only[aK];exact .inl ⟨rfl,some a,rfl⟩⟩
  ·-- the block
   have vp:∀i j,i<cap→j<w→∃v,W.cell? (a.add (i*w+j))=some v:=fun i j hi hj=>by
    obtain⟨y,_,cs',h1,_⟩:=H7 i hi
    obtain⟨_,hlen,hv⟩:=World.cells?_some h1
    have:=hv j hj
    rw[Deep.add_add,List.getElem?_eq_getElem aa]at this
    exact⟨_,this⟩
   obtain⟨v0,Ja⟩:=vp 0 0 aa aa
   have aae:a.add (0*w+0)=a:=by simp[Addr.add]
   rw[aae]at Ja
   obtain⟨b,off,sp⟩:=a
   have gw:∃arr ty fz,W.heap[b]? =some (.cells arr ty fz)∧sp=none:=by
    unfold World.cell? at Ja
    simp only at Ja
    split at Ja
    ·rename_i c ty fz hh
     refine⟨c,ty,fz,hh, ?_⟩
     cases sp with
     |none=>rfl
     |some q=>simp at Ja
    ·cases Ja
   obtain⟨arr,ty,fz,hheap,rfl⟩:=gw
   have lT:∀k,W.cell? ⟨b,k,none⟩=arr[k]? :=fun k=>cell_of_row W b k arr ty fz hheap
   have b9:∀k,k<cap*w→∃v,arr[off+k]? =some v:=fun k hk=>by
    have hi:k/w<cap:=Nat.div_lt_of_lt_mul (by rw[Nat.mul_comm];exact hk)
    obtain⟨v,hv⟩:=vp (k/w) (k % w) hi (Nat.mod_lt _ aa)
    rw[nQ,lT,Nat.mul_comm,Nat.div_add_mod]at hv
    exact⟨v,hv⟩
   have s9:off+cap*w≤arr.size:=by
    have nv:0<cap*w:=Nat.mul_pos aa aa
    obtain⟨v,hv⟩:=b9 (cap*w - 1) aa
    have:=(Array.getElem?_eq_some_iff.1 hv).1
    omega
   have vy:∀i,i<cap→∀cs',W.cells? 0 ((⟨b,off,none⟩:Addr).add (i*w)) w=some cs'→cs'=((arr.toList.drop off).drop (i*w)).take w:=fun i hi cs' h1=>by
    obtain⟨_,hlen,hv⟩:=World.cells?_some h1
    have hiw:i*w+w≤cap*w:=by have:=Nat.mul_le_mul_right w (Nat.succ_le_of_lt hi);rwa [Nat.succ_mul]at this
    apply List.ext_getElem?
    intro j
    by_cases hj:j<w
    ·have h2:=hv j hj
     rw[Deep.add_add,nQ,lT]at h2
     rw[List.getElem?_take_of_lt hj,List.drop_drop,List.getElem?_drop,←Nat.add_assoc]at*
     rw[←Array.getElem?_toList]at h2
     exact h2.symm
    ·rw[List.getElem?_eq_none aa,List.getElem?_eq_none (by rw[List.length_take];omega)]
   obtain⟨d,_⟩:=H7 0 aa
   have hch:∀i,∃y,i<cap→dP y∧aK (mL hg) (f y) (((arr.toList.drop off).drop (i*w)).take w):=fun i=>by
    by_cases hi:i<cap
    ·obtain⟨y,y1,cs',h1,h2⟩:=H7 i hi
     rw[vy i hi cs' h1]at h2
     exact⟨y,fun _=>⟨y1,h2⟩⟩
    ·exact⟨d,fun h=>absurd h hi⟩
   obtain⟨y,hy⟩:=Classical.axiomOfChoice hch
   have hlw:len*w≤cap*w:=Nat.mul_le_mul_right _ hl
   obtain⟨z,z1,z2⟩:=wg (ρ:=mL hg) (f:=f) (n:=len) (w:=w) (cs:=(arr.toList.drop off).take (len*w)) (by rw[List.length_take,List.length_drop,Array.length_toList];omega) (y:=y) (fun i hi=>by
    have h1:=(hy i aa).2
    have hiw:i*w+w≤len*w:=by have:=Nat.mul_le_mul_right w (Nat.succ_le_of_lt hi);rwa [Nat.succ_mul]at this
    rw[List.drop_take,List.take_take,Nat.min_eq_left aa]
    exact h1)
   refine⟨(List.range len).map y,⟨by simp;omega,fun x hx=> ?_⟩, ?_⟩
   ·obtain⟨i,hi,rfl⟩:=List.mem_map.1 hx
    exact(hy i (by have:=List.mem_range.1 hi;omega)).1
   ·simp only[aK]
    refine .inr ⟨B5 hg,b,cap,z,arr.toList.take off,(arr.toList.drop off).drop (len*w),ty,fz, ?_,z1,fun x hx=> ?_, ?_, ?_, ?_⟩
    ·show W.heap[b]? =_
     rw[hheap,z2,List.take_append_drop,List.take_append_drop]
    ·obtain⟨u,_,rfl⟩:=List.mem_map.1 hx
     exact hw u
    ·simp;exact hl
    ·rw[z2,List.take_append_drop,List.length_drop,Array.length_toList];omega
    ·simp only[List.length_map,List.length_range,List.length_take,Array.length_toList]
     rw[Nat.min_eq_left aa]
end
end Go.Sx
namespace Go.Sx
structure aeb (p:Nat):Prop where
 two:2≤p
 div:∀d,d ∣ p→d=1∨d=p
end Go.Sx
namespace Go.Sx
set_option maxRecDepth 4000
def ud (d:Data) (i:Nat) (d2:Data) (i2 c:Nat):Option Data:=
 match d,d2 with
 |.ints k xs,.ints k' ys=>if k'=k then some (.ints k (xs.take i++((ys.drop i2).take c++xs.drop (i+c))))else none
 |.cm xs,.cm ys=>some (.cm (xs.take i++((ys.drop i2).take c++xs.drop (i+c))))
 |.seq w xs,.seq w' ys=>if w'=w then some (.seq w (xs.take i++((ys.drop i2).take c++xs.drop (i+c))))else none
 |_,_=>none
theorem mM {ρ:bY} {d d2 d':Data} {i i2 c s s2:Nat} {z z2:List (List Value)} (h:ud d i d2 i2 c=some d') (hz:Rows ρ s d z) (iz:Rows ρ s2 d2 z2):Rows ρ s d' (z.take i++((z2.drop i2).take c++z.drop (i+c)))∧s2=s:=by
 unfold ud at h
 split at h
 ·split at h
  ·rename_i hk
   subst hk
   simp only[Option.some.injEq]at h
   subst h
   simp only[Rows]at hz iz ⊢
   obtain⟨rfl,rfl⟩:=hz
   obtain⟨rfl,rfl⟩:=iz
   exact⟨⟨rfl,by simp[List.map_take,List.map_drop]⟩,rfl⟩
  ·simp at h
 ·simp only[Option.some.injEq]at h
  subst h
  simp only[Rows]at hz iz ⊢
  obtain⟨rfl,rfl⟩:=hz
  obtain⟨rfl,rfl⟩:=iz
  exact⟨⟨rfl,by simp[List.map_take,List.map_drop]⟩,rfl⟩
 ·split at h
  ·rename_i hk
   subst hk
   simp only[Option.some.injEq]at h
   subst h
   simp only[Rows]at hz iz ⊢
   obtain⟨rfl,h1,h2⟩:=hz
   obtain⟨rfl,h3,h4⟩:=iz
   refine⟨⟨rfl,cQ (iy i h1) (cQ (iy c (jQ i2 h3)) (jQ _ h1)), ?_⟩,rfl⟩
   intro x hx
   rcases List.mem_append.1 hx with hx|hx
   ·exact h2 x (List.mem_of_mem_take hx)
   ·rcases List.mem_append.1 hx with hx|hx
    ·exact h4 x (List.mem_of_mem_drop (List.mem_of_mem_take hx))
    ·exact h2 x (List.mem_of_mem_drop hx)
  ·simp at h
 ·simp at h
theorem B6 {ρ:bY} {s:Nat} {d:Data} {z:List (List Value)} (h:Rows ρ s d z) (hz:z.length=0):d.empty:=by
 have hl:=h.len.1
 rw[hz]at hl
 cases d<;>simp only[Rows]at h<;>simp only[Data.empty]
 all_goals exact List.length_eq_zero_iff.1 hl.symm
section
variable {P:Program} {o:Oper} {fr:List (Nat×SV)} {fk:List (Nat×aC)}
theorem DJ {ρ:bY} {w:World} {k s i n:Nat} {blk:aC} {v:Value} (hv:Has ρ (.aN k s i n) v) (hb:gP ρ w k blk) (hl:blk.data.live=true) (hw:db blk.data=some s) (qe:i+n≤eR blk.data):
  ∃z,Rows ρ s blk.data z∧(∀c,c≤n→(Builtin.firstCells s c v).run P w= .ok (((z.drop i).take c).flatten).toArray w)∧Builtin.lenOf v=Pure.pure n:=by
 obtain⟨z,hz,hcase⟩:=iU hb hl hw
 obtain⟨zl,zw⟩:=hz.len
 refine⟨z,hz, ?_⟩
 rcases eV hv with⟨b,t,cap,e1,e2,e3,rfl⟩|⟨rfl,a,rfl⟩
 ·rcases hcase with⟨b',t',ex,h1,h2,h3,h4⟩|⟨h1,_⟩
  ·rw[e1]at h1
   cases h1
   refine⟨fun c hc=> ?_,rfl⟩
   have vy:((z.drop i).take c).flatten=(z.flatten.drop (i*s)).take (c*s):=by
    rw[cA (s:=s) _ _ (fun u hu=>zw u (List.mem_of_mem_drop hu)),fH (s:=s) _ _ zw]
   have hlen:(((z.drop i).take c).flatten).length=c*s:=by
    rw[aQ (s:=s) _ (fun u hu=>zw u (List.mem_of_mem_drop (List.mem_of_mem_take hu))),List.length_take,List.length_drop]
    congr 1
    omega
   refine run_firstCells_some (P:=P) w s c _ n cap _ hlen ?_
   intro j u hj
   have fT:(⟨b,i*s,none⟩:Addr).add j=⟨b,i*s+j,none⟩:=by unfold Addr.add;split<;>simp_all
   rw[fT,cell_of_row w b (i*s+j) _ blk.ty (0,0) h2]
   have h6:=ld vy j u hj
   have aA:i*s+j<z.flatten.length:=(List.getElem?_eq_some_iff.1 h6).1
   simp only[List.getElem?_toArray]
   rw[List.getElem?_append_left aA]
   exact h6
  ·rw[e1]at h1;cases h1
 ·refine⟨fun c hc=> ?_,rfl⟩
  obtain rfl:c=0:=aa
  cases a with
  |none=>simp[Builtin.firstCells]
  |some a=>simp[Builtin.firstCells,loadCells,loadCellsFrom]
theorem Fb {ρ:bY} {w:World} {k b t s:Nat} {blk:aC} (hb:gP ρ w k blk) (hl:blk.data.live=true) (hw:db blk.data=some s) (hk:ρ.key k=some (b,t)):
  ∃z ex,Rows ρ s blk.data z∧w.heap[b]? =some (.cells (z.flatten++ex).toArray blk.ty (0,0))∧(z.flatten++ex).length=t∧(∀v∈ex,v.oneCell'=true):=by
 obtain⟨z,hz,hcase⟩:=iU hb hl hw
 rcases hcase with⟨b',t',ex,h1,h2,h3,h4⟩|⟨h1,_⟩
 ·rw[hk]at h1
  cases h1
  exact⟨z,ex,hz,h2,h3,h4⟩
 ·rw[hk]at h1;cases h1
theorem oE {t t2 e ty:TypeId} {x y:Operand} {xs:Array Operand} {ts:Array TypeId} {ti te:TI} {k k2 i n i2 m c:Nat} {d d':Data} {blk2:aC} (ho:o.op= .call ⟨.builtin .copy,xs,ts⟩) (hxs:xs= #[x,y]) (jx:ts= #[t,t2])
  (hx:bp fr x (.aN k te.size i n)) (hy:bp fr y (.aN k2 te.size i2 m)) (ht:aD P t ti) (hk:ti.kind= .aN e) (he:aD P e te)
  (hf:(k,⟨ty,true,d⟩)∈fk) (hf2:(k2,blk2)∈fk) (hl:d.live=true) (iM:blk2.data.live=true) (hw:db d=some te.size) (mz:db blk2.data=some te.size)
  (hn:i+n≤eR d) (hm:i2+m≤eR blk2.data) (hc:c=Nat.min m n) (hd:ud d i blk2.data i2 c=some d'):
  bV P o fr fk (.val (.int .i64 (c:Nat))) [] [(k,⟨ty,true,d'⟩)]:=
 dc fun ρ a w hp=>by
  have BM:=hx ρ a hp.dr
  have Gz:=hy ρ a hp.dr
  have hu:=ht.kind;rw[hk]at hu
  have hcm:c≤m:=hc▸Nat.min_le_left _ _
  have hcn:c≤n:=hc▸Nat.min_le_right _ _
  obtain⟨z2,iz,hrun2,hlen2⟩:=DJ (P:=P) Gz (hp.mu k2 _ hf2) iM mz hm
  have B7:=hrun2 c hcm
  obtain⟨zl2,zw2⟩:=iz.len
  have gS:∀u∈(z2.drop i2).take c,u.length=te.size:=fun u hu=>zw2 u (List.mem_of_mem_drop (List.mem_of_mem_take hu))
  have ga:((z2.drop i2).take c).length=c:=by rw[List.length_take,List.length_drop];omega
  have fj:∀v w',(Builtin.copy_ ts o.type #[a.eval x,a.eval y]).run P w= .ok v w'→(execOp a.eval o).run P w= .ok (.value v) w':=by
   intro v w' h
   simp only[execOp,ho,resolve,invoke,builtin,hxs,Sem.run_bind,Sem.run_pure,Result.andThen_ok,List.map_toArray,List.map_cons,List.map_nil]
   rw[h]
   rfl
  have vq:∀v∈(((z2.drop i2).take c).flatten),v.oneCell'=true:=fun u hu=>by
   obtain⟨q,hq,hu⟩:=List.mem_flatten.1 hu
   exact iz.vl q (List.mem_of_mem_drop (List.mem_of_mem_take hq)) u hu
  rcases eV BM with⟨b,t',cap,e1,e2,e3,hv⟩|⟨rfl,a',hv⟩
  ·obtain⟨z,ex,hz,g1,g2,g3⟩:=Fb (hp.mu k _ hf) hl hw e1
   obtain⟨zl,zw⟩:=hz.len
   simp only at zl
   have cg:=(mM hd hz iz).1
   have Bl:(((z2.drop i2).take c).flatten).length=c*te.size:=by rw[aQ _ gS,ga]
   have vz:i*te.size+c*te.size≤(z.flatten++ex).length:=by
    have:=Nat.mul_le_mul_right te.size (show i+c≤i+cap by omega)
    rw[Nat.add_mul]at this
    omega
   have mD:=run_storeCells_at (P:=P) b (i*te.size) ty (((z2.drop i2).take c).flatten) 0 (z.flatten++ex).toArray w g1 (by simp only[List.size_toArray];omega) vq
   have ph:z.flatten.length=z.length*te.size:=aQ _ zw
   have R9:(i+c)*te.size≤z.flatten.length:=by
    rw[ph];exact Nat.mul_le_mul_right _ aa
   have hiz:i*te.size≤z.flatten.length:=by
    rw[ph];exact Nat.mul_le_mul_right _ aa
   have hL:(z.flatten++ex).take (i*te.size)++((z2.drop i2).take c).flatten++(z.flatten++ex).drop (i*te.size+(((z2.drop i2).take c).flatten).length)=(z.take i++((z2.drop i2).take c++z.drop (i+c))).flatten++ex:=by
    rw[Bl,←Nat.add_mul,List.take_append_of_le_length hiz,List.drop_append_of_le_length R9,List.flatten_append,List.flatten_append,cA _ _ zw,fH _ _ zw]
    simp only[List.append_assoc]
   simp only[Nat.add_zero,hL]at mD
   refine⟨goInt c,w.setRow b ((z.take i++((z2.drop i2).take c++z.drop (i+c))).flatten++ex).toArray,ρ,fj _ _ ?_, ?_⟩
   ·simp only[Builtin.copy_,jx,hv,List.getElem?_toArray,List.getElem?_cons_zero,List.getElem?_cons_succ,Sem.run_bind,run_underlying hu,Result.andThen_ok,hlen2,Sem.run_pure,he.sizeOf]
    rw[←hc,B7]
    simp only[Result.andThen_ok,mD]
   ·refine⟨.refl ρ,ca rfl,fun _ _=>rfl,⟨rfl,rfl,rfl,by simp[World.setRow],fun j hj hnj=> ?_⟩,fun j bj hj=> ?_,(fun j c1 c2 h1 h2 h3 h4=> ?_),(fun _ _ _ h=>by cases h),(fun _ _ _ _ _ _ h=>by cases h),fun b o h=>.inl h⟩
    ·refine cU fun PA=>hnj ⟨k,_,t',List.mem_cons_self .., ?_⟩
     rw[PA];exact e1
    ·rcases hj with hj|hj
     ·simp only[List.mem_singleton,Prod.mk.injEq]at hj
      obtain⟨rfl,rfl⟩:=hj
      refine .inr (.inl ⟨b,t',_,ex,e1,by rw[Data.cy cg.dY];exact de g1,cg.data, ?_,g3⟩)
      rw[←g2,List.length_append,List.length_append,aQ _ cg.len.2,ph]
      congr 2
      rw[List.length_append,List.length_append,List.length_take,List.length_drop,ga]
      omega
     ·cases hj
    ·simp only[List.mem_singleton,Prod.mk.injEq]at h1 h2
     obtain⟨_,rfl⟩:=h1
     obtain⟨_,rfl⟩:=h2
     rw[h3]at h4;cases h4
  ·obtain rfl:c=0:=aa
   obtain⟨z,hz,hcase⟩:=iU (hp.mu k _ hf) hl hw
   have cg:=(mM hd hz iz).1
   have Jb:z.take i++((z2.drop i2).take 0++z.drop (i+0))=z:=by simp
   rw[Jb]at cg
   refine⟨goInt 0,w,ρ,fj _ _ ?_, ?_⟩
   ·simp only[Builtin.copy_,jx,hv,List.getElem?_toArray,List.getElem?_cons_zero,List.getElem?_cons_succ,Sem.run_bind,run_underlying hu,Result.andThen_ok,hlen2,Sem.run_pure,he.sizeOf]
    rw[←hc,B7]
    cases a' with
    |none=>simp[goInt]
    |some a'=>simp[goInt,storeCells]
   ·refine⟨.refl ρ,ca rfl,fun _ _=>rfl,.refl _ _,fun j bj hj=> ?_,(fun j c1 c2 h1 h2 h3 h4=> ?_),(fun _ _ _ h=>by cases h),(fun _ _ _ _ _ _ h=>by cases h),fun b o h=>.inl h⟩
    ·rcases hj with hj|hj
     ·simp only[List.mem_singleton,Prod.mk.injEq]at hj
      obtain⟨rfl,rfl⟩:=hj
      rcases hcase with⟨b',t',ex,h1,h2,h3,h4⟩|⟨h1,h2⟩
      ·exact .inr (.inl ⟨b',t',_,ex,h1,by rw[Data.cy cg.dY];exact h2,cg.data,h3,h4⟩)
      ·refine .inr (.inr ⟨h1, ?_⟩)
       exact B6 cg (by rw[h2];rfl)
     ·cases hj
    ·simp only[List.mem_singleton,Prod.mk.injEq]at h1 h2
     obtain⟨_,rfl⟩:=h1
     obtain⟨_,rfl⟩:=h2
     rw[h3]at h4;cases h4
end
structure SWb (E:Env) (c:Code) (K:bQ) (fr:List (Nat×SV)) (hp:List (Nat×aC)):Prop where
 run:∀a w,RR E (fn fr hp) a w→∀b k cs,b.roundOf=(EY E.ro).round→∃e a' w',s7 E K e a' w'∧ArrivesIn (Machine.fenced E.P (EY E.ro)) E.P (lone (b.atR a (.code c:: .inLoop c::k)) cs w) b k cs e a' w'
end Go.Sx
namespace Go.Sx
def az (xs:List Int):Nat→Int
 |0=>0
 |k+1=>az xs k+xs.getD k 0*4294967296^k
def fK (xs:List Int):Prop:=∀i,0≤xs.getD i 0∧xs.getD i 0<4294967296
theorem aW {xs:List Int} {i j:Nat} {v:Int}:(xs.set i v).getD j 0=if i=j∧j<xs.length then v else xs.getD j 0:=by
 simp only[List.getD_eq_getElem?_getD,List.getElem?_set]
 split
 ·rename_i h
  subst h
  split
  ·rename_i h1;simp[h1]
  ·rename_i h1;simp[h1]
 ·rename_i h;simp[h]
theorem dR {xs:List Int} {i:Nat} (h:xs.length≤i):xs.getD i 0=0:=by
 simp[List.getD_eq_getElem?_getD,List.getElem?_eq_none h]
theorem getD_take {xs:List Int} {i k:Nat}:(xs.take k).getD i 0=if i<k then xs.getD i 0 else 0:=by
 simp only[List.getD_eq_getElem?_getD,List.getElem?_take]
 split<;>simp
theorem jb {xs ys:List Int} {i:Nat}:(xs++ys).getD i 0=if i<xs.length then xs.getD i 0 else ys.getD (i - xs.length) 0:=by
 simp only[List.getD_eq_getElem?_getD]
 split
 ·rename_i h;rw[List.getElem?_append_left h]
 ·rename_i h;rw[List.getElem?_append_right aa]
theorem bz {n i:Nat}:(List.replicate n (0:Int)).getD i 0=0:=by
 simp only[List.getD_eq_getElem?_getD,List.getElem?_replicate]
 split<;>rfl
theorem fK.set {xs:List Int} (h:fK xs) {i:Nat} {v:Int} (h0:0≤v) (h1:v<4294967296):fK (xs.set i v):=by
 intro j
 rw[aW]
 split
 ·exact⟨h0,h1⟩
 ·exact h j
theorem Ag {xs:List Int} (h:∀x∈xs,0≤x∧x<4294967296):fK xs:=by
 intro i
 rw[List.getD_eq_getElem?_getD]
 cases hx:xs[i]? with
 |none=>simp
 |some v=>simpa using h v (List.mem_of_getElem? hx)
theorem fK.mem {xs:List Int} (h:fK xs):∀x∈xs,0≤x∧x<4294967296:=by
 intro x hx
 obtain⟨i,hi⟩:=List.getElem?_of_mem hx
 have:=h i
 rw[List.getD_eq_getElem?_getD,hi]at this
 exact this
theorem pO {xs ys:List Int}:∀{k:Nat},(∀i,i<k→xs.getD i 0=ys.getD i 0)→az xs k=az ys k
 |0,_=>rfl
 |k+1,h=>by rw[az,az,pO (fun i hi=>h i aa),h k aa]
theorem da {xs:List Int} {i k:Nat} {v:Int} (h:k≤i):az (xs.set i v) k=az xs k:=
 pO fun j hj=>by rw[aW,if_neg aa]
theorem b8 {xs:List Int} (h:fK xs):∀k,0≤az xs k
 |0=>Int.le_refl _
 |k+1=>by
  have:=b8 h k
  have h1:0≤xs.getD k 0*4294967296^k:=Int.mul_nonneg (h k).1 (Int.pow_nonneg aF)
  rw[az];omega
theorem lW (k:Nat):(0:Int)<4294967296^k:=Int.pow_pos aF
theorem gq {xs:List Int} (h:fK xs):∀k,az xs k<4294967296^k
 |0=>by simp[az]
 |k+1=>by
  have h1:=gq h k
  have h2:xs.getD k 0*4294967296^k≤4294967295*4294967296^k:=Int.mul_le_mul_of_nonneg_right (by have:=(h k).2;omega) (Int.le_of_lt (lW k))
  rw[az,Int.pow_succ];omega
theorem eE {xs:List Int} {k:Nat}:∀{n:Nat},(∀i,k≤i→i<n→xs.getD i 0=0)→k≤n→az xs n=az xs k
 |0,_,hk=>by obtain rfl:k=0:=aa
             rfl
 |n+1,h,hk=>by
  by_cases he:k=n+1
  ·subst he;rfl
  ·rw[az,h n aa aa,eE (n:=n) (fun i h1 h2=>h i h1 aa) aa,Int.zero_mul,Int.add_zero]
def gN (xs:List Int):Nat→Nat
 |0=>0
 |n+1=>if xs.getD n 0=0 then gN xs n else n+1
theorem Ah (xs:List Int):∀n,gN xs n≤n
 |0=>Nat.le_refl _
 |n+1=>by rw[gN];split;exact Nat.le_succ_of_le (Ah xs n);exact Nat.le_refl _
theorem qJ (xs:List Int):∀n,az xs (gN xs n)=az xs n
 |0=>rfl
 |n+1=>by
  rw[gN]
  split
  ·rename_i h;rw[qJ xs n,az,h,Int.zero_mul,Int.add_zero]
  ·rfl
theorem wh (xs:List Int):∀n,gN xs n=0∨xs.getD (gN xs n - 1) 0≠0
 |0=>.inl rfl
 |n+1=>by
  rw[gN]
  split
  ·exact wh xs n
  ·rename_i h;exact .inr h
theorem qK {xs:List Int} (h:fK xs) {k:Nat} (ht:xs.getD k 0≠0):4294967296^k≤az xs (k+1):=by
 have h1:=b8 h k
 have h2:1*4294967296^k≤xs.getD k 0*4294967296^k:=Int.mul_le_mul_of_nonneg_right (by have:=(h k).1;omega) (Int.le_of_lt (lW k))
 rw[az];omega
theorem qL:∀(f g n:Nat),n≤f→n≤g→cP f n=cP g n
 |0,0,_,_,_=>rfl
 |0,g+1,n,h,_=>by obtain rfl:n=0:=aa
                  simp[cP]
 |f+1,0,n,_,h=>by obtain rfl:n=0:=aa
                  simp[cP]
 |f+1,g+1,n,h,h'=>by
  unfold cP
  split
  ·rfl
  ·rw[qL f g (n/4294967296) aa aa]
theorem DK {n:Nat} (h:n≠0):words n=n % 4294967296::words (n/4294967296):=by
 unfold words
 obtain⟨m,rfl⟩:∃m,n=m+1:=⟨n - 1,aa⟩
 rw[cP,if_neg h,qL m ((m+1)/4294967296) _ aa (Nat.le_refl _)]
def ae (n:Nat):List Int:=(words n).map Int.ofNat
theorem gy:ae 0=[]:=rfl
theorem gz {n:Nat} (h:n≠0):ae n=((n % 4294967296:Nat):Int)::ae (n/4294967296):=by
 rw[ae,DK h];rfl
theorem rS (x:Int) (xs:List Int):∀k,az (x::xs) (k+1)=x+4294967296*az xs k
 |0=>by simp[az]
 |k+1=>by
  rw[az,rS x xs k,az,List.getD_cons_succ,Int.pow_succ]
  grind
theorem eN (n:Nat):az (ae n) (ae n).length=n:=by
 induction n using Nat.strongRecOn with
 |_ n ih=>
  by_cases h:n=0
  ·subst h;rfl
  ·rw[gz h,List.length_cons,rS,ih _ aa];omega
theorem aZ (n:Nat):fK (ae n):=by
 refine Ag fun x hx=> ?_
 obtain⟨w,hw,rfl⟩:=List.mem_map.1 hx
 have:=vW hw
 exact⟨Int.natCast_nonneg _,by show(w:Int)<_;omega⟩
theorem qM (n:Nat):(ae n).length=(words n).length:=by simp[ae]
theorem lX {n:Nat} (h:n≠0):(ae n).length≠0∧(ae n).getD ((ae n).length - 1) 0≠0:=by
 induction n using Nat.strongRecOn with
 |_ n ih=>
  rw[gz h]
  refine⟨by simp, ?_⟩
  by_cases h1:n/4294967296=0
  ·rw[h1,gy]
   simp only[List.length_singleton,Nat.sub_self,List.getD_cons_zero]
   omega
  ·obtain⟨h2,h3⟩:=ih _ aa h1
   obtain⟨l,hl⟩:∃l,(ae (n/4294967296)).length=l+1:=⟨(ae (n/4294967296)).length - 1,aa⟩
   simp only[List.length_cons,hl,Nat.add_sub_cancel,List.getD_cons_succ]
   rw[hl]at h3
   simpa using h3
theorem wi:∀(k:Nat) (xs:List Int),fK xs→k≤xs.length→(k=0∨xs.getD (k - 1) 0≠0)→ae (az xs k).toNat=xs.take k
 |0,xs,_,_,_=>by simp[az,gy]
 |k+1,[],_,h,_=>by simp at h
 |k+1,x::xs,hw,h,ht=>by
  have hx:=hw 0
  simp only[List.getD_cons_zero]at hx
  have PJ:fK xs:=fun i=>by have:=hw (i+1);simpa using this
  have hv:=b8 PJ k
  have Sa:=wi k xs PJ (by simpa using h) (by
   cases k with
   |zero=>exact .inl rfl
   |succ k=>right;have:=ht.resolve_left aa;simpa using this)
  have hn:(az (x::xs) (k+1)).toNat≠0:=by
   have M4:=ht.resolve_left aa
   have:=qK hw (k:=k) (by simpa using M4)
   have:=lW k
   omega
  rw[gz hn,rS,List.take_succ_cons]
  have e1:(x+4294967296*az xs k).toNat % 4294967296=x.toNat:=aa
  have e2:(x+4294967296*az xs k).toNat/4294967296=(az xs k).toNat:=aa
  rw[e1,e2,Sa]
  congr 1
  omega
theorem qN {hp:List (Nat×aC)} {k:Nat} {b:aC} (h:find hp k=some b):∀j c,(j,c)∈[(k,b)]→find hp j=some c:=dv h
theorem cS (k:Nat):(((4294967296^k:Nat)):Int)=(4294967296:Int)^k:=by rw[Int.natCast_pow];rfl
theorem gF {n k:Nat} (h:n<4294967296^k):(ae n).length≤k:=by
 by_cases hn:n=0
 ·subst hn;simp[gy]
 ·obtain⟨h1,h2⟩:=lX hn
  obtain⟨l,hl⟩:∃l,(ae n).length=l+1:=⟨(ae n).length - 1,aa⟩
  rw[hl]at h2
  have h3:=qK (aZ n) (k:=l) (by simpa using h2)
  rw[←hl,eN]at h3
  refine Nat.le_of_not_lt fun aA=> ?_
  have h4:(4294967296:Int)^k≤4294967296^l:=by
   have:(4294967296:Nat)^k≤4294967296^l:=Nat.pow_le_pow_right aF aa
   rw[←cS,←cS];exact Int.ofNat_le.2 this
  have h5:(n:Int)<4294967296^k:=by rw[←cS];exact Int.ofNat_lt.2 h
  omega
theorem cf (n:Nat):n<4294967296^(ae n).length:=by
 have:=gq (aZ n) (ae n).length
 rw[eN,←cS]at this
 exact Int.ofNat_lt.1 this
def yw (fk:List (Nat×aC)):List (Nat×aC)→Bool
 |[]=>true
 |(k,_)::r=>(match find fk k with
  |some b0=>b0.wr&&b0.data.live
  |none=>false)&&yw fk r
def qO (upd:List (Nat×aC)):List (Nat×aC)→Bool
 |[]=>true
 |(k,b)::r=>(!(b.wr&&b.data.live)||(find upd k).isSome)&&qO upd r
theorem mN {fk:List (Nat×aC)}:∀{upd:List (Nat×aC)},yw fk upd=true→∀k b,(k,b)∈upd→∃b0,(k,b0)∈fk∧b0.wr=true∧b0.data.live=true
 |(j,c)::r,h,k,b,hm=>by
  simp only[yw,Bool.and_eq_true]at h
  rcases List.mem_cons.1 hm with h1|h1
  ·cases h1
   cases hf:find fk j with
   |none=>rw[hf]at h;simp at h
   |some b0=>
    rw[hf]at h
    simp only[Bool.and_eq_true]at h
    exact⟨b0,iS hf,h.1⟩
  ·exact mN h.2 k b h1
theorem mO {upd:List (Nat×aC)}:∀{fk:List (Nat×aC)},qO upd fk=true→∀k b,(k,b)∈fk→b.wr=true→b.data.live=true→∃b',(k,b')∈upd
 |(j,c)::r,h,k,b,hm,hw,hl=>by
  simp only[qO,Bool.and_eq_true]at h
  rcases List.mem_cons.1 hm with h1|h1
  ·cases h1
   have:=h.1
   rw[hw,hl]at this
   cases hf:find upd j with
   |none=>rw[hf]at this;simp at this
   |some b0=>exact⟨b0,iS hf⟩
  ·exact mO h.2 k b h1 hw hl
theorem cu.of {args:List SV} {fk:List (Nat×aC)} {c:SV} {new upd:List (Nat×aC)} (h1:eI (gb args) (ax fk)=true) (h2:eI (gU fk) (ax fk)=true) (h3:nT (ax fk++ax new)=true)
  (h4:qI new=true) (h5:qI upd=true) (h6:yw fk upd=true) (h7:qO upd fk=true) (h8:eI (refs c) (ax fk++ax new)=true) (h9:eI (gU new) (ax fk++ax new)=true)
  (ZH:eI (gU upd) (ax fk++ax new)=true) (h11:args.all bs=true):cu args fk c new upd:=
 ⟨h1,h2,h3,h4,h5,mN h6,mO h7,h8,h9,ZH,h11⟩
def yx:List (Nat×aC)→Bool
 |[]=>true
 |(_,b)::r=> !b.wr&&yx r
theorem mP:∀{l:List (Nat×aC)},yx l=true→∀k b,(k,b)∈l→b.wr=false
 |(j,c)::r,h,k,b,hm=>by
  simp only[yx,Bool.and_eq_true,Bool.not_eq_true']at h
  rcases List.mem_cons.1 hm with h1|h1
  ·cases h1;exact h.1
  ·exact mP h.2 k b h1
theorem bh.ro {fk:List (Nat×aC)} {σ:Nat→Nat} (h:yx fk=true):bh fk [] σ:=
 ⟨(fun q q' b b' hq _ _ hw=>by rw[mP h q b hq]at hw;cases hw),(fun _ _ h=>by simp[ax]at h),(fun _ _ h=>by simp[ax]at h)⟩
theorem bh.one {m:Nat} {b:aC} {σ:Nat→Nat}:bh [] [(m,b)] σ:=
 ⟨(fun q q' b b' hq=>by cases hq),(fun m m' h1 h2 b6=>by simp[ax]at h1 h2;omega),(fun _ _ _ h=>by simp[ax]at h)⟩
theorem bh.PK {fk:List (Nat×aC)} {m:Nat} {b:aC} {σ:Nat→Nat} (h:yx fk=true) (hn:∀q∈ax fk,σ m≠σ q):bh fk [(m,b)] σ:=
 ⟨(fun q q' b b' hq _ _ hw=>by rw[mP h q b hq]at hw;cases hw),(fun m m' h1 h2 b6=>by simp[ax]at h1 h2;omega),(fun m' q h1 h2=>by
  have h1:m'=m:=by simpa [ax]using h1
  rw[h1];exact hn q h2)⟩
theorem bh.upd {q:Nat} {b:aC} {σ:Nat→Nat}:bh [(q,b)] [] σ:=
 ⟨(fun q q' b b' h h' b6=>by simp at h h';omega),(fun _ _ h=>by simp[ax]at h),(fun _ _ h=>by simp[ax]at h)⟩
theorem bh.two {q r:Nat} {b c:aC} {σ:Nat→Nat} (h:σ q≠σ r):bh [(q,b),(r,c)] [] σ:=
 ⟨(fun x y b b' hx hy b6 _=>by
  simp only[List.mem_cons,List.not_mem_nil,or_false,Prod.mk.injEq]at hx hy
  rcases hx with⟨rfl,_⟩|⟨rfl,_⟩<;>rcases hy with⟨rfl,_⟩|⟨rfl,_⟩
  ·exact absurd rfl b6
  ·exact h
  ·exact h.symm
  ·exact absurd rfl b6),(fun _ _ h=>by simp[ax]at h),(fun _ _ h=>by simp[ax]at h)⟩
theorem fW {hp:List (Nat×aC)} {k l:Nat} {b c:aC} (h:find hp k=some b) (h':find hp l=some c):∀j d,(j,d)∈[(k,b),(l,c)]→find hp j=some d:=fun j d hm=>by
 simp only[List.mem_cons,List.not_mem_nil,or_false,Prod.mk.injEq]at hm
 rcases hm with⟨rfl,rfl⟩|⟨rfl,rfl⟩
 ·exact h
 ·exact h'
theorem dp {fk:List (Nat×aC)} {k:Nat} {b0 b:aC} (h:(k,b0)∈fk) (h1:b0.wr=true) (h2:b0.data.live=true) (h3:b.wr=true):∀j c,(j,c)∈[(k,b)]→∃b0:aC,(j,b0)∈fk∧b0.wr=true∧b0.data.live=true∧c.wr=true:=fun j c hm=>by
 simp only[List.mem_singleton,Prod.mk.injEq]at hm
 obtain⟨rfl,rfl⟩:=hm
 exact⟨b0,h,h1,h2,h3⟩
theorem uN {fk:List (Nat×aC)} {k l:Nat} {b0 b c0 c:aC} (h:(k,b0)∈fk) (h1:b0.wr=true) (h2:b0.data.live=true) (h3:b.wr=true) (g:(l,c0)∈fk) (g1:c0.wr=true) (g2:c0.data.live=true) (g3:c.wr=true):
  ∀j d,(j,d)∈[(k,b),(l,c)]→∃b0:aC,(j,b0)∈fk∧b0.wr=true∧b0.data.live=true∧d.wr=true:=fun j d hm=>by
 simp only[List.mem_cons,List.not_mem_nil,or_false,Prod.mk.injEq]at hm
 rcases hm with⟨rfl,rfl⟩|⟨rfl,rfl⟩
 ·exact⟨b0,h,h1,h2,h3⟩
 ·exact⟨c0,g,g1,g2,g3⟩
def bL (v n:Nat):List Int:=(List.range n).map fun i=>((v/4294967296^i % 4294967296:Nat):Int)
theorem cY (v n:Nat):(bL v n).length=n:=by simp[bL]
theorem jc {v n i:Nat} (h:i<n):(bL v n).getD i 0=((v/4294967296^i % 4294967296:Nat):Int):=by
 rw[List.getD_eq_getElem?_getD,bL,List.getElem?_map,List.getElem?_range h];rfl
theorem gg (v n:Nat):fK (bL v n):=by
 refine Ag fun x hx=> ?_
 obtain⟨i,_,rfl⟩:=List.mem_map.1 hx
 omega
theorem Jc {xs:List Int} (hx:fK xs) {n:Nat}:∀{k:Nat},k≤n→az xs n % 4294967296^k=az xs k:=by
 intro k hk
 induction n with
 |zero=>
  obtain rfl:k=0:=aa
  simp[az]
 |succ n ih=>
  by_cases he:k=n+1
  ·subst he
   exact Int.emod_eq_of_lt (b8 hx _) (gq hx _)
  ·rw[az,show n=k+(n - k)from aa,Int.pow_add,←show n=k+(n - k)from aa,Int.mul_left_comm,Int.add_mul_emod_self_left]
   exact ih aa
theorem Jd {xs:List Int} (hx:fK xs) {i n:Nat} (h:i<n):az xs n/4294967296^i % 4294967296=xs.getD i 0:=by
 have h1:=Jc hx (n:=n) (k:=i+1) aa
 have hp:=lW i
 have e:az xs n=az xs (i+1)+4294967296^(i+1)*(az xs n/4294967296^(i+1)):=by
  rw[←h1];exact(Int.emod_add_mul_ediv _ _).symm
 have h0:=b8 hx i
 have hl:=gq hx i
 have e2:az xs n=az xs i+4294967296^i*(xs.getD i 0+4294967296*(az xs n/4294967296^(i+1))):=by
  conv=>lhs;rw[e]
  rw[az,Int.pow_succ]
  grind
 rw[e2,Int.add_mul_ediv_left _ _ aa,Int.ediv_eq_zero_of_lt h0 hl,Int.zero_add,Int.add_mul_emod_self_left]
 exact Int.emod_eq_of_lt (hx i).1 (hx i).2
theorem M5 {xs:List Int} (hx:fK xs) {v:Nat} (hv:az xs xs.length=v):xs=bL v xs.length:=by
 refine List.ext_getElem? fun i=> ?_
 by_cases hi:i<xs.length
 ·have h1:=Jd hx hi
  have h2:=jc (v:=v) hi
  rw[hv,←cS,←Int.natCast_ediv,show((v/4294967296^i:Nat):Int) % 4294967296=((v/4294967296^i % 4294967296:Nat):Int)from rfl,←h2,List.getD_eq_getElem?_getD,List.getD_eq_getElem?_getD]at h1
  have hl:i<(bL v xs.length).length:=by rw[cY];exact hi
  rw[List.getElem?_eq_getElem hi,List.getElem?_eq_getElem hl]at h1 ⊢
  simpa using h1.symm
 ·rw[List.getElem?_eq_none aa,List.getElem?_eq_none (by rw[cY];omega)]
theorem nW {xs:List Int} {n:Nat} (hl:xs.length=n) (hx:fK xs) {v:Nat} (hv:az xs n=v):xs=bL v n:=by
 subst hl;exact M5 hx hv
theorem gG (v n:Nat):az (bL v n) n=((v % 4294967296^n:Nat):Int):=by
 have key:∀k,k≤n→az (bL v n) k=((v % 4294967296^k:Nat):Int):=by
  intro k hk
  induction k with
  |zero=>simp[az,Nat.mod_one]
  |succ k ih=>
   rw[az,ih aa,jc aa,←cS,←Int.natCast_mul,←Int.natCast_add,Nat.pow_succ,Nat.mod_mul,Nat.mul_comm (4294967296^k)]
 exact key n (Nat.le_refl n)
theorem lY {xs:List Int} {i:Nat} {v:Int}:∀{n:Nat},i<n→i<xs.length→az (xs.set i v) n=az xs n+(v - xs.getD i 0)*4294967296^i
 |0,h,_=>aa
 |n+1,h,hl=>by
  by_cases he:i=n
  ·subst he
   rw[az,az,da (Nat.le_refl _),aW,if_pos ⟨rfl,hl⟩];grind
  ·rw[az,az,lY (n:=n) aa hl,aW,if_neg aa];grind
end Go.Sx
namespace Go.Sx
theorem wf_u32 {x:Int} (h:(Lit.int .u32 x).wf=true):0≤x∧x<4294967296:=by
 simp[Lit.wf,IntKind.min,IntKind.max,IntKind.bits,IntKind.signed]at h;omega
theorem wf_u8 {x:Int} (h:(Lit.int .u8 x).wf=true):0≤x∧x<256:=by
 simp[Lit.wf,IntKind.min,IntKind.max,IntKind.bits,IntKind.signed]at h;omega
theorem wf_i64 {x:Int} (h:(Lit.int .i64 x).wf=true): -9223372036854775808≤x∧x<9223372036854775808:=by
 simp[Lit.wf,IntKind.min,IntKind.max,IntKind.bits,IntKind.signed]at h;omega
theorem yy {P:Program} {W:World} {x:String×DataW Unit} {rest:List (String×DataW Unit)} (h:laidMet P (x::rest) W):laidMet P rest W:=by
 obtain⟨n,d⟩:=x
 obtain⟨ps,⟨g,t,cs,fuel,p,q,_,_,_,_,hr,rfl⟩,hn,hb⟩:=h
 exact⟨q,hr,(List.nodup_append.1 hn).2.1,fun b off hm=>hb b off (List.mem_append.2 (.inr hm))⟩
section
variable {α:Type} {p:α→Bool} {l:List α} {d:α}
theorem fv {i:Nat} (h:i<l.length):l.getD i d∈l:=by rw[List.getD_eq_getElem?_getD,List.getElem?_eq_getElem h];exact List.getElem_mem h
theorem qP {x:α} (h:x∈l) (d:α):∃i,i<l.length∧l.getD i d=x:=by
 obtain⟨i,hi,rfl⟩:=List.getElem_of_mem h
 exact⟨i,hi,by rw[List.getD_eq_getElem?_getD,List.getElem?_eq_getElem hi];rfl⟩
theorem Sb {i:Nat} (h:i<l.length) (hp:p (l.getD i d)=true):l.any p=true:=List.any_eq_true.2 ⟨_,fv h,hp⟩
theorem DL (d:α) (h:∀i,i<l.length→p (l.getD i d)=false):l.any p=false:=by
 rw[List.any_eq_false]
 intro x hx
 obtain⟨i,hi,rfl⟩:=qP hx d
 rw[h i hi];exact Bool.false_ne_true
theorem Sc (d:α) (h:∀i,i<l.length→p (l.getD i d)=true):l.all p=true:=by
 rw[List.all_eq_true]
 intro x hx
 obtain⟨i,hi,rfl⟩:=qP hx d
 exact h i hi
theorem Sd {i:Nat} (h:i<l.length) (hp:p (l.getD i d)=false):l.all p=false:=by
 rw[List.all_eq_false]
 exact⟨_,fv (d:=d) h,by rw[hp];exact Bool.false_ne_true⟩
end
theorem bA {i:Nat} (h:i<4611686018427387904):IntKind.i64.wrap ((i:Int)+1)=((i+1:Nat):Int):=by rw[wrap_i64 aa aa];omega
theorem dX {i n:Nat} (h:i<n):decide ((i:Int)<(n:Int))=true:=decide_eq_true aa
theorem ez {i n:Nat} (h:¬i<n):decide ((i:Int)<(n:Int))=false:=decide_eq_false aa
theorem jd {α:Type} {d e:α} {r:List α} {i n:Nat} (hi:i<n) (hn:r.length=n):(r.take i++List.replicate (n - i) d).set i (r.getD i e)=r.take (i+1)++List.replicate (n - (i+1)) d:=by
 have hl:(r.take i).length=i:=by rw[List.length_take];omega
 rw[List.set_append_right _ _ aa,hl,Nat.sub_self,show n - i=(n - (i+1))+1 from aa,List.replicate_succ,List.set_cons_zero]
 have e:r.take (i+1)=r.take i++[r.getD i e]:=by rw[List.take_add_one,List.getD_eq_getElem?_getD,List.getElem?_eq_getElem aa];rfl
 rw[e,List.append_assoc];rfl
theorem ek {α:Type} {d:α} {r:List α} {i n:Nat} (hi:i≤n) (hn:r.length=n):(r.take i++List.replicate (n - i) d).length=n:=by simp;omega
theorem je {α:Type} {d:α} {r:List α} {n:Nat} (hn:r.length=n):r.take n++List.replicate (n - n) d=r:=by simp[←hn]
theorem Fc {α β γ:Type} {f:α→β→γ} {a:List α} {b:List β} {n:Nat} (ha:a.length=n) (hb:b.length=n):(List.zipWith f a b).length=n:=by simp[ha,hb]
theorem Fe {α β γ:Type} {f:α→β→γ} {a:List α} {b:List β} {i:Nat} {d1:α} {d2:β} {d3:γ} (ha:i<a.length) (hb:i<b.length):(List.zipWith f a b).getD i d3=f (a.getD i d1) (b.getD i d2):=by
 simp[List.getD_eq_getElem?_getD,List.getElem?_zipWith,List.getElem?_eq_getElem ha,List.getElem?_eq_getElem hb]
theorem ue {E:Env} (t k:Nat) {c:Code} {K:bQ} {fr:List (Nat×SV)} {hp:List (Nat×aC)} {ty:TypeId} {n:Nat} {qs:List Rat} (hW:∀b,¬E.W0 b) (ht:lk fr t=some (.aN k 5 0 n)) (hk:find hp k=some ⟨ty,true,.cm qs⟩)
  (hn:n=qs.length) (hs:ey E c K ((t,cX qs)::fr) (fI hp k ⟨ty,true,.dead⟩)):ey E c K fr hp:=by
 refine kg t k (xs:=qs.map .frac) hW ht hk rfl rfl (bw (fun _=>rfl) qs) (by simp;omega) ?_
 rw[gf (by simp;omega)]
 exact hs
theorem jA.fY {ρ:bY} {w w':World} {c:SV} {v:Value} (hb:RowKit.Below w.heap.size w w') (h:Has ρ c v):jA ρ w c [] [] v ρ w':=
 ⟨.refl ρ,h,fun _ _=>rfl,.fY hb,(fun k b h=>by rcases h with h|h<;>cases h),(fun _ _ _ h=>by cases h),(fun k b x h=>by cases h),(fun k b k' b' x x' h=>by cases h),fun b o h=>.inl h⟩
theorem wm {ρ:bY}:∀{vs:List Value} {z:List (List Value)},au ρ (vs.map .val) z→List.zipWith cM (vs.map .val) z=vs
 |[],z,h=>by simp
 |v::vs,z,h=>by
  simp only[List.map_cons,au,aK]at h
  obtain⟨x,r,rfl,⟨rfl,_⟩,h2⟩:=h
  simp[wm h2,cM,SV.bf]
theorem yA {P:Program} {f:FuncId} {vs:List Value} {v:Value} (hf:BB P f) (hv:v.oneCell'=true) (h:∀w:World,Calls P f vs.toArray w fun e w'=>e= .returned v∧RowKit.Below w.heap.size w w'):ab P f (vs.map .val) [] (.val v) [] []:=by
 refine .inl ⟨hf,fun ρ w z hz _=> ?_⟩
 rw[wm hz]
 refine(h w).mono ?_
 rintro e w' ⟨rfl,hb⟩
 exact⟨v,ρ,rfl,.fY hb (ca hv)⟩
theorem DM {P:Program} {f:FuncId} {vs:List Value} {v:Value} (hf:BB P f) (hv:v.oneCell'=true) (h:∀w:World,Calls P f vs.toArray w fun e w'=>e= .returned v∧w'=w):ab P f (vs.map .val) [] (.val v) [] []:=
 yA hf hv fun w=>(h w).mono fun _ _ ⟨he,hw⟩=>⟨he,hw▸RowKit.Below.refl _ _⟩
def qf (s:ByteArray):SV:=.val (.string s)
theorem GQ {P:Program} {f:FuncId} {ss:List ByteArray} {sep:ByteArray} {v:Value} (hf:BB P f) (hv:v.oneCell'=true)
  (h0:ss=[]→∀(a:Option Addr) (w:World),Calls P f #[.slice a 0 0,.string sep] w fun e w'=>e= .returned v∧w'=w)
  (h:∀(bk o c:Nat) (w:World),(∀(j:Nat) x,ss[j]? =some x→w.cell? ⟨bk,o+j,none⟩=some (.string x))→bk<w.heap.size→ss.length≤c→Calls P f #[.slice (some ⟨bk,o,none⟩) ss.length c,.string sep] w fun e w'=>e= .returned v∧RowKit.Below w.heap.size w w'):
  ab P f [cT 1 qf ss,.val (.string sep)] [] (.val v) [] []:=by
 refine .inl ⟨hf,fun ρ w z hz hp=> ?_⟩
 simp only[au,aK]at hz
 obtain⟨x,_,rfl,hx,y,_,rfl,⟨rfl,_⟩,rfl⟩:=hz
 have fin:∀(a:Value),(Calls P f #[a,.string sep] w fun e w'=>e= .returned v∧RowKit.Below w.heap.size w w')→Calls P f (List.zipWith cM [cT 1 qf ss,SV.val (.string sep)] [[a],[.string sep]]).toArray w fun e w'=>∃v' ρ',e= .returned v'∧jA ρ w (.val v) [] [] v' ρ' w':=fun a hc=>by
  have e:(List.zipWith cM [cT 1 qf ss,SV.val (.string sep)] [[a],[.string sep]]).toArray= #[a,.string sep]:=by simp[cM,SV.bf,GB]
  rw[e]
  refine hc.mono ?_
  rintro e w' ⟨rfl,hb⟩
  exact⟨v,ρ,rfl,.fY hb (ca hv)⟩
 rcases hx with⟨hn,a,rfl⟩|⟨hg,b,cap,z,pre,ex,ty,fz,h1,h2,h3,h4,h5,rfl⟩
 ·refine fin _ ?_
  have hn:ss=[]:=by simpa using hn
  exact(h0 hn a w).mono fun _ _ ⟨he,hw⟩=>⟨he,hw▸RowKit.Below.refl _ _⟩
 ·refine fin _ ?_
  rw[List.length_map]at h4 ⊢
  have hh:=hp.aY b _ h1
  have hz:∀(l:List ByteArray) (z:List (List Value)),au (cN ρ.aY hg) (l.map qf) z→z.flatten=l.map .string:=by
   intro l
   induction l with
   |nil=>intro z hz;simp only[List.map_nil,au]at hz;subst hz;rfl
   |cons s l ih=>
    intro z hz
    simp only[List.map_cons,au,qf,aK]at hz
    obtain⟨x,r,rfl,⟨rfl,_⟩,h⟩:=hz
    simp[ih r h]
  refine h b pre.length cap w (fun j x hj=> ?_) ?_ h4
  ·rw[cell_of_row w b _ _ ty fz hh,List.getElem?_toArray,List.getElem?_append_right aa,Nat.add_sub_cancel_left,hz ss z h2]
   rw[List.getElem?_append_left (by rw[List.length_map];exact(List.getElem?_eq_some_iff.1 hj).1),List.getElem?_map,hj];rfl
  ·rcases Nat.lt_or_ge b w.heap.size with h'|h'
   ·exact h'
   ·simp[Array.getElem?_eq_none h']at hh
theorem eB {α:Type} {E:Env} (t k:Nat) {c:Code} {K:bQ} {fr:List (Nat×SV)} {hp:List (Nat×aC)} {ty:TypeId} {w n:Nat} {f:α→SV} {l:List α} (hW:∀b,¬E.W0 b) (hf:∀x,bE (f x)=true) (ht:lk fr t=some (.aN k w 0 n)) (hk:find hp k=some ⟨ty,true,.seq w (l.map f)⟩)
  (hn:n=l.length) (hs:ey E c K ((t,cT w f l)::fr) (fI hp k ⟨ty,true,.dead⟩)):ey E c K fr hp:=by
 refine kg t k (xs:=l.map f) hW ht hk rfl rfl (bw hf l) (by simp;omega) ?_
 rw[gf (by simp;omega)]
 exact hs
theorem ab.args {P:Program} {f:FuncId} {args args':List SV} {fk:List (Nat×aC)} {c:SV} {new upd:List (Nat×aC)} (h:ab P f args' fk c new upd) (hr:∀ρ z,au ρ args z→au ρ args' z) (hz:∀z,List.zipWith cM args z=List.zipWith cM args' z):ab P f args fk c new upd:=by
 rcases h with⟨h1,h2⟩|h2
 ·exact .inl ⟨h1,fun ρ w z h hp=>by rw[hz];exact h2 ρ w z (hr ρ z h) hp⟩
 ·exact .inr fun ρ w z h hp=>by rw[hz];exact h2 ρ w z (hr ρ z h) hp
theorem uO {ρ:bY} {a:Option Addr} {w:Nat} {x:List Value} (h:aK ρ (.val (.slice a 0 0)) x):aK ρ (eH w []) x:=by
 simp only[aK]at h ⊢
 exact .inl ⟨rfl,a,h.1⟩
theorem wo {α:Type} {d e:α} {r:List α} {i n:Nat} (hi:i<n) (hn:r.length=n):(r.take i++List.replicate (n - i) d).getD i e=d:=by
 have hl:(r.take i).length=i:=by rw[List.length_take];omega
 rw[List.getD_eq_getElem?_getD,List.getElem?_append_right aa,hl,Nat.sub_self,List.getElem?_replicate,if_pos aa];rfl
end Go.Sx
namespace Go.Proofs.YtfpagioknjjacaaGreatDoor
open Go.Sx
set_option maxRecDepth 100000
theorem ah {t:TypeId} {ti:TI} {z:Value} (hk:ti.kind.ok Tryz.prog t) (h1:(Tryz.prog.info? t).map (fun i=>(i.size,i.bytes,i.zero))=some (ti.size,ti.bytes,some z):=by kernel_rfl) (h2:z.cells.toList=ti.zero.flatMap fh:=by kernel_rfl) (h3:ti.zero.all Rp=true:=by kernel_rfl) (h4:z.cells.size=ti.size:=by kernel_rfl) (h5:z=(if ti.kind.isAgg then .agg z.cells else z.cells.getD 0 undef):=by kernel_rfl):aD Tryz.prog t ti:=aD.of hk h1 h2 h3 h4 h5
def av:TI:=⟨.other,1,8,[.val .nilFunc]⟩
theorem aee:aD Tryz.prog 1 av:=ah (z:=.nilFunc) ⟨_,Tryz.underlying1,rfl⟩
def Dj:TI:=⟨.int .i64,1,8,[.val (.int .i64 0)]⟩
theorem agM:Dj.bytes=8:=rfl
theorem aef:aD Tryz.prog 2 Dj:=ah (z:=(.int .i64 0)) (by kernel_rfl:Tryz.prog.underlying 2=some (.int .i64))
def M6:TI:=⟨.int .i64,1,8,[.val (.int .i64 0)]⟩
theorem Je:M6.bytes=8:=rfl
theorem aeg:aD Tryz.prog 3 M6:=ah (z:=(.int .i64 0)) (by kernel_rfl:Tryz.prog.underlying 3=some (.int .i64))
def ti4:TI:=⟨.bool,1,1,[.val (.bool false)]⟩
theorem agN:ti4.bytes=1:=rfl
theorem aeh:aD Tryz.prog 4 ti4:=ah (z:=(.bool false)) (by kernel_rfl:Tryz.prog.underlying 4=some (.bool))
def ti5:TI:=⟨.int .u8,1,1,[.val (.int .u8 0)]⟩
theorem agO:ti5.bytes=1:=rfl
theorem aei:aD Tryz.prog 5 ti5:=ah (z:=(.int .u8 0)) (by kernel_rfl:Tryz.prog.underlying 5=some (.int .u8))
def ti9:TI:=⟨.str,1,16,[.val (.string .empty)]⟩
theorem agP:ti9.bytes=16:=rfl
theorem aej:aD Tryz.prog 9 ti9:=ah (z:=(.string .empty)) (by kernel_rfl:Tryz.prog.underlying 9=some (.string))
def aaf:TI:=⟨.int .u64,1,8,[.val (.int .u64 0)]⟩
theorem aag:aD Tryz.prog 12 aaf:=ah (z:=(.int .u64 0)) (by kernel_rfl:Tryz.prog.underlying 12=some (.int .u64))
def aah:TI:=⟨.agg [(0,9,1),(1,12,1)],2,24,[.val (.string .empty),.val (.int .u64 0)]⟩
theorem aai:aD Tryz.prog 13 aah:=ah (z:=.agg #[(.string .empty),(.int .u64 0)]) ⟨aB,aB,aB⟩
def aaj:TI:=⟨.int .i32,1,4,[.val (.int .i32 0)]⟩
theorem aak:aD Tryz.prog 21 aaj:=ah (z:=(.int .i32 0)) (by kernel_rfl:Tryz.prog.underlying 21=some (.int .i32))
def aal:TI:=⟨.aN 25,1,24,[.val (.slice none 0 0)]⟩
theorem aam:aD Tryz.prog 22 aal:=ah (z:=(.slice none 0 0)) (by kernel_rfl:Tryz.prog.underlying 22=some (.slice 25))
def M7:TI:=⟨.int .u32,1,4,[.val (.int .u32 0)]⟩
theorem afw:M7.bytes=4:=rfl
theorem aan:aD Tryz.prog 23 M7:=ah (z:=(.int .u32 0)) (by kernel_rfl:Tryz.prog.underlying 23=some (.int .u32))
def aao:TI:=⟨.agg [(0,2,1),(1,23,1)],2,16,[.val (.int .i64 0),.val (.int .u32 0)]⟩
theorem aap:aD Tryz.prog 24 aao:=ah (z:=.agg #[(.int .i64 0),(.int .u32 0)]) ⟨aB,aB,aB⟩
def Se:TI:=⟨.agg [(0,2,1),(1,23,1)],2,16,[.val (.int .i64 0),.val (.int .u32 0)]⟩
theorem aaq:Se.bytes=16:=rfl
theorem aar:aD Tryz.prog 25 Se:=ah (z:=.agg #[(.int .i64 0),(.int .u32 0)]) ⟨aB,aB,aB⟩
def aas:TI:=⟨.agg [(0,5,1),(1,5,1),(2,22,1)],3,32,[.val (.int .u8 0),.val (.int .u8 0),.val (.slice none 0 0)]⟩
theorem aat:aD Tryz.prog 26 aas:=ah (z:=.agg #[(.int .u8 0),(.int .u8 0),(.slice none 0 0)]) ⟨aB,aB,aB⟩
def aau:TI:=⟨.agg [(0,5,1),(1,5,1),(2,22,1)],3,32,[.val (.int .u8 0),.val (.int .u8 0),.val (.slice none 0 0)]⟩
theorem aav:aD Tryz.prog 27 aau:=ah (z:=.agg #[(.int .u8 0),(.int .u8 0),(.slice none 0 0)]) ⟨aB,aB,aB⟩
theorem aaw:aD Tryz.prog 28 av:=ah (z:=.nilFunc) ⟨_,Tryz.underlying28,rfl⟩
theorem aax:aD Tryz.prog 29 av:=ah (z:=.nilFunc) ⟨_,Tryz.underlying29,rfl⟩
theorem aay:aD Tryz.prog 30 av:=ah (z:=.nilFunc) ⟨_,Tryz.underlying30,rfl⟩
theorem aaz:aD Tryz.prog 31 av:=ah (z:=.nilFunc) ⟨_,Tryz.underlying31,rfl⟩
theorem aaA:aD Tryz.prog 32 av:=ah (z:=.nilFunc) ⟨_,Tryz.underlying32,rfl⟩
def M8:TI:=⟨.aN 3,1,24,[.val (.slice none 0 0)]⟩
theorem afx:M8.bytes=24:=rfl
theorem aaB:aD Tryz.prog 33 M8:=ah (z:=(.slice none 0 0)) (by kernel_rfl:Tryz.prog.underlying 33=some (.slice 3))
theorem aaC:aD Tryz.prog 34 av:=ah (z:=.nilFunc) ⟨_,Tryz.underlying34,rfl⟩
theorem aaD:aD Tryz.prog 35 av:=ah (z:=.nilFunc) ⟨_,Tryz.underlying35,rfl⟩
def M9:TI:=⟨.aN 52,1,24,[.val (.slice none 0 0)]⟩
theorem afy:M9.bytes=24:=rfl
theorem aaE:aD Tryz.prog 36 M9:=ah (z:=(.slice none 0 0)) (by kernel_rfl:Tryz.prog.underlying 36=some (.slice 52))
def aaF:TI:=⟨.agg [(0,3,1),(1,3,1),(2,36,1)],3,40,[.val (.int .i64 0),.val (.int .i64 0),.val (.slice none 0 0)]⟩
theorem aaG:aD Tryz.prog 37 aaF:=ah (z:=.agg #[(.int .i64 0),(.int .i64 0),(.slice none 0 0)]) ⟨aB,aB,aB⟩
def Na:TI:=⟨.agg [(0,3,1),(1,3,1),(2,36,1)],3,40,[.val (.int .i64 0),.val (.int .i64 0),.val (.slice none 0 0)]⟩
theorem afz:Na.bytes=40:=rfl
theorem aaH:aD Tryz.prog 38 Na:=ah (z:=.agg #[(.int .i64 0),(.int .i64 0),(.slice none 0 0)]) ⟨aB,aB,aB⟩
theorem aaI:aD Tryz.prog 39 av:=ah (z:=.nilFunc) ⟨_,Tryz.underlying39,rfl⟩
def aaJ:TI:=⟨.int .i64,1,8,[.val (.int .i64 0)]⟩
theorem aaK:aD Tryz.prog 40 aaJ:=ah (z:=(.int .i64 0)) (by kernel_rfl:Tryz.prog.underlying 40=some (.int .i64))
theorem aaL:aD Tryz.prog 42 av:=ah (z:=.nilFunc) ⟨_,Tryz.underlying42,rfl⟩
theorem aaM:aD Tryz.prog 43 av:=ah (z:=.nilFunc) ⟨_,Tryz.underlying43,rfl⟩
def Nb:TI:=⟨.int .u64,1,8,[.val (.int .u64 0)]⟩
theorem afA:Nb.bytes=8:=rfl
theorem aaN:aD Tryz.prog 44 Nb:=ah (z:=(.int .u64 0)) (by kernel_rfl:Tryz.prog.underlying 44=some (.int .u64))
def aaO:TI:=⟨.agg [(0,44,1),(1,9,1)],2,24,[.nat 0]⟩
theorem aaP:aD Tryz.prog 45 aaO:=ah (z:=.agg #[(.int .u64 0),(.string .empty)]) ⟨aB,aB,aB⟩
def Nc:TI:=⟨.agg [(0,44,1),(1,9,1)],2,24,[.nat 0]⟩
theorem afB:Nc.bytes=24:=rfl
theorem aaQ:aD Tryz.prog 46 Nc:=ah (z:=.agg #[(.int .u64 0),(.string .empty)]) ⟨aB,aB,aB⟩
def aaR:TI:=⟨.agg [(0,46,2)],2,24,[.nat 0]⟩
theorem aaS:aD Tryz.prog 47 aaR:=ah (z:=.agg #[(.int .u64 0),(.string .empty)]) ⟨aB,aB,aB⟩
def aaT:TI:=⟨.agg [(0,46,2)],2,24,[.nat 0]⟩
theorem aaU:aD Tryz.prog 48 aaT:=ah (z:=.agg #[(.int .u64 0),(.string .empty)]) ⟨aB,aB,aB⟩
def aaV:TI:=⟨.agg [(0,48,2),(2,4,1)],3,32,[.int 0]⟩
theorem aaW:aD Tryz.prog 49 aaV:=ah (z:=.agg #[(.int .u64 0),(.string .empty),(.bool false)]) ⟨aB,aB,aB⟩
def Jf:TI:=⟨.agg [(0,48,2),(2,4,1)],3,32,[.int 0]⟩
theorem PL:Jf.bytes=32:=rfl
theorem aaX:aD Tryz.prog 50 Jf:=ah (z:=.agg #[(.int .u64 0),(.string .empty),(.bool false)]) ⟨aB,aB,aB⟩
def aaY:TI:=⟨.agg [(0,50,3),(3,46,2)],5,56,[.frac 0]⟩
theorem aaZ:aD Tryz.prog 51 aaY:=ah (z:=.agg #[(.int .u64 0),(.string .empty),(.bool false),(.int .u64 0),(.string .empty)]) ⟨aB,aB,aB⟩
def Nd:TI:=⟨.agg [(0,50,3),(3,46,2)],5,56,[.frac 0]⟩
theorem aa0:Nd.bytes=56:=rfl
theorem aa1:aD Tryz.prog 52 Nd:=ah (z:=.agg #[(.int .u64 0),(.string .empty),(.bool false),(.int .u64 0),(.string .empty)]) ⟨aB,aB,aB⟩
theorem aa2:aD Tryz.prog 53 av:=ah (z:=.nilFunc) ⟨_,Tryz.underlying53,rfl⟩
def Nf:TI:=⟨.aN 52,1,24,[.val (.slice none 0 0)]⟩
theorem afC:Nf.bytes=24:=rfl
theorem aa3:aD Tryz.prog 54 Nf:=ah (z:=(.slice none 0 0)) (by kernel_rfl:Tryz.prog.underlying 54=some (.slice 52))
theorem aa4:aD Tryz.prog 56 av:=ah (z:=.nilFunc) ⟨_,Tryz.underlying56,rfl⟩
theorem aa5:aD Tryz.prog 57 av:=ah (z:=.nilFunc) ⟨_,Tryz.underlying57,rfl⟩
theorem aa6:aD Tryz.prog 58 av:=ah (z:=.nilFunc) ⟨_,Tryz.underlying58,rfl⟩
theorem aa7:aD Tryz.prog 59 av:=ah (z:=.nilFunc) ⟨_,Tryz.underlying59,rfl⟩
theorem aa8:aD Tryz.prog 60 av:=ah (z:=.nilFunc) ⟨_,Tryz.underlying60,rfl⟩
def aa9:TI:=⟨.aN 5,1,24,[.val (.slice none 0 0)]⟩
theorem aba:aD Tryz.prog 61 aa9:=ah (z:=(.slice none 0 0)) (by kernel_rfl:Tryz.prog.underlying 61=some (.slice 5))
theorem abb:aD Tryz.prog 62 av:=ah (z:=.nilFunc) ⟨_,Tryz.underlying62,rfl⟩
theorem abc:aD Tryz.prog 63 av:=ah (z:=.nilFunc) ⟨_,Tryz.underlying63,rfl⟩
theorem abd:aD Tryz.prog 64 av:=ah (z:=.nilFunc) ⟨_,Tryz.underlying64,rfl⟩
theorem abe:aD Tryz.prog 65 av:=ah (z:=.nilFunc) ⟨_,Tryz.underlying65,rfl⟩
theorem abf:aD Tryz.prog 66 av:=ah (z:=.nilFunc) ⟨_,Tryz.underlying66,rfl⟩
theorem abg:aD Tryz.prog 67 av:=ah (z:=.nilFunc) ⟨_,Tryz.underlying67,rfl⟩
theorem abh:aD Tryz.prog 69 av:=ah (z:=.nilFunc) ⟨_,Tryz.underlying69,rfl⟩
def abi:TI:=⟨.aN 74,1,24,[.val (.slice none 0 0)]⟩
theorem abj:aD Tryz.prog 70 abi:=ah (z:=(.slice none 0 0)) (by kernel_rfl:Tryz.prog.underlying 70=some (.slice 74))
theorem abk:aD Tryz.prog 71 av:=ah (z:=.nilFunc) ⟨_,Tryz.underlying71,rfl⟩
theorem abl:aD Tryz.prog 73 av:=ah (z:=.nilFunc) ⟨_,Tryz.underlying73,rfl⟩
def Ng:TI:=⟨.aN 81,1,24,[.val (.slice none 0 0)]⟩
theorem afD:Ng.bytes=24:=rfl
theorem abm:aD Tryz.prog 74 Ng:=ah (z:=(.slice none 0 0)) (by kernel_rfl:Tryz.prog.underlying 74=some (.slice 81))
theorem abn:aD Tryz.prog 75 av:=ah (z:=.nilFunc) ⟨_,Tryz.underlying75,rfl⟩
theorem abo:aD Tryz.prog 76 av:=ah (z:=.nilFunc) ⟨_,Tryz.underlying76,rfl⟩
def Nh:TI:=⟨.aN 3,1,24,[.val (.slice none 0 0)]⟩
theorem afE:Nh.bytes=24:=rfl
theorem abp:aD Tryz.prog 77 Nh:=ah (z:=(.slice none 0 0)) (by kernel_rfl:Tryz.prog.underlying 77=some (.slice 3))
def abq:TI:=⟨.agg [(0,4,1),(1,77,1)],2,32,[.val (.bool false),.val (.slice none 0 0)]⟩
theorem abr:aD Tryz.prog 78 abq:=ah (z:=.agg #[(.bool false),(.slice none 0 0)]) ⟨aB,aB,aB⟩
def Ni:TI:=⟨.agg [(0,4,1),(1,77,1)],2,32,[.val (.bool false),.val (.slice none 0 0)]⟩
theorem afF:Ni.bytes=32:=rfl
theorem abt:aD Tryz.prog 79 Ni:=ah (z:=.agg #[(.bool false),(.slice none 0 0)]) ⟨aB,aB,aB⟩
def abu:TI:=⟨.agg [(0,79,2),(2,77,1)],3,56,[.val (.bool false),.val (.slice none 0 0),.val (.slice none 0 0)]⟩
theorem abv:aD Tryz.prog 80 abu:=ah (z:=.agg #[(.bool false),(.slice none 0 0),(.slice none 0 0)]) ⟨aB,aB,aB⟩
def Nj:TI:=⟨.agg [(0,79,2),(2,77,1)],3,56,[.val (.bool false),.val (.slice none 0 0),.val (.slice none 0 0)]⟩
theorem afG:Nj.bytes=56:=rfl
theorem abw:aD Tryz.prog 81 Nj:=ah (z:=.agg #[(.bool false),(.slice none 0 0),(.slice none 0 0)]) ⟨aB,aB,aB⟩
theorem abx:aD Tryz.prog 83 av:=ah (z:=.nilFunc) ⟨_,Tryz.underlying83,rfl⟩
theorem aby:aD Tryz.prog 84 av:=ah (z:=.nilFunc) ⟨_,Tryz.underlying84,rfl⟩
theorem abz:aD Tryz.prog 86 av:=ah (z:=.nilFunc) ⟨_,Tryz.underlying86,rfl⟩
theorem abA:aD Tryz.prog 87 av:=ah (z:=.nilFunc) ⟨_,Tryz.underlying87,rfl⟩
theorem abB:aD Tryz.prog 88 av:=ah (z:=.nilFunc) ⟨_,Tryz.underlying88,rfl⟩
def abC:TI:=⟨.aN 2,1,24,[.val (.slice none 0 0)]⟩
theorem abD:aD Tryz.prog 89 abC:=ah (z:=(.slice none 0 0)) (by kernel_rfl:Tryz.prog.underlying 89=some (.slice 2))
def abE:TI:=⟨.agg [(0,5,1),(1,5,1),(2,89,1)],3,32,[.val (.int .u8 0),.val (.int .u8 0),.val (.slice none 0 0)]⟩
theorem abF:aD Tryz.prog 90 abE:=ah (z:=.agg #[(.int .u8 0),(.int .u8 0),(.slice none 0 0)]) ⟨aB,aB,aB⟩
def abG:TI:=⟨.agg [(0,5,1),(1,5,1),(2,89,1)],3,32,[.val (.int .u8 0),.val (.int .u8 0),.val (.slice none 0 0)]⟩
theorem abH:aD Tryz.prog 91 abG:=ah (z:=.agg #[(.int .u8 0),(.int .u8 0),(.slice none 0 0)]) ⟨aB,aB,aB⟩
theorem abI:aD Tryz.prog 92 av:=ah (z:=.nilFunc) ⟨_,Tryz.underlying92,rfl⟩
theorem abJ:aD Tryz.prog 93 av:=ah (z:=.nilFunc) ⟨_,Tryz.underlying93,rfl⟩
theorem abK:aD Tryz.prog 94 av:=ah (z:=.nilFunc) ⟨_,Tryz.underlying94,rfl⟩
theorem abL:aD Tryz.prog 95 av:=ah (z:=.nilFunc) ⟨_,Tryz.underlying95,rfl⟩
theorem abM:aD Tryz.prog 96 av:=ah (z:=.nilFunc) ⟨_,Tryz.underlying96,rfl⟩
theorem abN:aD Tryz.prog 97 av:=ah (z:=.nilFunc) ⟨_,Tryz.underlying97,rfl⟩
theorem abO:aD Tryz.prog 98 av:=ah (z:=.nilFunc) ⟨_,Tryz.underlying98,rfl⟩
theorem abP:aD Tryz.prog 99 av:=ah (z:=.nilFunc) ⟨_,Tryz.underlying99,rfl⟩
theorem Sf:aD Tryz.prog 100 av:=ah (z:=.nilFunc) ⟨_,Tryz.underlying100,rfl⟩
theorem Sg:aD Tryz.prog 101 av:=ah (z:=.nilFunc) ⟨_,Tryz.underlying101,rfl⟩
theorem Sh:aD Tryz.prog 102 av:=ah (z:=.nilFunc) ⟨_,Tryz.underlying102,rfl⟩
theorem Si:aD Tryz.prog 103 av:=ah (z:=.nilFunc) ⟨_,Tryz.underlying103,rfl⟩
theorem Sj:aD Tryz.prog 104 av:=ah (z:=.nilFunc) ⟨_,Tryz.underlying104,rfl⟩
theorem Sk:aD Tryz.prog 105 av:=ah (z:=.nilFunc) ⟨_,Tryz.underlying105,rfl⟩
theorem Sl:aD Tryz.prog 107 av:=ah (z:=.nilFunc) ⟨_,Tryz.underlying107,rfl⟩
theorem Sn:aD Tryz.prog 108 av:=ah (z:=.nilFunc) ⟨_,Tryz.underlying108,rfl⟩
theorem Sp:aD Tryz.prog 110 av:=ah (z:=.nilFunc) ⟨_,Tryz.underlying110,rfl⟩
theorem Sq:aD Tryz.prog 111 av:=ah (z:=.nilFunc) ⟨_,Tryz.underlying111,rfl⟩
def PN:TI:=⟨.agg [(0,3,1),(1,70,1)],2,32,[.val (.int .i64 0),.val (.slice none 0 0)]⟩
theorem Sr:aD Tryz.prog 112 PN:=ah (z:=.agg #[(.int .i64 0),(.slice none 0 0)]) ⟨aB,aB,aB⟩
def PO:TI:=⟨.agg [(0,3,1),(1,70,1)],2,32,[.val (.int .i64 0),.val (.slice none 0 0)]⟩
theorem Ss:aD Tryz.prog 113 PO:=ah (z:=.agg #[(.int .i64 0),(.slice none 0 0)]) ⟨aB,aB,aB⟩
theorem Su:aD Tryz.prog 114 av:=ah (z:=.nilFunc) ⟨_,Tryz.underlying114,rfl⟩
theorem Sv:aD Tryz.prog 115 av:=ah (z:=.nilFunc) ⟨_,Tryz.underlying115,rfl⟩
theorem Sw:aD Tryz.prog 116 av:=ah (z:=.nilFunc) ⟨_,Tryz.underlying116,rfl⟩
theorem Sy:aD Tryz.prog 117 av:=ah (z:=.nilFunc) ⟨_,Tryz.underlying117,rfl⟩
theorem Sz:aD Tryz.prog 118 av:=ah (z:=.nilFunc) ⟨_,Tryz.underlying118,rfl⟩
theorem SA:aD Tryz.prog 119 av:=ah (z:=.nilFunc) ⟨_,Tryz.underlying119,rfl⟩
theorem SB:aD Tryz.prog 120 av:=ah (z:=.nilFunc) ⟨_,Tryz.underlying120,rfl⟩
theorem SC:aD Tryz.prog 121 av:=ah (z:=.nilFunc) ⟨_,Tryz.underlying121,rfl⟩
theorem SE:aD Tryz.prog 122 av:=ah (z:=.nilFunc) ⟨_,Tryz.underlying122,rfl⟩
theorem SF:aD Tryz.prog 123 av:=ah (z:=.nilFunc) ⟨_,Tryz.underlying123,rfl⟩
theorem SG:aD Tryz.prog 125 av:=ah (z:=.nilFunc) ⟨_,Tryz.underlying125,rfl⟩
theorem SH:aD Tryz.prog 126 av:=ah (z:=.nilFunc) ⟨_,Tryz.underlying126,rfl⟩
theorem SI:aD Tryz.prog 127 av:=ah (z:=.nilFunc) ⟨_,Tryz.underlying127,rfl⟩
theorem SJ:aD Tryz.prog 128 av:=ah (z:=.nilFunc) ⟨_,Tryz.underlying128,rfl⟩
theorem SK:aD Tryz.prog 129 av:=ah (z:=.nilFunc) ⟨_,Tryz.underlying129,rfl⟩
theorem SL:aD Tryz.prog 130 av:=ah (z:=.nilFunc) ⟨_,Tryz.underlying130,rfl⟩
theorem SM:aD Tryz.prog 131 av:=ah (z:=.nilFunc) ⟨_,Tryz.underlying131,rfl⟩
theorem SN:aD Tryz.prog 132 av:=ah (z:=.nilFunc) ⟨_,Tryz.underlying132,rfl⟩
theorem SO:aD Tryz.prog 133 av:=ah (z:=.nilFunc) ⟨_,Tryz.underlying133,rfl⟩
theorem SP:aD Tryz.prog 134 av:=ah (z:=.nilFunc) ⟨_,Tryz.underlying134,rfl⟩
theorem SQ:aD Tryz.prog 135 av:=ah (z:=.nilFunc) ⟨_,Tryz.underlying135,rfl⟩
theorem SR:aD Tryz.prog 136 av:=ah (z:=.nilFunc) ⟨_,Tryz.underlying136,rfl⟩
theorem SS:aD Tryz.prog 137 av:=ah (z:=.nilFunc) ⟨_,Tryz.underlying137,rfl⟩
theorem SU:aD Tryz.prog 138 av:=ah (z:=.nilFunc) ⟨_,Tryz.underlying138,rfl⟩
theorem SX:aD Tryz.prog 139 av:=ah (z:=.nilFunc) ⟨_,Tryz.underlying139,rfl⟩
theorem SY:aD Tryz.prog 140 av:=ah (z:=.nilFunc) ⟨_,Tryz.underlying140,rfl⟩
theorem SZ:aD Tryz.prog 141 av:=ah (z:=.nilFunc) ⟨_,Tryz.underlying141,rfl⟩
def PQ:TI:=⟨.aN 40,1,24,[.val (.slice none 0 0)]⟩
theorem S0:aD Tryz.prog 142 PQ:=ah (z:=(.slice none 0 0)) (by kernel_rfl:Tryz.prog.underlying 142=some (.slice 40))
theorem S1:aD Tryz.prog 143 av:=ah (z:=.nilFunc) ⟨_,Tryz.underlying143,rfl⟩
theorem S2:aD Tryz.prog 144 av:=ah (z:=.nilFunc) ⟨_,Tryz.underlying144,rfl⟩
theorem S3:aD Tryz.prog 145 av:=ah (z:=.nilFunc) ⟨_,Tryz.underlying145,rfl⟩
theorem S4:aD Tryz.prog 146 av:=ah (z:=.nilFunc) ⟨_,Tryz.underlying146,rfl⟩
theorem S5:aD Tryz.prog 147 av:=ah (z:=.nilFunc) ⟨_,Tryz.underlying147,rfl⟩
theorem S6:aD Tryz.prog 148 av:=ah (z:=.nilFunc) ⟨_,Tryz.underlying148,rfl⟩
theorem S7:aD Tryz.prog 149 av:=ah (z:=.nilFunc) ⟨_,Tryz.underlying149,rfl⟩
theorem S8:aD Tryz.prog 150 av:=ah (z:=.nilFunc) ⟨_,Tryz.underlying150,rfl⟩
theorem S9:aD Tryz.prog 151 av:=ah (z:=.nilFunc) ⟨_,Tryz.underlying151,rfl⟩
theorem Ua:aD Tryz.prog 152 av:=ah (z:=.nilFunc) ⟨_,Tryz.underlying152,rfl⟩
theorem Ub:aD Tryz.prog 153 av:=ah (z:=.nilFunc) ⟨_,Tryz.underlying153,rfl⟩
theorem Uc:aD Tryz.prog 155 av:=ah (z:=.nilFunc) ⟨_,Tryz.underlying155,rfl⟩
theorem Ud:aD Tryz.prog 157 av:=ah (z:=.nilFunc) ⟨_,Tryz.underlying157,rfl⟩
theorem Ue:aD Tryz.prog 159 av:=ah (z:=.nilFunc) ⟨_,Tryz.underlying159,rfl⟩
theorem Uf:aD Tryz.prog 160 av:=ah (z:=.nilFunc) ⟨_,Tryz.underlying160,rfl⟩
theorem Ug:aD Tryz.prog 161 av:=ah (z:=.nilFunc) ⟨_,Tryz.underlying161,rfl⟩
theorem Uh:aD Tryz.prog 162 av:=ah (z:=.nilFunc) ⟨_,Tryz.underlying162,rfl⟩
theorem Ui:aD Tryz.prog 163 av:=ah (z:=.nilFunc) ⟨_,Tryz.underlying163,rfl⟩
theorem Uj:aD Tryz.prog 164 av:=ah (z:=.nilFunc) ⟨_,Tryz.underlying164,rfl⟩
theorem Uk:aD Tryz.prog 165 av:=ah (z:=.nilFunc) ⟨_,Tryz.underlying165,rfl⟩
def PR:TI:=⟨.aN 54,1,24,[.val (.slice none 0 0)]⟩
theorem Ul:aD Tryz.prog 166 PR:=ah (z:=(.slice none 0 0)) (by kernel_rfl:Tryz.prog.underlying 166=some (.slice 54))
theorem Um:aD Tryz.prog 168 av:=ah (z:=.nilFunc) ⟨_,Tryz.underlying168,rfl⟩
theorem Un:aD Tryz.prog 169 av:=ah (z:=.nilFunc) ⟨_,Tryz.underlying169,rfl⟩
theorem Uo:aD Tryz.prog 170 av:=ah (z:=.nilFunc) ⟨_,Tryz.underlying170,rfl⟩
def PS:TI:=⟨.agg [(0,54,1),(1,166,1)],2,48,[.val (.slice none 0 0),.val (.slice none 0 0)]⟩
theorem Uq:aD Tryz.prog 171 PS:=ah (z:=.agg #[(.slice none 0 0),(.slice none 0 0)]) ⟨aB,aB,aB⟩
def PT:TI:=⟨.agg [(0,54,1),(1,166,1)],2,48,[.val (.slice none 0 0),.val (.slice none 0 0)]⟩
theorem Ur:aD Tryz.prog 172 PT:=ah (z:=.agg #[(.slice none 0 0),(.slice none 0 0)]) ⟨aB,aB,aB⟩
theorem Us:aD Tryz.prog 174 av:=ah (z:=.nilFunc) ⟨_,Tryz.underlying174,rfl⟩
theorem Ut:aD Tryz.prog 175 av:=ah (z:=.nilFunc) ⟨_,Tryz.underlying175,rfl⟩
theorem Uu:aD Tryz.prog 176 av:=ah (z:=.nilFunc) ⟨_,Tryz.underlying176,rfl⟩
theorem Uv:aD Tryz.prog 177 av:=ah (z:=.nilFunc) ⟨_,Tryz.underlying177,rfl⟩
def PU:TI:=⟨.aN 22,1,24,[.val (.slice none 0 0)]⟩
theorem Uw:aD Tryz.prog 178 PU:=ah (z:=(.slice none 0 0)) (by kernel_rfl:Tryz.prog.underlying 178=some (.slice 22))
theorem Ux:aD Tryz.prog 179 av:=ah (z:=.nilFunc) ⟨_,Tryz.underlying179,rfl⟩
theorem Uy:aD Tryz.prog 180 av:=ah (z:=.nilFunc) ⟨_,Tryz.underlying180,rfl⟩
theorem Uz:aD Tryz.prog 181 av:=ah (z:=.nilFunc) ⟨_,Tryz.underlying181,rfl⟩
theorem UA:aD Tryz.prog 182 av:=ah (z:=.nilFunc) ⟨_,Tryz.underlying182,rfl⟩
theorem UB:aD Tryz.prog 184 av:=ah (z:=.nilFunc) ⟨_,Tryz.underlying184,rfl⟩
theorem UC:aD Tryz.prog 185 av:=ah (z:=.nilFunc) ⟨_,Tryz.underlying185,rfl⟩
def PV:TI:=⟨.ptr 190,1,8,[.val (.pointer none)]⟩
theorem UD:aD Tryz.prog 186 PV:=ah (z:=(.pointer none)) (by kernel_rfl:Tryz.prog.underlying 186=some (.pointer 190))
theorem UE:aD Tryz.prog 187 av:=ah (z:=.nilFunc) ⟨_,Tryz.underlying187,rfl⟩
def PW:TI:=⟨.aN 36,1,24,[.val (.slice none 0 0)]⟩
theorem UF:aD Tryz.prog 188 PW:=ah (z:=(.slice none 0 0)) (by kernel_rfl:Tryz.prog.underlying 188=some (.slice 36))
def PX:TI:=⟨.agg [(0,3,1),(1,188,1)],2,32,[.val (.int .i64 0),.val (.slice none 0 0)]⟩
theorem UG:aD Tryz.prog 189 PX:=ah (z:=.agg #[(.int .i64 0),(.slice none 0 0)]) ⟨aB,aB,aB⟩
def PY:TI:=⟨.agg [(0,3,1),(1,188,1)],2,32,[.val (.int .i64 0),.val (.slice none 0 0)]⟩
theorem UH:aD Tryz.prog 190 PY:=ah (z:=.agg #[(.int .i64 0),(.slice none 0 0)]) ⟨aB,aB,aB⟩
theorem UI:aD Tryz.prog 191 av:=ah (z:=.nilFunc) ⟨_,Tryz.underlying191,rfl⟩
theorem UJ:aD Tryz.prog 192 av:=ah (z:=.nilFunc) ⟨_,Tryz.underlying192,rfl⟩
theorem UK:aD Tryz.prog 193 av:=ah (z:=.nilFunc) ⟨_,Tryz.underlying193,rfl⟩
theorem UL:aD Tryz.prog 194 av:=ah (z:=.nilFunc) ⟨_,Tryz.underlying194,rfl⟩
theorem UM:aD Tryz.prog 195 av:=ah (z:=.nilFunc) ⟨_,Tryz.underlying195,rfl⟩
def PZ:TI:=⟨.arr 3 3,3,24,[.val (.int .i64 0),.val (.int .i64 0),.val (.int .i64 0)]⟩
theorem UN:aD Tryz.prog 196 PZ:=ah (z:=.agg #[(.int .i64 0),(.int .i64 0),(.int .i64 0)]) (by kernel_rfl:Tryz.prog.underlying 196=some (.array 3 3))
theorem UO:aD Tryz.prog 197 av:=ah (z:=.nilFunc) ⟨_,Tryz.underlying197,rfl⟩
theorem UP:aD Tryz.prog 198 av:=ah (z:=.nilFunc) ⟨_,Tryz.underlying198,rfl⟩
theorem UQ:aD Tryz.prog 199 av:=ah (z:=.nilFunc) ⟨_,Tryz.underlying199,rfl⟩
theorem UR:aD Tryz.prog 200 av:=ah (z:=.nilFunc) ⟨_,Tryz.underlying200,rfl⟩
theorem US:aD Tryz.prog 201 av:=ah (z:=.nilFunc) ⟨_,Tryz.underlying201,rfl⟩
theorem UT:aD Tryz.prog 202 av:=ah (z:=.nilFunc) ⟨_,Tryz.underlying202,rfl⟩
theorem UU:aD Tryz.prog 203 av:=ah (z:=.nilFunc) ⟨_,Tryz.underlying203,rfl⟩
theorem UW:aD Tryz.prog 204 av:=ah (z:=.nilFunc) ⟨_,Tryz.underlying204,rfl⟩
def P0:TI:=⟨.aN 50,1,24,[.val (.slice none 0 0)]⟩
theorem UX:aD Tryz.prog 205 P0:=ah (z:=(.slice none 0 0)) (by kernel_rfl:Tryz.prog.underlying 205=some (.slice 50))
def P3:TI:=⟨.agg [(0,3,1),(1,3,1),(2,205,1)],3,40,[.val (.int .i64 0),.val (.int .i64 0),.val (.slice none 0 0)]⟩
theorem UY:aD Tryz.prog 206 P3:=ah (z:=.agg #[(.int .i64 0),(.int .i64 0),(.slice none 0 0)]) ⟨aB,aB,aB⟩
def P4:TI:=⟨.agg [(0,3,1),(1,3,1),(2,205,1)],3,40,[.val (.int .i64 0),.val (.int .i64 0),.val (.slice none 0 0)]⟩
theorem UZ:aD Tryz.prog 207 P4:=ah (z:=.agg #[(.int .i64 0),(.int .i64 0),(.slice none 0 0)]) ⟨aB,aB,aB⟩
theorem U0:aD Tryz.prog 209 av:=ah (z:=.nilFunc) ⟨_,Tryz.underlying209,rfl⟩
theorem U1:aD Tryz.prog 210 av:=ah (z:=.nilFunc) ⟨_,Tryz.underlying210,rfl⟩
theorem U2:aD Tryz.prog 211 av:=ah (z:=.nilFunc) ⟨_,Tryz.underlying211,rfl⟩
theorem U3:aD Tryz.prog 213 av:=ah (z:=.nilFunc) ⟨_,Tryz.underlying213,rfl⟩
theorem U4:aD Tryz.prog 214 av:=ah (z:=.nilFunc) ⟨_,Tryz.underlying214,rfl⟩
theorem U5:aD Tryz.prog 215 av:=ah (z:=.nilFunc) ⟨_,Tryz.underlying215,rfl⟩
theorem U6:aD Tryz.prog 216 av:=ah (z:=.nilFunc) ⟨_,Tryz.underlying216,rfl⟩
theorem U7:aD Tryz.prog 217 av:=ah (z:=.nilFunc) ⟨_,Tryz.underlying217,rfl⟩
theorem U8:aD Tryz.prog 218 av:=ah (z:=.nilFunc) ⟨_,Tryz.underlying218,rfl⟩
theorem U9:aD Tryz.prog 219 av:=ah (z:=.nilFunc) ⟨_,Tryz.underlying219,rfl⟩
theorem Va:aD Tryz.prog 220 av:=ah (z:=.nilFunc) ⟨_,Tryz.underlying220,rfl⟩
theorem Vb:aD Tryz.prog 221 av:=ah (z:=.nilFunc) ⟨_,Tryz.underlying221,rfl⟩
theorem Vc:aD Tryz.prog 222 av:=ah (z:=.nilFunc) ⟨_,Tryz.underlying222,rfl⟩
theorem Vd:aD Tryz.prog 223 av:=ah (z:=.nilFunc) ⟨_,Tryz.underlying223,rfl⟩
theorem Ve:aD Tryz.prog 224 av:=ah (z:=.nilFunc) ⟨_,Tryz.underlying224,rfl⟩
theorem Vf:aD Tryz.prog 226 av:=ah (z:=.nilFunc) ⟨_,Tryz.underlying226,rfl⟩
theorem Vg:aD Tryz.prog 227 av:=ah (z:=.nilFunc) ⟨_,Tryz.underlying227,rfl⟩
def P5:TI:=⟨.aN 46,1,24,[.val (.slice none 0 0)]⟩
theorem Vh:aD Tryz.prog 228 P5:=ah (z:=(.slice none 0 0)) (by kernel_rfl:Tryz.prog.underlying 228=some (.slice 46))
theorem Vi:aD Tryz.prog 230 av:=ah (z:=.nilFunc) ⟨_,Tryz.underlying230,rfl⟩
theorem Vj:aD Tryz.prog 231 av:=ah (z:=.nilFunc) ⟨_,Tryz.underlying231,rfl⟩
theorem Vk:aD Tryz.prog 232 av:=ah (z:=.nilFunc) ⟨_,Tryz.underlying232,rfl⟩
theorem Vl:aD Tryz.prog 233 av:=ah (z:=.nilFunc) ⟨_,Tryz.underlying233,rfl⟩
theorem Vm:aD Tryz.prog 234 av:=ah (z:=.nilFunc) ⟨_,Tryz.underlying234,rfl⟩
theorem Vn:aD Tryz.prog 235 av:=ah (z:=.nilFunc) ⟨_,Tryz.underlying235,rfl⟩
theorem Vo:aD Tryz.prog 236 av:=ah (z:=.nilFunc) ⟨_,Tryz.underlying236,rfl⟩
theorem Vp:aD Tryz.prog 237 av:=ah (z:=.nilFunc) ⟨_,Tryz.underlying237,rfl⟩
theorem Vq:aD Tryz.prog 238 av:=ah (z:=.nilFunc) ⟨_,Tryz.underlying238,rfl⟩
theorem Vr:aD Tryz.prog 239 av:=ah (z:=.nilFunc) ⟨_,Tryz.underlying239,rfl⟩
theorem Vs:aD Tryz.prog 241 av:=ah (z:=.nilFunc) ⟨_,Tryz.underlying241,rfl⟩
theorem Vt:aD Tryz.prog 242 av:=ah (z:=.nilFunc) ⟨_,Tryz.underlying242,rfl⟩
theorem Vu:aD Tryz.prog 243 av:=ah (z:=.nilFunc) ⟨_,Tryz.underlying243,rfl⟩
theorem Vv:aD Tryz.prog 244 av:=ah (z:=.nilFunc) ⟨_,Tryz.underlying244,rfl⟩
theorem Vw:aD Tryz.prog 245 av:=ah (z:=.nilFunc) ⟨_,Tryz.underlying245,rfl⟩
def P6:TI:=⟨.aN 27,1,24,[.val (.slice none 0 0)]⟩
theorem Vx:aD Tryz.prog 246 P6:=ah (z:=(.slice none 0 0)) (by kernel_rfl:Tryz.prog.underlying 246=some (.slice 27))
theorem Vy:aD Tryz.prog 247 av:=ah (z:=.nilFunc) ⟨_,Tryz.underlying247,rfl⟩
theorem Vz:aD Tryz.prog 248 av:=ah (z:=.nilFunc) ⟨_,Tryz.underlying248,rfl⟩
theorem VA:aD Tryz.prog 249 av:=ah (z:=.nilFunc) ⟨_,Tryz.underlying249,rfl⟩
theorem VB:aD Tryz.prog 250 av:=ah (z:=.nilFunc) ⟨_,Tryz.underlying250,rfl⟩
theorem VC:aD Tryz.prog 251 av:=ah (z:=.nilFunc) ⟨_,Tryz.underlying251,rfl⟩
theorem VD:aD Tryz.prog 252 av:=ah (z:=.nilFunc) ⟨_,Tryz.underlying252,rfl⟩
theorem VE:aD Tryz.prog 253 av:=ah (z:=.nilFunc) ⟨_,Tryz.underlying253,rfl⟩
theorem VF:aD Tryz.prog 254 av:=ah (z:=.nilFunc) ⟨_,Tryz.underlying254,rfl⟩
theorem VG:aD Tryz.prog 255 av:=ah (z:=.nilFunc) ⟨_,Tryz.underlying255,rfl⟩
theorem VH:aD Tryz.prog 256 av:=ah (z:=.nilFunc) ⟨_,Tryz.underlying256,rfl⟩
theorem VI:aD Tryz.prog 257 av:=ah (z:=.nilFunc) ⟨_,Tryz.underlying257,rfl⟩
theorem VJ:aD Tryz.prog 258 av:=ah (z:=.nilFunc) ⟨_,Tryz.underlying258,rfl⟩
theorem VK:aD Tryz.prog 259 av:=ah (z:=.nilFunc) ⟨_,Tryz.underlying259,rfl⟩
theorem VL:aD Tryz.prog 260 av:=ah (z:=.nilFunc) ⟨_,Tryz.underlying260,rfl⟩
theorem VM:aD Tryz.prog 261 av:=ah (z:=.nilFunc) ⟨_,Tryz.underlying261,rfl⟩
def P7:TI:=⟨.aN 9,1,24,[.val (.slice none 0 0)]⟩
theorem VN:aD Tryz.prog 262 P7:=ah (z:=(.slice none 0 0)) (by kernel_rfl:Tryz.prog.underlying 262=some (.slice 9))
theorem VO:aD Tryz.prog 263 av:=ah (z:=.nilFunc) ⟨_,Tryz.underlying263,rfl⟩
def P8:TI:=⟨.ptr 269,1,8,[.val (.pointer none)]⟩
theorem VP:aD Tryz.prog 264 P8:=ah (z:=(.pointer none)) (by kernel_rfl:Tryz.prog.underlying 264=some (.pointer 269))
theorem VQ:aD Tryz.prog 265 av:=ah (z:=.nilFunc) ⟨_,Tryz.underlying265,rfl⟩
theorem VR:aD Tryz.prog 266 av:=ah (z:=.nilFunc) ⟨_,Tryz.underlying266,rfl⟩
theorem VS:aD Tryz.prog 267 av:=ah (z:=.nilFunc) ⟨_,Tryz.underlying267,rfl⟩
def P9:TI:=⟨.agg [(0,188,1),(1,3,1),(2,33,1),(3,52,5)],8,112,[.val (.slice none 0 0),.val (.int .i64 0),.val (.slice none 0 0),.frac 0]⟩
theorem VT:aD Tryz.prog 268 P9:=ah (z:=.agg #[(.slice none 0 0),(.int .i64 0),(.slice none 0 0),(.int .u64 0),(.string .empty),(.bool false),(.int .u64 0),(.string .empty)]) ⟨aB,aB,aB⟩
def Qa:TI:=⟨.agg [(0,188,1),(1,3,1),(2,33,1),(3,52,5)],8,112,[.val (.slice none 0 0),.val (.int .i64 0),.val (.slice none 0 0),.frac 0]⟩
theorem VU:aD Tryz.prog 269 Qa:=ah (z:=.agg #[(.slice none 0 0),(.int .i64 0),(.slice none 0 0),(.int .u64 0),(.string .empty),(.bool false),(.int .u64 0),(.string .empty)]) ⟨aB,aB,aB⟩
theorem VV:aD Tryz.prog 270 av:=ah (z:=.nilFunc) ⟨_,Tryz.underlying270,rfl⟩
theorem VW:aD Tryz.prog 271 av:=ah (z:=.nilFunc) ⟨_,Tryz.underlying271,rfl⟩
theorem VX:aD Tryz.prog 272 av:=ah (z:=.nilFunc) ⟨_,Tryz.underlying272,rfl⟩
theorem VY:aD Tryz.prog 273 av:=ah (z:=.nilFunc) ⟨_,Tryz.underlying273,rfl⟩
theorem VZ:aD Tryz.prog 274 av:=ah (z:=.nilFunc) ⟨_,Tryz.underlying274,rfl⟩
theorem V0:aD Tryz.prog 275 av:=ah (z:=.nilFunc) ⟨_,Tryz.underlying275,rfl⟩
theorem V1:aD Tryz.prog 276 av:=ah (z:=.nilFunc) ⟨_,Tryz.underlying276,rfl⟩
theorem V3:aD Tryz.prog 277 av:=ah (z:=.nilFunc) ⟨_,Tryz.underlying277,rfl⟩
theorem V4:aD Tryz.prog 279 av:=ah (z:=.nilFunc) ⟨_,Tryz.underlying279,rfl⟩
theorem V5:aD Tryz.prog 280 av:=ah (z:=.nilFunc) ⟨_,Tryz.underlying280,rfl⟩
theorem V6:aD Tryz.prog 281 av:=ah (z:=.nilFunc) ⟨_,Tryz.underlying281,rfl⟩
theorem V7:aD Tryz.prog 282 av:=ah (z:=.nilFunc) ⟨_,Tryz.underlying282,rfl⟩
theorem V8:aD Tryz.prog 283 av:=ah (z:=.nilFunc) ⟨_,Tryz.underlying283,rfl⟩
theorem V9:aD Tryz.prog 284 av:=ah (z:=.nilFunc) ⟨_,Tryz.underlying284,rfl⟩
theorem Wa:aD Tryz.prog 285 av:=ah (z:=.nilFunc) ⟨_,Tryz.underlying285,rfl⟩
theorem Wb:aD Tryz.prog 286 av:=ah (z:=.nilFunc) ⟨_,Tryz.underlying286,rfl⟩
theorem Wc:aD Tryz.prog 287 av:=ah (z:=.nilFunc) ⟨_,Tryz.underlying287,rfl⟩
theorem Wd:aD Tryz.prog 288 av:=ah (z:=.nilFunc) ⟨_,Tryz.underlying288,rfl⟩
theorem We:aD Tryz.prog 289 av:=ah (z:=.nilFunc) ⟨_,Tryz.underlying289,rfl⟩
theorem Wf:aD Tryz.prog 290 av:=ah (z:=.nilFunc) ⟨_,Tryz.underlying290,rfl⟩
theorem Wg:aD Tryz.prog 291 av:=ah (z:=.nilFunc) ⟨_,Tryz.underlying291,rfl⟩
def Qb:TI:=⟨.aN 91,1,24,[.val (.slice none 0 0)]⟩
theorem Wh:aD Tryz.prog 292 Qb:=ah (z:=(.slice none 0 0)) (by kernel_rfl:Tryz.prog.underlying 292=some (.slice 91))
def Qc:TI:=⟨.agg [(0,207,3),(3,50,3),(6,3,1)],7,80,[.val (.int .i64 0),.val (.int .i64 0),.val (.slice none 0 0),.int 0,.val (.int .i64 0)]⟩
theorem Wi:aD Tryz.prog 293 Qc:=ah (z:=.agg #[(.int .i64 0),(.int .i64 0),(.slice none 0 0),(.int .u64 0),(.string .empty),(.bool false),(.int .i64 0)]) ⟨aB,aB,aB⟩
def Qd:TI:=⟨.agg [(0,207,3),(3,50,3),(6,3,1)],7,80,[.val (.int .i64 0),.val (.int .i64 0),.val (.slice none 0 0),.int 0,.val (.int .i64 0)]⟩
theorem Wj:aD Tryz.prog 294 Qd:=ah (z:=.agg #[(.int .i64 0),(.int .i64 0),(.slice none 0 0),(.int .u64 0),(.string .empty),(.bool false),(.int .i64 0)]) ⟨aB,aB,aB⟩
theorem Wl:aD Tryz.prog 295 av:=ah (z:=.nilFunc) ⟨_,Tryz.underlying295,rfl⟩
theorem Wm:aD Tryz.prog 296 av:=ah (z:=.nilFunc) ⟨_,Tryz.underlying296,rfl⟩
theorem Wn:aD Tryz.prog 297 av:=ah (z:=.nilFunc) ⟨_,Tryz.underlying297,rfl⟩
theorem Wo:aD Tryz.prog 298 av:=ah (z:=.nilFunc) ⟨_,Tryz.underlying298,rfl⟩
theorem Wp:aD Tryz.prog 299 av:=ah (z:=.nilFunc) ⟨_,Tryz.underlying299,rfl⟩
theorem Wq:aD Tryz.prog 300 av:=ah (z:=.nilFunc) ⟨_,Tryz.underlying300,rfl⟩
theorem Wr:aD Tryz.prog 301 av:=ah (z:=.nilFunc) ⟨_,Tryz.underlying301,rfl⟩
theorem Ws:aD Tryz.prog 302 av:=ah (z:=.nilFunc) ⟨_,Tryz.underlying302,rfl⟩
theorem Wt:aD Tryz.prog 303 av:=ah (z:=.nilFunc) ⟨_,Tryz.underlying303,rfl⟩
theorem Wu:aD Tryz.prog 304 av:=ah (z:=.nilFunc) ⟨_,Tryz.underlying304,rfl⟩
theorem Wv:aD Tryz.prog 305 av:=ah (z:=.nilFunc) ⟨_,Tryz.underlying305,rfl⟩
theorem Ww:aD Tryz.prog 306 av:=ah (z:=.nilFunc) ⟨_,Tryz.underlying306,rfl⟩
theorem Wx:aD Tryz.prog 307 av:=ah (z:=.nilFunc) ⟨_,Tryz.underlying307,rfl⟩
theorem Wy:aD Tryz.prog 308 av:=ah (z:=.nilFunc) ⟨_,Tryz.underlying308,rfl⟩
theorem Wz:aD Tryz.prog 309 av:=ah (z:=.nilFunc) ⟨_,Tryz.underlying309,rfl⟩
theorem WA:aD Tryz.prog 310 av:=ah (z:=.nilFunc) ⟨_,Tryz.underlying310,rfl⟩
theorem WB:aD Tryz.prog 311 av:=ah (z:=.nilFunc) ⟨_,Tryz.underlying311,rfl⟩
theorem WC:aD Tryz.prog 313 av:=ah (z:=.nilFunc) ⟨_,Tryz.underlying313,rfl⟩
theorem WD:aD Tryz.prog 314 av:=ah (z:=.nilFunc) ⟨_,Tryz.underlying314,rfl⟩
theorem WE:aD Tryz.prog 315 av:=ah (z:=.nilFunc) ⟨_,Tryz.underlying315,rfl⟩
def Qe:TI:=⟨.aN 23,1,24,[.val (.slice none 0 0)]⟩
theorem WG:aD Tryz.prog 316 Qe:=ah (z:=(.slice none 0 0)) (by kernel_rfl:Tryz.prog.underlying 316=some (.slice 23))
theorem WH:aD Tryz.prog 317 av:=ah (z:=.nilFunc) ⟨_,Tryz.underlying317,rfl⟩
theorem WI:aD Tryz.prog 318 av:=ah (z:=.nilFunc) ⟨_,Tryz.underlying318,rfl⟩
theorem WJ:aD Tryz.prog 319 av:=ah (z:=.nilFunc) ⟨_,Tryz.underlying319,rfl⟩
theorem WK:aD Tryz.prog 320 av:=ah (z:=.nilFunc) ⟨_,Tryz.underlying320,rfl⟩
theorem WM:aD Tryz.prog 322 av:=ah (z:=.nilFunc) ⟨_,Tryz.underlying322,rfl⟩
theorem WN:aD Tryz.prog 323 av:=ah (z:=.nilFunc) ⟨_,Tryz.underlying323,rfl⟩
def Qf:TI:=⟨.aN 4,1,24,[.val (.slice none 0 0)]⟩
theorem WO:aD Tryz.prog 324 Qf:=ah (z:=(.slice none 0 0)) (by kernel_rfl:Tryz.prog.underlying 324=some (.slice 4))
theorem WQ:aD Tryz.prog 326 av:=ah (z:=.nilFunc) ⟨_,Tryz.underlying326,rfl⟩
theorem WR:aD Tryz.prog 327 av:=ah (z:=.nilFunc) ⟨_,Tryz.underlying327,rfl⟩
def Qg:TI:=⟨.aN 38,1,24,[.val (.slice none 0 0)]⟩
theorem WS:aD Tryz.prog 328 Qg:=ah (z:=(.slice none 0 0)) (by kernel_rfl:Tryz.prog.underlying 328=some (.slice 38))
theorem WT:aD Tryz.prog 330 av:=ah (z:=.nilFunc) ⟨_,Tryz.underlying330,rfl⟩
theorem WU:aD Tryz.prog 332 av:=ah (z:=.nilFunc) ⟨_,Tryz.underlying332,rfl⟩
theorem WV:aD Tryz.prog 333 av:=ah (z:=.nilFunc) ⟨_,Tryz.underlying333,rfl⟩
def Qh:TI:=⟨.int .u64,1,8,[.val (.int .u64 0)]⟩
theorem WX:aD Tryz.prog 334 Qh:=ah (z:=(.int .u64 0)) (by kernel_rfl:Tryz.prog.underlying 334=some (.int .u64))
def Qi:TI:=⟨.agg [(0,52,5)],5,56,[.frac 0]⟩
theorem WY:aD Tryz.prog 335 Qi:=ah (z:=.agg #[(.int .u64 0),(.string .empty),(.bool false),(.int .u64 0),(.string .empty)]) ⟨aB,aB,aB⟩
def Qj:TI:=⟨.agg [(0,52,5)],5,56,[.frac 0]⟩
theorem WZ:aD Tryz.prog 336 Qj:=ah (z:=.agg #[(.int .u64 0),(.string .empty),(.bool false),(.int .u64 0),(.string .empty)]) ⟨aB,aB,aB⟩
theorem W1:aD Tryz.prog 337 av:=ah (z:=.nilFunc) ⟨_,Tryz.underlying337,rfl⟩
theorem W2:aD Tryz.prog 338 av:=ah (z:=.nilFunc) ⟨_,Tryz.underlying338,rfl⟩
theorem W3:aD Tryz.prog 339 av:=ah (z:=.nilFunc) ⟨_,Tryz.underlying339,rfl⟩
def Qk:TI:=⟨.ptr 342,1,8,[.val (.pointer none)]⟩
theorem W5:aD Tryz.prog 340 Qk:=ah (z:=(.pointer none)) (by kernel_rfl:Tryz.prog.underlying 340=some (.pointer 342))
def Ql:TI:=⟨.agg [(0,340,1),(1,61,1)],2,32,[.val (.pointer none),.val (.slice none 0 0)]⟩
theorem W6:aD Tryz.prog 341 Ql:=ah (z:=.agg #[(.pointer none),(.slice none 0 0)]) ⟨aB,aB,aB⟩
def Qm:TI:=⟨.agg [(0,340,1),(1,61,1)],2,32,[.val (.pointer none),.val (.slice none 0 0)]⟩
theorem W7:aD Tryz.prog 342 Qm:=ah (z:=.agg #[(.pointer none),(.slice none 0 0)]) ⟨aB,aB,aB⟩
theorem W8:aD Tryz.prog 343 av:=ah (z:=.nilFunc) ⟨_,Tryz.underlying343,rfl⟩
theorem W9:aD Tryz.prog 347 av:=ah (z:=.nilFunc) ⟨_,Tryz.underlying347,rfl⟩
theorem Xa:aD Tryz.prog 348 av:=ah (z:=.nilFunc) ⟨_,Tryz.underlying348,rfl⟩
theorem Xb:aD Tryz.prog 349 av:=ah (z:=.nilFunc) ⟨_,Tryz.underlying349,rfl⟩
theorem Xc:aD Tryz.prog 350 av:=ah (z:=.nilFunc) ⟨_,Tryz.underlying350,rfl⟩
theorem Xd:aD Tryz.prog 352 av:=ah (z:=.nilFunc) ⟨_,Tryz.underlying352,rfl⟩
theorem Xe:aD Tryz.prog 354 av:=ah (z:=.nilFunc) ⟨_,Tryz.underlying354,rfl⟩
theorem Xf:aD Tryz.prog 355 av:=ah (z:=.nilFunc) ⟨_,Tryz.underlying355,rfl⟩
theorem Xg:aD Tryz.prog 357 av:=ah (z:=.nilFunc) ⟨_,Tryz.underlying357,rfl⟩
theorem Xh:aD Tryz.prog 358 av:=ah (z:=.nilFunc) ⟨_,Tryz.underlying358,rfl⟩
theorem Xi:aD Tryz.prog 359 av:=ah (z:=.nilFunc) ⟨_,Tryz.underlying359,rfl⟩
theorem Xj:aD Tryz.prog 360 av:=ah (z:=.nilFunc) ⟨_,Tryz.underlying360,rfl⟩
theorem Xk:aD Tryz.prog 361 av:=ah (z:=.nilFunc) ⟨_,Tryz.underlying361,rfl⟩
theorem Xl:aD Tryz.prog 363 av:=ah (z:=.nilFunc) ⟨_,Tryz.underlying363,rfl⟩
theorem Xm:aD Tryz.prog 364 av:=ah (z:=.nilFunc) ⟨_,Tryz.underlying364,rfl⟩
theorem Xn:aD Tryz.prog 365 av:=ah (z:=.nilFunc) ⟨_,Tryz.underlying365,rfl⟩
theorem Xo:aD Tryz.prog 366 av:=ah (z:=.nilFunc) ⟨_,Tryz.underlying366,rfl⟩
theorem Xp:aD Tryz.prog 367 av:=ah (z:=.nilFunc) ⟨_,Tryz.underlying367,rfl⟩
theorem Xq:aD Tryz.prog 368 av:=ah (z:=.nilFunc) ⟨_,Tryz.underlying368,rfl⟩
theorem Xr:aD Tryz.prog 370 av:=ah (z:=.nilFunc) ⟨_,Tryz.underlying370,rfl⟩
theorem Xs:aD Tryz.prog 372 av:=ah (z:=.nilFunc) ⟨_,Tryz.underlying372,rfl⟩
theorem Xt:aD Tryz.prog 373 av:=ah (z:=.nilFunc) ⟨_,Tryz.underlying373,rfl⟩
theorem Xu:aD Tryz.prog 374 av:=ah (z:=.nilFunc) ⟨_,Tryz.underlying374,rfl⟩
theorem Xv:aD Tryz.prog 375 av:=ah (z:=.nilFunc) ⟨_,Tryz.underlying375,rfl⟩
theorem Xw:aD Tryz.prog 376 av:=ah (z:=.nilFunc) ⟨_,Tryz.underlying376,rfl⟩
theorem Xx:aD Tryz.prog 378 av:=ah (z:=.nilFunc) ⟨_,Tryz.underlying378,rfl⟩
theorem Xy:aD Tryz.prog 379 av:=ah (z:=.nilFunc) ⟨_,Tryz.underlying379,rfl⟩
theorem Xz:aD Tryz.prog 380 av:=ah (z:=.nilFunc) ⟨_,Tryz.underlying380,rfl⟩
def Qn:TI:=⟨.ptr 52,1,8,[.val (.pointer none)]⟩
theorem XA:aD Tryz.prog 381 Qn:=ah (z:=(.pointer none)) (by kernel_rfl:Tryz.prog.underlying 381=some (.pointer 52))
theorem XB:aD Tryz.prog 382 av:=ah (z:=.nilFunc) ⟨_,Tryz.underlying382,rfl⟩
theorem XC:aD Tryz.prog 384 av:=ah (z:=.nilFunc) ⟨_,Tryz.underlying384,rfl⟩
theorem XD:aD Tryz.prog 385 av:=ah (z:=.nilFunc) ⟨_,Tryz.underlying385,rfl⟩
def Qo:TI:=⟨.ptr 336,1,8,[.val (.pointer none)]⟩
theorem XE:aD Tryz.prog 386 Qo:=ah (z:=(.pointer none)) (by kernel_rfl:Tryz.prog.underlying 386=some (.pointer 336))
def Qp:TI:=⟨.ptr 5,1,8,[.val (.pointer none)]⟩
theorem XF:aD Tryz.prog 387 Qp:=ah (z:=(.pointer none)) (by kernel_rfl:Tryz.prog.underlying 387=some (.pointer 5))
theorem XG:aD Tryz.prog 388 av:=ah (z:=.nilFunc) ⟨_,Tryz.underlying388,rfl⟩
theorem XH:aD Tryz.prog 389 av:=ah (z:=.nilFunc) ⟨_,Tryz.underlying389,rfl⟩
theorem XI:aD Tryz.prog 390 av:=ah (z:=.nilFunc) ⟨_,Tryz.underlying390,rfl⟩
theorem XJ:aD Tryz.prog 392 av:=ah (z:=.nilFunc) ⟨_,Tryz.underlying392,rfl⟩
theorem XK:aD Tryz.prog 393 av:=ah (z:=.nilFunc) ⟨_,Tryz.underlying393,rfl⟩
theorem XL:aD Tryz.prog 394 av:=ah (z:=.nilFunc) ⟨_,Tryz.underlying394,rfl⟩
theorem XM:aD Tryz.prog 395 av:=ah (z:=.nilFunc) ⟨_,Tryz.underlying395,rfl⟩
theorem XN:aD Tryz.prog 396 av:=ah (z:=.nilFunc) ⟨_,Tryz.underlying396,rfl⟩
theorem XO:aD Tryz.prog 397 av:=ah (z:=.nilFunc) ⟨_,Tryz.underlying397,rfl⟩
theorem XP:aD Tryz.prog 398 av:=ah (z:=.nilFunc) ⟨_,Tryz.underlying398,rfl⟩
theorem XQ:aD Tryz.prog 399 av:=ah (z:=.nilFunc) ⟨_,Tryz.underlying399,rfl⟩
theorem XR:aD Tryz.prog 401 av:=ah (z:=.nilFunc) ⟨_,Tryz.underlying401,rfl⟩
theorem XS:aD Tryz.prog 402 av:=ah (z:=.nilFunc) ⟨_,Tryz.underlying402,rfl⟩
def Qq:TI:=⟨.arr 24 5,24,24,[.val (.int .u8 0),.val (.int .u8 0),.val (.int .u8 0),.val (.int .u8 0),.val (.int .u8 0),.val (.int .u8 0),.val (.int .u8 0),.val (.int .u8 0),.val (.int .u8 0),.val (.int .u8 0),.val (.int .u8 0),.val (.int .u8 0),.val (.int .u8 0),.val (.int .u8 0),.val (.int .u8 0),.val (.int .u8 0),.val (.int .u8 0),.val (.int .u8 0),.val (.int .u8 0),.val (.int .u8 0),.val (.int .u8 0),.val (.int .u8 0),.val (.int .u8 0),.val (.int .u8 0)]⟩
theorem XT:aD Tryz.prog 403 Qq:=ah (z:=.agg #[(.int .u8 0),(.int .u8 0),(.int .u8 0),(.int .u8 0),(.int .u8 0),(.int .u8 0),(.int .u8 0),(.int .u8 0),(.int .u8 0),(.int .u8 0),(.int .u8 0),(.int .u8 0),(.int .u8 0),(.int .u8 0),(.int .u8 0),(.int .u8 0),(.int .u8 0),(.int .u8 0),(.int .u8 0),(.int .u8 0),(.int .u8 0),(.int .u8 0),(.int .u8 0),(.int .u8 0)]) (by kernel_rfl:Tryz.prog.underlying 403=some (.array 24 5))
theorem XU:aD Tryz.prog 404 av:=ah (z:=.nilFunc) ⟨_,Tryz.underlying404,rfl⟩
theorem XV:aD Tryz.prog 405 av:=ah (z:=.nilFunc) ⟨_,Tryz.underlying405,rfl⟩
theorem XW:aD Tryz.prog 407 av:=ah (z:=.nilFunc) ⟨_,Tryz.underlying407,rfl⟩
theorem XX:aD Tryz.prog 408 av:=ah (z:=.nilFunc) ⟨_,Tryz.underlying408,rfl⟩
theorem XY:aD Tryz.prog 409 av:=ah (z:=.nilFunc) ⟨_,Tryz.underlying409,rfl⟩
theorem XZ:aD Tryz.prog 410 av:=ah (z:=.nilFunc) ⟨_,Tryz.underlying410,rfl⟩
def Qr:TI:=⟨.arr 20 44,20,160,[.val (.int .u64 0),.val (.int .u64 0),.val (.int .u64 0),.val (.int .u64 0),.val (.int .u64 0),.val (.int .u64 0),.val (.int .u64 0),.val (.int .u64 0),.val (.int .u64 0),.val (.int .u64 0),.val (.int .u64 0),.val (.int .u64 0),.val (.int .u64 0),.val (.int .u64 0),.val (.int .u64 0),.val (.int .u64 0),.val (.int .u64 0),.val (.int .u64 0),.val (.int .u64 0),.val (.int .u64 0)]⟩
theorem X0:aD Tryz.prog 411 Qr:=ah (z:=.agg #[(.int .u64 0),(.int .u64 0),(.int .u64 0),(.int .u64 0),(.int .u64 0),(.int .u64 0),(.int .u64 0),(.int .u64 0),(.int .u64 0),(.int .u64 0),(.int .u64 0),(.int .u64 0),(.int .u64 0),(.int .u64 0),(.int .u64 0),(.int .u64 0),(.int .u64 0),(.int .u64 0),(.int .u64 0),(.int .u64 0)]) (by kernel_rfl:Tryz.prog.underlying 411=some (.array 20 44))
def Qs:TI:=⟨.arr 65 5,65,65,[.val (.int .u8 0),.val (.int .u8 0),.val (.int .u8 0),.val (.int .u8 0),.val (.int .u8 0),.val (.int .u8 0),.val (.int .u8 0),.val (.int .u8 0),.val (.int .u8 0),.val (.int .u8 0),.val (.int .u8 0),.val (.int .u8 0),.val (.int .u8 0),.val (.int .u8 0),.val (.int .u8 0),.val (.int .u8 0),.val (.int .u8 0),.val (.int .u8 0),.val (.int .u8 0),.val (.int .u8 0),.val (.int .u8 0),.val (.int .u8 0),.val (.int .u8 0),.val (.int .u8 0),.val (.int .u8 0),.val (.int .u8 0),.val (.int .u8 0),.val (.int .u8 0),.val (.int .u8 0),.val (.int .u8 0),.val (.int .u8 0),.val (.int .u8 0),.val (.int .u8 0),.val (.int .u8 0),.val (.int .u8 0),.val (.int .u8 0),.val (.int .u8 0),.val (.int .u8 0),.val (.int .u8 0),.val (.int .u8 0),.val (.int .u8 0),.val (.int .u8 0),.val (.int .u8 0),.val (.int .u8 0),.val (.int .u8 0),.val (.int .u8 0),.val (.int .u8 0),.val (.int .u8 0),.val (.int .u8 0),.val (.int .u8 0),.val (.int .u8 0),.val (.int .u8 0),.val (.int .u8 0),.val (.int .u8 0),.val (.int .u8 0),.val (.int .u8 0),.val (.int .u8 0),.val (.int .u8 0),.val (.int .u8 0),.val (.int .u8 0),.val (.int .u8 0),.val (.int .u8 0),.val (.int .u8 0),.val (.int .u8 0),.val (.int .u8 0)]⟩
theorem X1:aD Tryz.prog 412 Qs:=ah (z:=.agg #[(.int .u8 0),(.int .u8 0),(.int .u8 0),(.int .u8 0),(.int .u8 0),(.int .u8 0),(.int .u8 0),(.int .u8 0),(.int .u8 0),(.int .u8 0),(.int .u8 0),(.int .u8 0),(.int .u8 0),(.int .u8 0),(.int .u8 0),(.int .u8 0),(.int .u8 0),(.int .u8 0),(.int .u8 0),(.int .u8 0),(.int .u8 0),(.int .u8 0),(.int .u8 0),(.int .u8 0),(.int .u8 0),(.int .u8 0),(.int .u8 0),(.int .u8 0),(.int .u8 0),(.int .u8 0),(.int .u8 0),(.int .u8 0),(.int .u8 0),(.int .u8 0),(.int .u8 0),(.int .u8 0),(.int .u8 0),(.int .u8 0),(.int .u8 0),(.int .u8 0),(.int .u8 0),(.int .u8 0),(.int .u8 0),(.int .u8 0),(.int .u8 0),(.int .u8 0),(.int .u8 0),(.int .u8 0),(.int .u8 0),(.int .u8 0),(.int .u8 0),(.int .u8 0),(.int .u8 0),(.int .u8 0),(.int .u8 0),(.int .u8 0),(.int .u8 0),(.int .u8 0),(.int .u8 0),(.int .u8 0),(.int .u8 0),(.int .u8 0),(.int .u8 0),(.int .u8 0),(.int .u8 0)]) (by kernel_rfl:Tryz.prog.underlying 412=some (.array 65 5))
theorem X2:aD Tryz.prog 413 av:=ah (z:=.nilFunc) ⟨_,Tryz.underlying413,rfl⟩
def Qt:TI:=⟨.arr 32 5,32,32,[.val (.int .u8 0),.val (.int .u8 0),.val (.int .u8 0),.val (.int .u8 0),.val (.int .u8 0),.val (.int .u8 0),.val (.int .u8 0),.val (.int .u8 0),.val (.int .u8 0),.val (.int .u8 0),.val (.int .u8 0),.val (.int .u8 0),.val (.int .u8 0),.val (.int .u8 0),.val (.int .u8 0),.val (.int .u8 0),.val (.int .u8 0),.val (.int .u8 0),.val (.int .u8 0),.val (.int .u8 0),.val (.int .u8 0),.val (.int .u8 0),.val (.int .u8 0),.val (.int .u8 0),.val (.int .u8 0),.val (.int .u8 0),.val (.int .u8 0),.val (.int .u8 0),.val (.int .u8 0),.val (.int .u8 0),.val (.int .u8 0),.val (.int .u8 0)]⟩
theorem X3:aD Tryz.prog 414 Qt:=ah (z:=.agg #[(.int .u8 0),(.int .u8 0),(.int .u8 0),(.int .u8 0),(.int .u8 0),(.int .u8 0),(.int .u8 0),(.int .u8 0),(.int .u8 0),(.int .u8 0),(.int .u8 0),(.int .u8 0),(.int .u8 0),(.int .u8 0),(.int .u8 0),(.int .u8 0),(.int .u8 0),(.int .u8 0),(.int .u8 0),(.int .u8 0),(.int .u8 0),(.int .u8 0),(.int .u8 0),(.int .u8 0),(.int .u8 0),(.int .u8 0),(.int .u8 0),(.int .u8 0),(.int .u8 0),(.int .u8 0),(.int .u8 0),(.int .u8 0)]) (by kernel_rfl:Tryz.prog.underlying 414=some (.array 32 5))
def Qu:TI:=⟨.arr 64 5,64,64,[.val (.int .u8 0),.val (.int .u8 0),.val (.int .u8 0),.val (.int .u8 0),.val (.int .u8 0),.val (.int .u8 0),.val (.int .u8 0),.val (.int .u8 0),.val (.int .u8 0),.val (.int .u8 0),.val (.int .u8 0),.val (.int .u8 0),.val (.int .u8 0),.val (.int .u8 0),.val (.int .u8 0),.val (.int .u8 0),.val (.int .u8 0),.val (.int .u8 0),.val (.int .u8 0),.val (.int .u8 0),.val (.int .u8 0),.val (.int .u8 0),.val (.int .u8 0),.val (.int .u8 0),.val (.int .u8 0),.val (.int .u8 0),.val (.int .u8 0),.val (.int .u8 0),.val (.int .u8 0),.val (.int .u8 0),.val (.int .u8 0),.val (.int .u8 0),.val (.int .u8 0),.val (.int .u8 0),.val (.int .u8 0),.val (.int .u8 0),.val (.int .u8 0),.val (.int .u8 0),.val (.int .u8 0),.val (.int .u8 0),.val (.int .u8 0),.val (.int .u8 0),.val (.int .u8 0),.val (.int .u8 0),.val (.int .u8 0),.val (.int .u8 0),.val (.int .u8 0),.val (.int .u8 0),.val (.int .u8 0),.val (.int .u8 0),.val (.int .u8 0),.val (.int .u8 0),.val (.int .u8 0),.val (.int .u8 0),.val (.int .u8 0),.val (.int .u8 0),.val (.int .u8 0),.val (.int .u8 0),.val (.int .u8 0),.val (.int .u8 0),.val (.int .u8 0),.val (.int .u8 0),.val (.int .u8 0),.val (.int .u8 0)]⟩
theorem X4:aD Tryz.prog 415 Qu:=ah (z:=.agg #[(.int .u8 0),(.int .u8 0),(.int .u8 0),(.int .u8 0),(.int .u8 0),(.int .u8 0),(.int .u8 0),(.int .u8 0),(.int .u8 0),(.int .u8 0),(.int .u8 0),(.int .u8 0),(.int .u8 0),(.int .u8 0),(.int .u8 0),(.int .u8 0),(.int .u8 0),(.int .u8 0),(.int .u8 0),(.int .u8 0),(.int .u8 0),(.int .u8 0),(.int .u8 0),(.int .u8 0),(.int .u8 0),(.int .u8 0),(.int .u8 0),(.int .u8 0),(.int .u8 0),(.int .u8 0),(.int .u8 0),(.int .u8 0),(.int .u8 0),(.int .u8 0),(.int .u8 0),(.int .u8 0),(.int .u8 0),(.int .u8 0),(.int .u8 0),(.int .u8 0),(.int .u8 0),(.int .u8 0),(.int .u8 0),(.int .u8 0),(.int .u8 0),(.int .u8 0),(.int .u8 0),(.int .u8 0),(.int .u8 0),(.int .u8 0),(.int .u8 0),(.int .u8 0),(.int .u8 0),(.int .u8 0),(.int .u8 0),(.int .u8 0),(.int .u8 0),(.int .u8 0),(.int .u8 0),(.int .u8 0),(.int .u8 0),(.int .u8 0),(.int .u8 0),(.int .u8 0)]) (by kernel_rfl:Tryz.prog.underlying 415=some (.array 64 5))
theorem X5:aD Tryz.prog 424 av:=ah (z:=.nilFunc) ⟨_,Tryz.underlying424,rfl⟩
def Qw:TI:=⟨.agg [(0,9,1)],1,16,[.val (.string .empty)]⟩
theorem X6:aD Tryz.prog 429 Qw:=ah (z:=.agg #[(.string .empty)]) ⟨aB,aB,aB⟩
def vP:List (TypeId×TI):=[(1,av),(2,Dj),(3,M6),(4,ti4),(5,ti5),(9,ti9),(12,aaf),(13,aah),(21,aaj),(22,aal),(23,M7),(24,aao),(25,Se),(26,aas),(27,aau),(28,av),(29,av),(30,av),(31,av),(32,av),(33,M8),(34,av),(35,av),(36,M9),(37,aaF),(38,Na),(39,av),(40,aaJ),(42,av),(43,av),(44,Nb),(45,aaO),(46,Nc),(47,aaR),(48,aaT),(49,aaV),(50,Jf),(51,aaY),(52,Nd),(53,av),(54,Nf),(56,av),(57,av),(58,av),(59,av),(60,av),(61,aa9),(62,av),(63,av),(64,av),(65,av),(66,av),(67,av),(69,av),(70,abi),(71,av),(73,av),(74,Ng),(75,av),(76,av),(77,Nh),(78,abq),(79,Ni),(80,abu),(81,Nj),(83,av),(84,av),(86,av),(87,av),(88,av),(89,abC),(90,abE),(91,abG),(92,av),(93,av),(94,av),(95,av),(96,av),(97,av),(98,av),(99,av),(100,av),(101,av),(102,av),(103,av),(104,av),(105,av),(107,av),(108,av),(110,av),(111,av),(112,PN),(113,PO),(114,av),(115,av),(116,av),(117,av),(118,av),(119,av),(120,av),(121,av),(122,av),(123,av),(125,av),(126,av),(127,av),(128,av),(129,av),(130,av),(131,av),(132,av),(133,av),(134,av),(135,av),(136,av),(137,av),(138,av),(139,av),(140,av),(141,av),(142,PQ),(143,av),(144,av),(145,av),(146,av),(147,av),(148,av),(149,av),(150,av),(151,av),(152,av),(153,av),(155,av),(157,av),(159,av),(160,av),(161,av),(162,av),(163,av),(164,av),(165,av),(166,PR),(168,av),(169,av),(170,av),(171,PS),(172,PT),(174,av),(175,av),(176,av),(177,av),(178,PU),(179,av),(180,av),(181,av),(182,av),(184,av),(185,av),(186,PV),(187,av),(188,PW),(189,PX),(190,PY),(191,av),(192,av),(193,av),(194,av),(195,av),(196,PZ),(197,av),(198,av),(199,av),(200,av),(201,av),(202,av),(203,av),(204,av),(205,P0),(206,P3),(207,P4),(209,av),(210,av),(211,av),(213,av),(214,av),(215,av),(216,av),(217,av),(218,av),(219,av),(220,av),(221,av),(222,av),(223,av),(224,av),(226,av),(227,av),(228,P5),(230,av),(231,av),(232,av),(233,av),(234,av),(235,av),(236,av),(237,av),(238,av),(239,av),(241,av),(242,av),(243,av),(244,av),(245,av),(246,P6),(247,av),(248,av),(249,av),(250,av),(251,av),(252,av),(253,av),(254,av),(255,av),(256,av),(257,av),(258,av),(259,av),(260,av),(261,av),(262,P7),(263,av),(264,P8),(265,av),(266,av),(267,av),(268,P9),(269,Qa),(270,av),(271,av),(272,av),(273,av),(274,av),(275,av),(276,av),(277,av),(279,av),(280,av),(281,av),(282,av),(283,av),(284,av),(285,av),(286,av),(287,av),(288,av),(289,av),(290,av),(291,av),(292,Qb),(293,Qc),(294,Qd),(295,av),(296,av),(297,av),(298,av),(299,av),(300,av),(301,av),(302,av),(303,av),(304,av),(305,av),(306,av),(307,av),(308,av),(309,av),(310,av),(311,av),(313,av),(314,av),(315,av),(316,Qe),(317,av),(318,av),(319,av),(320,av),(322,av),(323,av),(324,Qf),(326,av),(327,av),(328,Qg),(330,av),(332,av),(333,av),(334,Qh),(335,Qi),(336,Qj),(337,av),(338,av),(339,av),(340,Qk),(341,Ql),(342,Qm),(343,av),(347,av),(348,av),(349,av),(350,av),(352,av),(354,av),(355,av),(357,av),(358,av),(359,av),(360,av),(361,av),(363,av),(364,av),(365,av),(366,av),(367,av),(368,av),(370,av),(372,av),(373,av),(374,av),(375,av),(376,av),(378,av),(379,av),(380,av),(381,Qn),(382,av),(384,av),(385,av),(386,Qo),(387,Qp),(388,av),(389,av),(390,av),(392,av),(393,av),(394,av),(395,av),(396,av),(397,av),(398,av),(399,av),(401,av),(402,av),(403,Qq),(404,av),(405,av),(407,av),(408,av),(409,av),(410,av),(411,Qr),(412,Qs),(413,av),(414,Qt),(415,Qu),(424,av),(429,Qw)]
theorem aL:gQ Tryz.prog vP:=⟨aee,aef,aeg,aeh,aei,aej,aag,aai,aak,aam,aan,aap,aar,aat,aav,aaw,aax,aay,aaz,aaA,aaB,aaC,aaD,aaE,aaG,aaH,aaI,aaK,aaL,aaM,aaN,aaP,aaQ,aaS,aaU,aaW,aaX,aaZ,aa1,aa2,aa3,aa4,aa5,aa6,aa7,aa8,aba,abb,abc,abd,abe,abf,abg,abh,abj,abk,abl,abm,abn,abo,abp,abr,abt,abv,abw,abx,aby,abz,abA,abB,abD,abF,abH,abI,abJ,abK,abL,abM,abN,abO,abP,Sf,Sg,Sh,Si,Sj,Sk,Sl,Sn,Sp,Sq,Sr,Ss,Su,Sv,Sw,Sy,Sz,SA,SB,SC,SE,SF,SG,SH,SI,SJ,SK,SL,SM,SN,SO,SP,SQ,SR,SS,SU,SX,SY,SZ,S0,S1,S2,S3,S4,S5,S6,S7,S8,S9,Ua,Ub,Uc,Ud,Ue,Uf,Ug,Uh,Ui,Uj,Uk,Ul,Um,Un,Uo,Uq,Ur,Us,Ut,Uu,Uv,Uw,Ux,Uy,Uz,UA,UB,UC,UD,UE,UF,UG,UH,UI,UJ,UK,UL,UM,UN,UO,UP,UQ,UR,US,UT,UU,UW,UX,UY,UZ,U0,U1,U2,U3,U4,U5,U6,U7,U8,U9,Va,Vb,Vc,Vd,Ve,Vf,Vg,Vh,Vi,Vj,Vk,Vl,Vm,Vn,Vo,Vp,Vq,Vr,Vs,Vt,Vu,Vv,Vw,Vx,Vy,Vz,VA,VB,VC,VD,VE,VF,VG,VH,VI,VJ,VK,VL,VM,VN,VO,VP,VQ,VR,VS,VT,VU,VV,VW,VX,VY,VZ,V0,V1,V3,V4,V5,V6,V7,V8,V9,Wa,Wb,Wc,Wd,We,Wf,Wg,Wh,Wi,Wj,Wl,Wm,Wn,Wo,Wp,Wq,Wr,Ws,Wt,Wu,Wv,Ww,Wx,Wy,Wz,WA,WB,WC,WD,WE,WG,WH,WI,WJ,WK,WM,WN,WO,WQ,WR,WS,WT,WU,WV,WX,WY,WZ,W1,W2,W3,W5,W6,W7,W8,W9,Xa,Xb,Xc,Xd,Xe,Xf,Xg,Xh,Xi,Xj,Xk,Xl,Xm,Xn,Xo,Xp,Xq,Xr,Xs,Xt,Xu,Xv,Xw,Xx,Xy,Xz,XA,XB,XC,XD,XE,XF,XG,XH,XI,XJ,XK,XL,XM,XN,XO,XP,XQ,XR,XS,XT,XU,XV,XW,XX,XY,XZ,X0,X1,X2,X3,X4,X5,X6,trivial⟩
theorem jf {t:TypeId} {ti:TI} (h:dz vP t=some ti):aD Tryz.prog t ti:=gQ.get aL h
theorem Q3 {p:Prop} (h:p:=by first|omega|decide|(simp only[tl0,eR,List.length_replicate,List.length_set,List.length_map,List.length_zipWith,List.length_take,List.length_append,List.length_cons,List.length_nil];omega)):p:=h
theorem Q5 {p:Prop} (h:p:=by (first|exact aq.refl _|exact ll.lJ (aq.refl _) rfl|(refine ll.one rfl rfl ?_;skip)|(refine ll.ct ?_;skip))):p:=h
theorem Q6 {p:Prop} (h:p:=by exact (IA rfl (aj rfl) (jf rfl) rfl (Nat.succ_ne_zero _) rfl)):p:=h
theorem Q7 {p:Prop} (h:p:=by first|decide|omega|(simp only[tl0,eR,List.length_replicate,List.length_set,List.length_map,List.length_zipWith,List.length_take,List.length_append,List.length_cons,List.length_nil];omega)):p:=h
theorem Q8 {p:Prop} (h:p:=by first|rfl|(simp[bn,bE,bw, *];done)):p:=h
theorem Q9 {p:Prop} (h:p:=by exact (GC rfl (aj rfl) (jf rfl) rfl rfl (Nat.succ_ne_zero _) rfl)):p:=h
theorem cO {p:Prop} (h:p:=by exact (M3 rfl rfl rfl (aj rfl) (jf rfl) rfl)):p:=h
theorem nA {p:Prop} (h:p:=by exact (fJ (α:=Int) (d:=0) rfl (aj rfl) (aj rfl) (jf rfl) rfl (jf rfl) rfl aa)):p:=h
theorem Mt {p:Prop} (h:p:=by repeat(first|exact DN.nil|refine DN.cons rfl ?_ ?_|exact ki.same (fun h=>h)|exact ki.same DO|exact ki.same (fun _=>rfl)|refine ki.one (fun h=>h) ?_|refine ki.one DO ?_|exact WL.refl|refine WL.eq ?_|refine WL.any rfl ?_|exact ki.dead)):p:=h
theorem jo {p:Prop} (h:p:=by exact (I5 rfl (aj rfl) (aj rfl))):p:=h
theorem jJ {p:Prop} (h:p:=by exact (I4 rfl (aj rfl) (aj rfl))):p:=h
theorem Ai {p:Prop} (h:p:=by exact (fJ (α:=Rat) (d:=0) rfl (aj rfl) (aj rfl) (jf rfl) rfl (jf rfl) rfl aa)):p:=h
theorem X7 {p:Prop} (h:p:=by (first|exact aq.refl _|exact ll.lJ (aq.refl _) rfl|(refine ll.one rfl rfl ?_;(repeat(first|(refine cW.seq rfl (by first|rfl|(apply bw;intro _;rfl)) ?_;(first|rfl|omega|(simp<;>fail)|(simp<;>omega))))))|(refine ll.ct ?_;skip))):p:=h
theorem X8 {p:Prop} (h:p:=by (first|exact aq.refl _|exact ll.lJ (aq.refl _) rfl|(refine ll.one rfl rfl ?_;skip)|(refine ll.ct ?_;(repeat(first|exact cW.bE rfl|exact gd.nil|refine gd.cons ?_ ?_|exact cW.R7|refine cW.agg ?_))))):p:=h
theorem Q18 {p:Prop} (h:p:=by (first|exact aq.refl _|exact ll.lJ (aq.refl _) rfl|(refine ll.one rfl rfl ?_;(repeat(first|exact cW.bE rfl|exact gd.nil|refine gd.cons ?_ ?_|refine cW.agg ?_|(refine cW.seq rfl (by first|rfl|(apply bw;intro _;rfl)) ?_;(first|rfl|omega|(simp<;>fail)|(simp<;>omega))))))|(refine ll.ct ?_;skip))):p:=h
theorem Ia {p:Prop} (h:p:=by exact (fJ (α:=List Rat) (d:=[]) rfl (aj rfl) (aj rfl) (jf rfl) rfl (jf rfl) rfl aa)):p:=h
theorem Q20 {p:Prop} (h:p:=by (first|exact aq.refl _|exact ll.lJ (aq.refl _) rfl|(refine ll.one rfl rfl ?_;skip)|(refine ll.ct ?_;(repeat(first|exact cW.bE rfl|exact gd.nil|refine gd.cons ?_ ?_|(refine cW.cm rfl ?_;(first|rfl|omega|(simp<;>fail)|(simp<;>omega)))|refine cW.agg ?_))))):p:=h
theorem Qx {p:Prop} (h:p:=by exact (yv rfl (aj rfl) (fo rfl) (fo rfl) (.inl rfl) (jf rfl) rfl (jf rfl) rfl aa)):p:=h
theorem Nk {p:Prop} (h:p:=by exact (oD (α:=Int) (d:=0) rfl (aj rfl) (aj rfl) (jf rfl) rfl (jf rfl) rfl aa)):p:=h
theorem Q23 {p:Prop} (h:p:=by (first|exact aq.refl _|exact ll.lJ (aq.refl _) rfl|(refine ll.one rfl rfl ?_;skip)|(refine ll.ct ?_;(repeat(first|exact cW.bE rfl|exact gd.nil|refine gd.cons ?_ ?_|exact cW.R7))))):p:=h
theorem uf {p:Prop} (h:p:=by exact (BZ rfl rfl rfl)):p:=h
theorem Q25 {p:Prop} (h:p:=by exact (fJ (α:=Nat) (d:=0) rfl (aj rfl) (aj rfl) (jf rfl) rfl (jf rfl) rfl aa)):p:=h
theorem Qy {p:Prop} (h:p:=by repeat(first|exact ar|refine Jg rfl ?_)):p:=h
theorem Ff {p:Prop} (h:p:=by exact (zN rfl (aj rfl))):p:=h
theorem Q28 {p:Prop} (h:p:=by repeat(first|exact Nl.nil|refine Nl.cons ?_ ?_|exact Wk.nil|exact Wk.refl|refine Wk.agg ?_)):p:=h
theorem Q29 {p:Prop} (h:p:=by exact (oD (α:=Rat) (d:=0) rfl (aj rfl) (aj rfl) (jf rfl) rfl (jf rfl) rfl aa)):p:=h
theorem Q30 {p:Prop} (h:p:=by exact (Jh rfl (aj rfl) (aj rfl) (jf rfl) rfl (jf rfl) rfl rfl (by simp only[aa0];omega))):p:=h
theorem Q31 {p:Prop} (h:p:=by exact (Ji rfl (aj rfl) (aj rfl) (jf rfl) rfl (jf rfl) rfl rfl (by simp only[PL];omega))):p:=h
theorem Nn {p:Prop} (h:p:=by unfold zs at h;omega):p:=h
theorem Qz {p:Prop} (h:p:=by have:=h.2;split<;>omega):p:=h
theorem Q34 {p:Prop} (h:p:=by repeat(first|exact get_nil|refine dL rfl ?_)):p:=h
theorem ZI {p:Prop} (h:p:=by rw[Int.natAbs_natCast];omega):p:=h
theorem Q36 {p:Prop} (h:p:=by have:=Int.sign_nonneg_iff.2 (show 0≤(a:Int) - b by omega);omega):p:=h
theorem ZJ {p:Prop} (h:p:=by unfold ff;split<;>omega):p:=h
theorem ZK {p:Prop} (h:p:=by unfold fs at h;omega):p:=h
theorem tl0:ti5.bytes=1∧M7.bytes=4∧M6.bytes=8∧Dj.bytes=8∧ti9.bytes=16∧Nd.bytes=56∧Nj.bytes=56∧M9.bytes=24∧Nf.bytes=24∧Jf.bytes=32∧Nb.bytes=8∧ti4.bytes=1∧Nh.bytes=24∧Ni.bytes=32∧Ng.bytes=24∧Na.bytes=40∧M8.bytes=24∧Nc.bytes=24:=⟨rfl,rfl,rfl,rfl,rfl,rfl,rfl,rfl,rfl,rfl,rfl,rfl,rfl,rfl,rfl,rfl,rfl,rfl⟩
theorem bJ:Tryz.prog.follows .mixedOrders=true:=aB
theorem bP (Z:List Nat) {f:FuncId} {fn':Func} {code:Code} {args:List SV} {c:SV} (hf:Tryz.prog.funcs[f]?=some fn') (h:∀ W0 w0 ρ0,Env.OK ⟨Tryz.prog,vP,W0,w0,fn'.ntmps,ρ0,[],Z,none⟩→Aa ⟨Tryz.prog,vP,W0,w0,fn'.ntmps,ρ0,[],Z,none⟩ code (H9 vP fn'.results.toList fun sv _=>aq sv c) (enum 0 args) []) (hb:fn'.body=some code:=by exact rfl) (hn:(fn'.name=="runtime.NumGoroutine")=false:=by kernel_rfl) (ha:bn args=true:=by exact rfl) (hc:bE c=true:=by exact rfl) (hnt:Nat.ble args.length fn'.ntmps=true:=by kernel_rfl) (hp:args.all bs=true:=by exact rfl):ab Tryz.prog f args [] c [] []:=Z9 (Z:=Z) aL bJ hf hb hn ha hc hnt hp h
theorem gX (Z:List Nat) {f:FuncId} {fn':Func} {code:Code} {args:List SV} {c:SV} (hf:Tryz.prog.funcs[f]?=some fn') (h:∀ w0 ρ0,Env.OK ⟨Tryz.prog,vP,fun _=>False,w0,fn'.ntmps,ρ0,[],Z,none⟩→Aa ⟨Tryz.prog,vP,fun _=>False,w0,fn'.ntmps,ρ0,[],Z,none⟩ code (H9 vP fn'.results.toList fun sv hp=>ll sv hp c) (enum 0 args) []) (hb:fn'.body=some code:=by exact rfl) (hn:(fn'.name=="runtime.NumGoroutine")=false:=by kernel_rfl) (ha:bn args=true:=by first|rfl|(simp[bn,bE,bw, *];done)) (hc:bE c=true:=by first|rfl|(simp[bn,bE,bw, *];done)) (hnt:Nat.ble args.length fn'.ntmps=true:=by kernel_rfl) (hp:args.all bs=true:=by exact rfl):ab Tryz.prog f args [] c [] []:=aac (Z:=Z) aL bJ hf hb hn ha hc hnt hp h
def dP:List TypeId:=[25,46,48,50,52,336]
theorem df:vY Tryz.prog dP:=by
 have h:dP.all (fun t=> !Tryz.prog.stoodInHeld t&&(Tryz.prog.fieldsOf t).toList.all (fun f=>f.name != "_"))=true:=aB
 intro t ht;have:=List.all_eq_true.1 h t ht;simpa using this
end Go.Proofs.YtfpagioknjjacaaGreatDoor
