/- The texts Kt, Qa, Qb, Qc, Qd, Nf. -/
import Derived.Test.YtfpagioknjjacaaGreatDoorQMBareissKnown6
import Derived.Test.YtfpagioknjjacaaGreatDoorQMBareissKnown5
import Derived.Test.YtfpagioknjjacaaGreatDoorQMBareissKnown3
namespace Go.Sx
set_option linter.unusedSimpArgs false
set_option linter.unusedVariables false
theorem eG {E:Env} (k:Nat) {blk:aC} {c:Code} {K:bQ} {fr:List (Nat×SV)} {hp:List (Nat×aC)} (hk:find hp k=none) (he:blk.data.empty) (hs:ey E c K fr ((k,blk)::hp)):ey E c K fr hp:=
 ⟨fun a w hR=>hs.run a w (yO hk he hR)⟩
end Go.Sx
namespace Go.Proofs.YtfpagioknjjacaaGreatDoor
open Go.Sx
set_option linter.unusedSimpArgs false
set_option linter.unusedVariables false
set_option maxRecDepth 100000
set_option maxHeartbeats 40000000
abbrev zL (n:Nat):List Rat:=List.replicate n 0
theorem EJ (n:Nat):(zL n).length=n:=List.length_replicate ..
end Go.Proofs.YtfpagioknjjacaaGreatDoor
namespace Go.Sx
set_option linter.unusedSimpArgs false
set_option linter.unusedVariables false
theorem ab.aeZ {P:Program} {f:FuncId} {args:List SV} {fk fk':List (Nat×aC)} {c:SV} {new upd:List (Nat×aC)} (h:ab P f args fk' c new upd) (hk:∀ρ w,nL fk new ρ w→nL fk' new ρ w):ab P f args fk c new upd:=by
 rcases h with⟨h1,h2⟩|h
 ·exact .inl ⟨h1,fun ρ w z hz hp=>h2 ρ w z hz (hk ρ w hp)⟩
 ·exact .inr fun ρ w z hz hp=>h ρ w z hz (hk ρ w hp)
def roB (b:Bool) (x:aC):aC:=⟨x.ty,b&&x.wr,x.data⟩
theorem nL.some {ρ:bY} {w:World} {fk new:List (Nat×aC)} (g:Nat→Bool) (hp:nL fk new ρ w):nL (fk.map fun x=>(x.1,roB (g x.1) x.2)) new ρ w:=by
 refine⟨fun k b hk=> ?_,fun k k' x x' b b' hk my e1 e2 e3 e4 e5 e6=> ?_,hp.aY,fun k b x hk hw hl hx=> ?_,hp.fresh⟩
 ·obtain⟨⟨q,b0⟩,hq,he⟩:=List.mem_map.1 hk
  cases he
  exact hp.mu q b0 hq
 ·obtain⟨⟨q,b0⟩,hq,he⟩:=List.mem_map.1 hk
  obtain⟨⟨q',b0'⟩,xM,he'⟩:=List.mem_map.1 my
  cases he
  cases he'
  have:=hp.sep q q' x x' b0 b0' hq xM e1 e2 e3 e4 e5 e6
  simp[roB,this]
 ·obtain⟨⟨q,b0⟩,hq,he⟩:=List.mem_map.1 hk
  cases he
  exact hp.fb q b0 x hq (by simp[roB]at hw;exact hw.2) hl hx
def ry:List Nat→List (Nat×aC)
 |[]=>[]
 |k::r=>(k,⟨0,true,.dead⟩)::ry r
theorem gC {mv:List Nat} {hp:List (Nat×aC)} {k:Nat}:(k∈mv→find (ry mv++hp) k=some ⟨0,true,.dead⟩)∧(k∉mv→find (ry mv++hp) k=find hp k):=by
 induction mv with
 |nil=>exact⟨(fun h=>by cases h),fun _=>rfl⟩
 |cons j r ih=>
  simp only[ry,List.cons_append,find]
  cases hb:Nat.beq j k with
  |true=>
   obtain rfl:=Nat.eq_of_beq_eq_true hb
   exact⟨fun _=>rfl,fun h=>absurd (List.mem_cons_self ..) h⟩
  |false=>
   have b6:k≠j:=by rintro rfl;simp[Nat.beq_refl]at hb
   exact⟨fun h=>ih.1 ((List.mem_cons.1 h).resolve_left b6),fun h=>ih.2 fun g=>h (List.mem_cons_of_mem _ g)⟩
def OQ (σ:Nat→Nat) (ks mv:List Nat):List Nat→Bool
 |[]=>true
 |k::r=>(uD k mv||(uD k ks&&Nat.beq (σ k) k))&&OQ σ ks mv r
theorem y0 {σ:Nat→Nat} {ks mv:List Nat}:∀{l:List Nat},OQ σ ks mv l=true→∀k∈l,k∈mv∨(k∈ks∧σ k=k)
 |j::r,h,k,hk=>by
  simp only[OQ,Bool.and_eq_true,Bool.or_eq_true,iW]at h
  rcases List.mem_cons.1 hk with rfl|hk
  ·exact h.1.imp id fun g=>⟨g.1,Nat.eq_of_beq_eq_true g.2⟩
  ·exact y0 h.2 k hk
def AX (σ:Nat→Nat) (mv:List Nat):List Nat→Bool
 |[]=>true
 |k::r=> !(uD (σ k) mv)&&AX σ mv r
theorem uw {σ:Nat→Nat} {mv:List Nat}:∀{l:List Nat},AX σ mv l=true→∀k∈l,σ k∉mv
 |j::r,h,k,hk=>by
  simp only[AX,Bool.and_eq_true,Bool.not_eq_true',←Bool.not_eq_true,iW]at h
  rcases List.mem_cons.1 hk with rfl|hk
  ·exact h.1
  ·exact uw h.2 k hk
def EK (fx:List Nat) (σ:Nat→Nat) (ts ks mv:List Nat) (fr:List (Nat×SV)) (hp:List (Nat×aC)):Bool:=
 dZ ks fr ts&&(dD ks hp ks&&(qG σ ks&&(OQ σ ks mv fx&&(AX σ mv ks&&eI mv fx))))
theorem OR {E:Env} (hE:E.OK) {σ:Nat→Nat} {ts ks mv:List Nat} {fr:List (Nat×SV)} {hp:List (Nat×aC)} (h:EK E.fx σ ts ks mv fr hp=true) {a:Act} {w:World} (hR:RR E (fn fr hp) a w):
  RR E (fn (fp σ fr ts) (ry mv++gE σ hp ks)) a w:=by
 simp only[EK,Bool.and_eq_true]at h
 obtain⟨h1,h2,h3,h4,h5,h6⟩:=h
 obtain⟨ρ,hext,hfx,hR⟩:=hR
 have RU:=pK h3
 have GJ:=y0 h4
 have acR:=uw h5
 have hmv:=dI h6
 let ρ':bY:=⟨fun k'=>if k'∈mv then ρ.key k' else match ks.find? (fun k=>σ k==k')with
  |some k=>ρ.key k
  |none=>none,ρ.aY,ρ.cq⟩
 have xH:∀k∈mv,ρ'.key k=ρ.key k:=fun k hk=>if_pos hk
 have b9:∀k∈ks,ρ'.key (σ k)=ρ.key k:=by
  intro k hk
  show(if σ k∈mv then ρ.key (σ k)else match ks.find? (fun j=>σ j==σ k)with|some k=>ρ.key k|none=>none)=ρ.key k
  rw[if_neg (acR k hk)]
  cases hf:ks.find? (fun j=>σ j==σ k)with
  |none=>have:=List.find?_eq_none.1 hf k hk;simp at this
  |some j=>
   have hj:=List.mem_of_find?_eq_some hf
   have hs:=List.find?_some hf
   have:j=k:=RU j hj k hk (by simpa using hs)
   rw[this]
 have IN:∀k' x,ρ'.key k'=some x→k'∈mv∨(k'∉mv∧∃k∈ks,σ k=k'∧ρ.key k=some x):=by
  intro k' x hx
  by_cases hm:k'∈mv
  ·exact .inl hm
  have hx:(if k'∈mv then ρ.key k' else match ks.find? (fun j=>σ j==k')with|some k=>ρ.key k|none=>none)=some x:=hx
  rw[if_neg hm]at hx
  cases hf:ks.find? (fun j=>σ j==k')with
  |none=>rw[hf]at hx;cases hx
  |some j=>rw[hf]at hx;exact .inr ⟨hm,j,List.mem_of_find?_eq_some hf,by simpa using List.find?_some hf,hx⟩
 have hold:∀k' b',(fn (fp σ fr ts) (ry mv++gE σ hp ks) (.k k')).blk=some b'→(k'∈mv∧b'=⟨0,true,.dead⟩)∨∃k∈ks,σ k=k'∧∃b,find hp k=some b∧b'=dM σ b∧∀j∈nS b.data,j∈ks:=by
  intro k' b' hb
  simp only[fn,LV.blk]at hb
  by_cases hm:k'∈mv
  ·rw[gC.1 hm]at hb;cases hb;exact .inl ⟨hm,rfl⟩
  ·rw[gC.2 hm]at hb;exact .inr (pL h2 k' b' hb)
 have x5:∀k' b',(fn (fp σ fr ts) (ry mv++gE σ hp ks) (.k k')).blk=some b'→b'.data.live=true→∃k∈ks,σ k=k'∧∃b,find hp k=some b∧b'=dM σ b∧∀j∈nS b.data,j∈ks:=by
  intro k' b' hb hl
  rcases hold k' b' hb with⟨_,rfl⟩|g
  ·cases hl
  ·exact g
 have mu:∀k∈E.fx,ρ'.key k=ρ.key k:=by
  intro k hk
  rcases GJ k hk with e|⟨e1,e2⟩
  ·exact xH k e
  ·have:=b9 k e1
   rw[e2]at this;exact this
 refine⟨ρ',⟨⟨fun k x hx=> ?_,hext.le.aY⟩,hext.aY,fun k hk=> ?_⟩,fun k hk=> ?_,{defers:=hR.defers,size:=hR.size,fr:= ?_,bO:=hR.bO,hp:= ?_}⟩
 ·rw[mu k (hE.rL k x hx)];exact hext.le.key k x hx
 ·rw[mu k hk];exact hext.fix k hk
 ·simp only[fn,LV.blk]
  rcases GJ k hk with e|⟨e1,e2⟩
  ·rw[gC.1 e];simp
  ·by_cases hm:k∈mv
   ·rw[gC.1 hm];simp
   ·rw[gC.2 hm]
    obtain⟨b,hb⟩:=lU (σ:=σ) h2 k e1
    rw[e2]at hb
    rw[hb];simp
 ·intro t sv ht
  obtain⟨c,c1,rfl,c3⟩:=qH h1 t sv ht
  exact(uK (ρ:=ρ) (ρ':=ρ') (σ:=σ) rfl c _ (fun k hk=>b9 k (c3 k hk))).2 (hR.fr t c (by simp only[fn,LV.sv];exact c1))
 ·constructor
  ·intro k' b' hb
   rcases hold k' b' hb with⟨_,rfl⟩|⟨k,hk,rfl,b,b1,rfl,b3⟩
   ·exact .inl rfl
   ·exact(iY (ρ:=ρ) (ρ':=ρ') (σ:=σ) rfl k b (b9 k hk) (fun j hj=>b9 j (b3 j hj))).2 (hR.hp.blk k b (by simp only[fn,LV.blk];exact b1))
  ·intro k1 k2 x1 x2 b1 b2 hx1 Mp b6 he hb1 hb2 gp iM
   obtain⟨j1,m1,rfl,c1,d1,rfl,_⟩:=x5 k1 b1 hb1 gp
   obtain⟨j2,m2,rfl,c2,d2,rfl,_⟩:=x5 k2 b2 hb2 iM
   rw[b9 j1 m1]at hx1
   rw[b9 j2 m2]at Mp
   exact hR.hp.sep j1 j2 x1 x2 c1 c2 hx1 Mp (fun h=>b6 (by rw[h])) he (by simp only[fn,LV.blk];exact d1) (by simp only[fn,LV.blk];exact d2) (by rwa [dM,cI]at gp) (by rwa [dM,cI]at iM)
  ·intro k' b' x hb hw hl hx
   obtain⟨k,hk,rfl,b,b1,rfl,_⟩:=x5 k' b' hb hl
   rw[b9 k hk]at hx
   exact hR.hp.own k b x (by simp only[fn,LV.blk];exact b1) hw (by rwa [dM,cI]at hl) hx
  ·intro k' x hx
   simp only[fn,LV.blk]
   rcases IN k' x hx with hm|⟨hm,k,hk,rfl,_⟩
   ·exact⟨_,gC.1 hm⟩
   ·rw[gC.2 hm]
    exact lU (σ:=σ) h2 k hk
  ·exact hR.hp.aY
  ·intro k' b' x hb hw hl hx
   obtain⟨k,hk,rfl,b,b1,rfl,_⟩:=x5 k' b' hb hl
   rw[b9 k hk]at hx
   exact hR.hp.fb k b x (by simp only[fn,LV.blk];exact b1) hw (by rwa [dM,cI]at hl) hx
theorem Lk {E:Env} (hE:E.OK) (σ:Nat→Nat) (ts ks mv:List Nat) {c:Code} {K:bQ} {fr:List (Nat×SV)} {hp:List (Nat×aC)} (h:EK E.fx σ ts ks mv fr hp=true)
  (hs:ey E c K (fp σ fr ts) (ry mv++gE σ hp ks)):ey E c K fr hp:=⟨fun a w hR=>hs.run a w (OR hE h hR)⟩
theorem Ll {E:Env} (hE:E.OK) (σ:Nat→Nat) (ts ks:List Nat) {c:Code} {K:bQ} {fr:List (Nat×SV)} {hp:List (Nat×aC)} (h:gT E.fx σ ts ks fr hp=true)
  (hs:ey E c K (fp σ fr ts) (gE σ hp ks)):ey E c K fr hp:=⟨uL hE σ ts ks h hs.run⟩
theorem get_nil {hp:List (Nat×aC)}:∀j c,(j,c)∈([]:List (Nat×aC))→find hp j=some c:=fun _ _ h=>by cases h
theorem dL {hp l:List (Nat×aC)} {k:Nat} {b:aC} (h:find hp k=some b) (r:∀j c,(j,c)∈l→find hp j=some c):∀j c,(j,c)∈(k,b)::l→find hp j=some c:=by
 intro j c hm
 rcases List.mem_cons.1 hm with e|e
 ·cases e;exact h
 ·exact r j c e
theorem bh.same {fk:List (Nat×aC)}:bh fk [] fun k=>k:=⟨fun _ _ _ _ _ _ h _=>h,(fun _ _ h=>by cases h),fun _ _ h=>by cases h⟩
mutual
theorem AY:∀c:SV,fc (fun k=>k) c=c
 |.ptr .. |.aN .. |.any|.val _|.nat _|.int _|.frac _|.atom _=>rfl
 |.agg cs=>by rw[fc,jP cs]
 |.ct vs=>by rw[fc,jP vs]
 |.clo f a b=>by rw[fc,jP a,jP b]
 |.yld k rc ts a=>by rw[fc,jP a]
theorem jP:∀l:List SV,kR (fun k=>k) l=l
 |[]=>rfl
 |c::l=>by rw[kR,AY c,jP l]
end
theorem Gb (b:aC):dM (fun k=>k) b=b:=by
 obtain⟨ty,wr,d⟩:=b
 cases d<;>simp only[dM,xT,jP]
theorem oX:∀l:List (Nat×aC),kT (fun k=>k) l=l
 |[]=>rfl
 |(k,b)::r=>by rw[kT,Gb,oX r]
theorem y3 {P:Program} {T:List (TypeId×TI)} {Z:List Nat} (hT:gQ P T) (hm:P.follows .mixedOrders=true) {f:FuncId} {fn':Func} {code:Code} (hf:P.funcs[f]? =some fn') (hb:fn'.body=some code)
  (hn:(fn'.name== "runtime.NumGoroutine")=false) {args:List SV} {fk:List (Nat×aC)} {c:SV} {upd:List (Nat×aC)} (hs:cu args fk c [] upd) (hnt:Nat.ble args.length fn'.ntmps=true)
  (h:∀W0 w0 ρ0,Env.OK ⟨P,T,W0,w0,fn'.ntmps,ρ0,ax fk,Z,none⟩→Aa ⟨P,T,W0,w0,fn'.ntmps,ρ0,ax fk,Z,none⟩ code (H9 T fn'.results.toList (Fin c [] upd)) (enum 0 args) fk):
  ab P f args fk c [] upd:=by
 have:=fq hT hm hf hb hn hs hnt (fun k=>k) bh.same h
 rwa [jP,oX,AY,oX upd]at this
section
variable {P:Program} {o:Oper} {fr:List (Nat×SV)} {hp:List (Nat×aC)}
theorem CQ {ρ:bY} {v:Value} {k i:Nat} (h:Has ρ (.ptr k 1 i 0) v):Has ρ (.ptr k 1 0 i) v:=by
 obtain⟨z,⟨b,t',h1,h2⟩,h3⟩:=h
 refine⟨z,⟨b,t',h1, ?_⟩,h3⟩
 rw[h2];simp
theorem fP {K:SV→List (Nat×aC)→List (Nat×aC)→List (Nat×aC)→Prop} {t ty:TypeId} {x:Operand} {ti:TI} {k i:Nat} {wr:Bool} {cs l:List SV} {c:SV} (ho:o.op= .load t x) (hx:bp fr x (.ptr k 1 i 0))
  (hf:find hp k=some ⟨ty,wr,.one cs⟩) (ht:aD P t ti) (hs:sub 64 cs i ti.size=some l) (ir:ti.size≠0) (hsh:eU ti l=some c) (hK:K c [(k,⟨ty,wr,.one cs⟩)] [] []):
  ∃c fk new upd,bV P o fr fk c new upd∧(∀j b,(j,b)∈fk→find hp j=some b)∧(∀j b,(j,b)∈new→find hp j=none)∧(∀j b,(j,b)∈upd→∃b0,(j,b0)∈fk∧b0.wr=true∧b0.data.live=true∧b.wr=true)∧K c fk new upd:=
 ⟨c,_,[],[],E2 (ob:=none) (i:=0) (s:=1) ho (fun ρ a h=>CQ (hx ρ a h)) ht (List.mem_singleton.2 rfl) rfl trivial hs ir hsh,dv hf,ar,an,hK⟩
theorem Lm {K:SV→List (Nat×aC)→List (Nat×aC)→List (Nat×aC)→Prop} {t ty:TypeId} {x y:Operand} {ti:TI} {k i:Nat} {cs cs' nw:List SV} {sv:SV} (ho:o.op= .store t x y) (hx:bp fr x (.ptr k 1 i 0))
  (hy:bp fr y sv) (hf:find hp k=some ⟨ty,true,.one cs⟩) (ht:aD P t ti) (hc:nF sv=some nw) (hw:SV.dn nw=ti.size) (hle:i+ti.size≤SV.dn cs) (cd:put 64 cs i ti.size nw=some cs')
  (hK:K .any [(k,⟨ty,true,.one cs⟩)] [] [(k,⟨ty,true,.one cs'⟩)]):
  ∃c fk new upd,bV P o fr fk c new upd∧(∀j b,(j,b)∈fk→find hp j=some b)∧(∀j b,(j,b)∈new→find hp j=none)∧(∀j b,(j,b)∈upd→∃b0,(j,b0)∈fk∧b0.wr=true∧b0.data.live=true∧b.wr=true)∧K c fk new upd:=
 ⟨.any,_,[],_,BA (ob:=none) (i:=0) (s:=1) ho (fun ρ a h=>CQ (hx ρ a h)) hy ht (List.mem_singleton.2 rfl) rfl trivial hc hw hle cd rfl,dv hf,ar,dp (List.mem_singleton.2 rfl) rfl rfl rfl,hK⟩
end
end Go.Sx
namespace Go.Proofs.YtfpagioknjjacaaGreatDoor
open Go.Sx
set_option linter.unusedSimpArgs false
set_option linter.unusedVariables false
set_option maxRecDepth 100000
set_option maxHeartbeats 40000000
abbrev wkC (r m p:Nat) (d:Rat):List SV:=[.aN 1002 1 0 r,iv m,.aN 1003 1 0 p,.frac d]
abbrev ZT (b:Bool) (r m p:Nat) (d:Rat):aC:=⟨269,b,.one (wkC r m p d)⟩
abbrev Ie (b:Bool) (l:List SV):aC:=⟨36,b,.one l⟩
abbrev rk (i c:Nat):SV:=.aN (1010+i) 5 0 c
abbrev ZU (b:Bool) (l:List Int):aC:=⟨3,b,.ints .i64 l⟩
abbrev HA (b:Bool) (l:List Rat):aC:=⟨52,b,.cm l⟩
abbrev sG (r c:Nat):List SV:=(List.range r).map fun i=>rk i c
def Gc (b:Nat→Bool) (M:Nat→List Rat):Nat→Nat→List (Nat×aC)
 |0,_=>[]
 |n+1,i=>(1010+i,HA (b i) (M i))::Gc b M n (i+1)
abbrev hpE (uW uR uP:Bool) (w:Nat→Bool) (r m c p:Nat) (d:Rat) (pv:List Int) (M:Nat→List Rat):List (Nat×aC):=
 (1001,ZT uW r m p d)::(1002,Ie uR (sG r c))::(1003,ZU uP pv)::Gc w M r 0
theorem Zi {r i k:Nat} (m c p:Nat) (d:Rat) (pv:List Int) (M:Nat→List Rat) (hr:r≤6) (hi:i<r) (hk:k<i):
  ab Tryz.prog 307 [.ptr 1001 0 0 0,iv i,iv k] (hpE true true false (fun _=>false) r m c p d pv M) (.ct []) []
   [(1001,ZT true r m p (-d)),(1002,Ie true (((sG r c).set i (rk k c)).set k (rk i c)))]:=by
 have k1:=DU d
 obtain rfl|rfl|rfl|rfl|rfl:r=2∨r=3∨r=4∨r=5∨r=6:=aa
 all_goals obtain rfl|rfl|rfl|rfl|rfl:i=1∨i=2∨i=3∨i=4∨i=5:=aa
 all_goals first|omega|skip
 all_goals obtain rfl|rfl|rfl|rfl|rfl:k=0∨k=1∨k=2∨k=3∨k=4:=aa
 all_goals first|omega|skip
 all_goals
  refine y3 (Z:=[]) aL bJ Tryz.func307 rfl aB (cu.of rfl rfl rfl rfl rfl rfl rfl rfl rfl rfl rfl) rfl ?_
  intro W0 w0 ρ0 hE
  conv=>whnf
  (repeat((first|refine ag rfl rfl ?_|refine aw aB ?_|refine ay Q3 ?_|refine aS (by assumption) ?_|refine fP rfl (aj rfl) rfl (jf rfl) rfl (Nat.succ_ne_zero _) rfl ?_|refine Lm rfl (aj rfl) (aj rfl) rfl (jf rfl) rfl rfl (Nat.le_of_ble_eq_true rfl) rfl ?_);conv=>whnf))
  exact⟨aq.refl _,get_nil,dL rfl (dL rfl get_nil)⟩
theorem OS (i:Int):ab Tryz.prog 307 [.ptr 1001 0 0 0,iv i,iv i] [(1001,⟨0,false,.dead⟩)] (.ct []) [] []:=by
 refine y3 (Z:=[]) aL bJ Tryz.func307 rfl aB (cu.of rfl rfl rfl rfl rfl rfl rfl rfl rfl rfl rfl) rfl ?_
 intro W0 w0 ρ0 hE
 conv=>whnf
 (repeat(first|(refine af rfl rfl ?_;conv=>whnf)|(rw[bne_self_eq_false];conv=>whnf)))
 exact⟨aq.refl _,get_nil,get_nil⟩
end Go.Proofs.YtfpagioknjjacaaGreatDoor
namespace Go.Sx
set_option linter.unusedSimpArgs false
set_option linter.unusedVariables false
def mm (hp:List (Nat×aC)):List Nat→List (Nat×aC)
 |[]=>[]
 |k::r=>match find hp k with
  |some b=>(k,b)::mm hp r
  |none=>mm hp r
theorem oo (hp:List (Nat×aC)):∀ks,gE (fun k=>k) hp ks=mm hp ks
 |[]=>rfl
 |k::r=>by
  rw[gE,mm,oo hp r]
  cases find hp k with
  |none=>rfl
  |some b=>simp only[Gb]
theorem rz {E:Env} (hE:E.OK) {c:Code} {K:bQ} {fr:List (Nat×SV)} {hp:List (Nat×aC)} (ts:List Nat) (I:Nat→List (Nat×SV)→List (Nat×aC)→Prop) (m:Nat)
  (h0:gT E.fx (fun k=>k) ts E.fx fr hp=true) (hI:I m (fp (fun k=>k) fr ts) (mm hp E.fx))
  (h:∀m fr hp,I m fr hp→Aa E c (fun e fr' cd=>match e with
   |.normal=>∃m',m'<m∧gT E.fx (fun k=>k) ts E.fx fr' cd=true∧I m' (fp (fun k=>k) fr' ts) (mm cd E.fx)
   |e=>K e fr' cd) fr hp):ey E (.loop c) K fr hp:=by
 refine⟨?_⟩
 refine uL hE (fun k=>k) ts E.fx h0 (Ab (fun m fr hp=>∃fr0 rR,(∀a w,RR E (fn fr hp) a w→RR E (fn fr0 rR) a w)∧I m fr0 rR) m ⟨_,_,fun _ _ h=>h,by rw[oo];exact hI⟩ ?_)
 rintro m fr hp ⟨fr0,rR,hw,hI⟩ a w hR
 refine Code.wpIn_mono ?_ (iC hE c _ fr0 rR (h m fr0 rR hI) a w (hw a w hR))
 rintro e a' w' ⟨fr',cd,h1,h2⟩
 cases e with
 |normal=>
  obtain⟨m',aA,uE,hI'⟩:=h1
  rw[←oo]at hI'
  exact⟨fr',cd,⟨m',aA,_,_,fun a w hR=>oA hE uE hR,hI'⟩,h2⟩
 |_=>exact⟨fr',cd,h1,h2⟩
theorem jX {fx:List Nat} {σ:Nat→Nat} {ts ks:List Nat} {fr:List (Nat×SV)} {hp:List (Nat×aC)} (h1:dZ ks fr ts=true) (h2:dD ks hp ks=true) (h3:(qG σ ks&&ua σ ks fx)=true):gT fx σ ts ks fr hp=true:=by
 rw[gT,h1,h2,h3];rfl
theorem lH {ks:List Nat} {hp:List (Nat×aC)}:dD ks hp []=true:=rfl
theorem bx {ks r:List Nat} {hp:List (Nat×aC)} {k:Nat} {b:aC} (h:find hp k=some b) (h1:eI (nS b.data) ks=true) (h2:dD ks hp r=true):dD ks hp (k::r)=true:=by
 simp only[dD,h,h1,h2,Bool.and_self]
theorem Ln {l m r:List Nat}:eI (l++m) r=(eI l r&&eI m r):=by
 induction l with
 |nil=>rfl
 |cons x l ih=>simp only[List.cons_append,eI,ih,Bool.and_assoc]
theorem sH {r:List Nat}:eI (gU []) r=true:=rfl
theorem cG {k:Nat} {b:aC} {l:List (Nat×aC)} {r:List Nat} (h:eI (nS b.data) r=true) (h2:eI (gU l) r=true):eI (gU ((k,b)::l)) r=true:=by
 rw[gU,Ln,h,h2];rfl
theorem AZ {A B:List SV} {x:SV} (hx:x.width=1):∀(f:Nat),(∀a∈A,a.width=1)→A.length+1<f→sub f (A++x::B) A.length 1=some [x]:=by
 induction A with
 |nil=>
  intro f _ hf
  match f,hf with
  |f+2,_=>simp[sub,hx]
 |cons a A ih=>
  intro f ha hf
  match f,hf with
  |f+1,hf=>
   have:=ih f (fun b hb=>ha b (List.mem_cons_of_mem _ hb)) (by simp only[List.length_cons]at hf;omega)
   simp only[List.cons_append,List.length_cons,sub,ha a (List.mem_cons_self ..),Nat.add_sub_cancel]
   rw[show Nat.ble 1 (A.length+1)=true from Nat.ble_eq_true_of_le aa]
   exact this
inductive WL:List SV→List SV→Prop
 |refl {l}:WL l l
 |eq {c l m}:WL l m→WL (c::l) (c::m)
 |any {c l m}:c.width=1→WL l m→WL (c::l) (.any::m)
theorem WL.has {ρ:bY} {l m:List SV} (h:WL l m):∀z,au ρ l z→au ρ m z:=by
 induction h with
 |refl=>exact fun _ h=>h
 |eq _ ih=>
  intro z hz
  simp only[au]at hz ⊢
  obtain⟨x,r,rfl,h1,h2⟩:=hz
  exact⟨x,r,rfl,h1,ih r h2⟩
 |any hw _ ih=>
  intro z hz
  simp only[au]at hz ⊢
  obtain⟨x,r,rfl,h1,h2⟩:=hz
  refine⟨x,r,rfl, ?_,ih r h2⟩
  obtain⟨g1,g2⟩:=aK.len _ x h1
  rw[hw]at g1
  match x,g1,g2 with
  |[v],_,g2=>simp only[aK];exact⟨v,rfl,g2 v (List.mem_singleton.2 rfl)⟩
inductive ki:aC→aC→Prop
 |dead {b ty}:ki b ⟨ty,false,.dead⟩
 |same {ty wr wr' d}:(wr'=true→wr=true)→ki ⟨ty,wr,d⟩ ⟨ty,wr',d⟩
 |one {ty wr wr' cs cs'}:(wr'=true→wr=true)→WL cs cs'→ki ⟨ty,wr,.one cs⟩ ⟨ty,wr',.one cs'⟩
theorem DO {p:Prop} (h:false=true):p:=by cases h
theorem ki.ok {b b':aC} (h:ki b b') {ρ:bY} {w:World} {k:Nat} (hb:gP ρ w k b):gP ρ w k b':=by
 cases h with
 |dead=>exact .inl rfl
 |same=>exact hb
 |one _ hl=>
  rcases hb with h|⟨b,t,vs,ex,h1,h2,⟨z,h3,h4⟩,h5⟩|⟨h1,h2⟩
  ·cases h
  ·exact .inr (.inl ⟨b,t,vs,ex,h1,h2,⟨z,hl.has z h3,h4⟩,h5⟩)
  ·exact .inr (.inr ⟨h1,h2⟩)
theorem ki.live {b b':aC} (h:ki b b') (hl:b'.data.live=true):b.data.live=true∧(b'.wr=true→b.wr=true):=by
 cases h with
 |dead=>cases hl
 |same g=>exact⟨hl,g⟩
 |one g _=>exact⟨rfl,g⟩
def xY (hp:List (Nat×aC)):List (Nat×aC)→List (Nat×aC)
 |[]=>[]
 |(k,_)::r=>match find hp k with
  |some b=>(k,b)::xY hp r
  |none=>xY hp r
theorem xn {hp:List (Nat×aC)}:∀{l:List (Nat×aC)} (j:Nat) (b:aC),(j,b)∈xY hp l→find hp j=some b
 |(k,_)::r,j,b,hm=>by
  rw[xY]at hm
  cases hf:find hp k with
  |none=>rw[hf]at hm;exact xn j b hm
  |some c=>
   rw[hf]at hm
   rcases List.mem_cons.1 hm with e|e
   ·cases e;exact hf
   ·exact xn j b e
inductive DN (hp:List (Nat×aC)):List (Nat×aC)→Prop
 |nil:DN hp []
 |cons {k b b' l}:find hp k=some b→ki b b'→DN hp l→DN hp ((k,b')::l)
theorem DN.mem {hp l:List (Nat×aC)} (h:DN hp l):∀k b',(k,b')∈l→∃b,(k,b)∈xY hp l∧ki b b':=by
 induction h with
 |nil=>intro _ _ h;cases h
 |cons hf hw _ ih=>
  intro j b' hm
  rw[xY,hf]
  rcases List.mem_cons.1 hm with e|e
  ·cases e;exact⟨_,List.mem_cons_self ..,hw⟩
  ·obtain⟨c,h1,h2⟩:=ih j b' e
   exact⟨c,List.mem_cons_of_mem _ h1,h2⟩
theorem nL.view {hp l new:List (Nat×aC)} {ρ:bY} {w:World} (h:DN hp l) (cd:nL (xY hp l) new ρ w):nL l new ρ w:=by
 refine⟨fun k b hk=> ?_,fun k k' x x' b b' hk my e1 e2 e3 e4 e5 e6=> ?_,cd.aY,fun k b x hk hw hl hx=> ?_,cd.fresh⟩
 ·obtain⟨c,h1,h2⟩:=h.mem k b hk
  exact h2.ok (cd.mu k c h1)
 ·obtain⟨c,h1,h2⟩:=h.mem k b hk
  obtain⟨c',h1',h2'⟩:=h.mem k' b' my
  have:=cd.sep k k' x x' c c' h1 h1' e1 e2 e3 e4 (h2.live e5).1 (h2'.live e6).1
  cases hb:b.wr with
  |false=>rfl
  |true=>rw[(h2.live e5).2 hb]at this;cases this
 ·obtain⟨c,h1,h2⟩:=h.mem k b hk
  exact cd.fb k c x h1 ((h2.live hl).2 hw) (h2.live hl).1 hx
section
variable {P:Program} {f:FuncId} {args:List SV} {c:SV} {hp:List (Nat×aC)}
theorem xo {k:SV→List (Nat×aC)→List (Nat×aC)→List (Nat×aC)→Prop} {l upd:List (Nat×aC)} (h:ab P f args l c [] upd) (hw:DN hp l) (hu:pA (xY hp l) upd) (hk:k c (xY hp l) [] upd):
  ∃fk c new upd,ab P f args fk c new upd∧B4 hp fk∧uc hp new∧pA fk upd∧k c fk new upd:=
 ⟨xY hp l,c,[],upd,ab.aeZ h fun _ _=>nL.view hw,xn,ar,hu,hk⟩
end
theorem fQ {fk upd:List (Nat×aC)} (h:yw fk upd=true) (hw:(upd.all fun x=>x.2.wr)=true):pA fk upd:=fun j b hm=>by
 obtain⟨b0,h1,h2,h3⟩:=mN h j b hm
 exact⟨b0,h1,h2,h3,List.all_eq_true.1 hw _ hm⟩
def OT (σ:Nat→Nat) (k:Nat):List Nat→Bool
 |[]=>true
 |j::r=>(Nat.beq j k|| !(Nat.beq (σ k) (σ j)))&&OT σ k r
theorem y4 {σ:Nat→Nat} {k:Nat}:∀{l:List Nat},OT σ k l=true→∀j∈l,k≠j→σ k≠σ j
 |i::r,h,j,hj,b6=>by
  simp only[OT,Bool.and_eq_true,Bool.or_eq_true,Bool.not_eq_true']at h
  rcases List.mem_cons.1 hj with rfl|hj
  ·rcases h.1 with g|g
   ·exact absurd (Nat.eq_of_beq_eq_true g).symm b6
   ·intro e;rw[e]at g;simp at g
  ·exact y4 h.2 j hj b6
def A1 (σ:Nat→Nat) (ks:List Nat):List (Nat×aC)→Bool
 |[]=>true
 |(k,b)::r=>(!b.wr||OT σ k ks)&&A1 σ ks r
theorem ux {σ:Nat→Nat} {ks:List Nat}:∀{l:List (Nat×aC)},A1 σ ks l=true→∀q b,(q,b)∈l→b.wr=true→∀j∈ks,q≠j→σ q≠σ j
 |(k,b)::r,h,q,c,hm,hw,j,hj,b6=>by
  simp only[A1,Bool.and_eq_true,Bool.or_eq_true,Bool.not_eq_true']at h
  rcases List.mem_cons.1 hm with e|e
  ·cases e
   rcases h.1 with g|g
   ·rw[hw]at g;cases g
   ·exact y4 g j hj b6
  ·exact ux h.2 q c e hw j hj b6
theorem bh.of {fk:List (Nat×aC)} {σ:Nat→Nat} (h:A1 σ (ax fk) fk=true):bh fk [] σ:=
 ⟨fun q q' b b' hq xM b6 hw=>ux h q b hq hw q' (aT.2 ⟨b',xM⟩) b6,(fun _ _ h=>by cases h),fun _ _ h=>by cases h⟩
end Go.Sx
namespace Go.Proofs.YtfpagioknjjacaaGreatDoor
open Go.Sx
set_option linter.unusedSimpArgs false
set_option linter.unusedVariables false
set_option maxRecDepth 100000
set_option maxHeartbeats 40000000
theorem EL {l:List Rat} {j:Nat} {x:Rat} (h:j<l.length):(l.set j x).getD j 0=x:=by simp[List.getD_eq_getElem?_getD,h]
theorem rA {l:List Rat} {j k:Nat} {x:Rat} (h:k≠j):(l.set j x).getD k 0=l.getD k 0:=by simp[List.getD_eq_getElem?_getD,List.getElem?_set_ne (Ne.symm h)]
theorem sI {o:List Rat} {n:Nat} {F:Nat→Rat} (hl:o.length=n) (h:∀k,k<n→o.getD k 0=F k):o=(List.range n).map F:=by
 refine List.ext_getElem (by simp[hl]) fun k h1 h2=> ?_
 have:=h k aa
 rw[List.getD_eq_getElem?_getD,List.getElem?_eq_getElem h1]at this
 simpa using this
abbrev wvB (r m:Nat) (d:Rat):aC:=⟨269,false,.one [.aN 1002 1 0 r,iv m,.any,.frac d]⟩
abbrev qB (q:Rat):aC:=⟨52,false,.one [.frac q]⟩
abbrev pE (A B:List SV) (n:Nat):List SV:=A++ .aN 1010 5 0 n::B
theorem OU {r i:Nat} (A B:List SV) (m c:Nat) (d q:Rat) (x:List Rat) (F:Nat→Rat) (g:FuncId) (hi:A.length=i) (hA:∀a∈A,a.width=1) (hr:r≤40) (EM:i<r) (hc:c≤4096) (hx:x.length=c)
  (hR:eI (gb (pE A B c)) [1001,1002,1006,1010]=true)
  (hf:∀k,k<c→ab Tryz.prog g ([]++([iv (k:Nat),.frac (x.getD k 0)]++[.ptr 1006 0 0 0])) [(1006,qB q)] (.frac (F k)) [] []) (σ:Nat→Nat) (hσ:bh [(1001,wvB r m d),(1002,Ie false (pE A B c)),(1006,qB q),(1010,HA true x)] [] σ):
  ab Tryz.prog 346 (kR σ [.ptr 1001 0 0 0,iv i,.clo g [] [.ptr 1006 0 0 0]]) (kT σ [(1001,wvB r m d),(1002,Ie false (pE A B c)),(1006,qB q),(1010,HA true x)]) (fc σ (.ct [])) (kT σ []) (kT σ [(1010,HA true ((List.range c).map F))]):=by
 refine fq (Z:=[]) aL bJ Tryz.func346 rfl aB (cu.of rfl (by exact cG rfl (cG hR (cG rfl (cG rfl sH)))) rfl rfl rfl rfl rfl rfl rfl rfl rfl) rfl σ hσ ?_
 intro W0 w0 ρ0 hE
 have hs:sub 64 (pE A B c) A.length 1=some [.aN 1010 5 0 c]:=AZ rfl 64 hA aa
 obtain⟨AA,hAA⟩:∃X,X=A:=⟨A,rfl⟩
 rcases A with _|⟨a,A⟩
 all_goals
  subst hi
  conv=>whnf
  (repeat((first|refine ay Q3 ?_|refine fP rfl (aj rfl) rfl (jf rfl) hs (Nat.succ_ne_zero _) rfl ?_|rw[Int.toNat_natCast]|rw[Nat.zero_add]);conv=>whnf))
  refine rz hE [0,1,2,14,15,16] (fun m' fr hp=>∃(j:Nat) (o:List Rat),m'=c - j∧j≤c∧o.length=c∧(∀k,k<j→o.getD k 0=F k)∧(∀k,j≤k→o.getD k 0=x.getD k 0)∧
   fr=[(0,.ptr 1001 0 0 0),(1,iv AA.length),(2,.clo g [] [.ptr 1006 0 0 0]),(14,.aN 1010 5 0 c),(15,iv c),(16,iv (j:Nat))]∧hp=[(1001,wvB r m d),(1002,Ie false (pE AA B c)),(1006,qB q),(1010,HA true o)]) c ?_ ?_ ?_
  ·exact jX aB (by exact bx rfl rfl (bx rfl hR (bx rfl rfl (bx rfl rfl lH)))) aB
  ·exact⟨0,x,rfl,Nat.zero_le _,hx,fun k h=>aa,fun k _=>rfl,by subst hAA;rfl,by subst hAA;rfl⟩
  rintro m _ _ ⟨j,o,rfl,hj,hl,ho,hu,rfl,rfl⟩
  subst hAA
  conv=>whnf
  by_cases aA:j<c
  ·have t1:=dX aA
   have t2:=bA (i:=j) aa
   have hk:=hf j aA
   rw[←hu j (Nat.le_refl _)]at hk
   (repeat((first|refine aw aB ?_|refine aX Q3 ?_|refine ay Q3 ?_|refine kU (by assumption) rfl ?_|refine aE t1 ?_|refine fP rfl (aj rfl) rfl (jf rfl) hs (Nat.succ_ne_zero _) rfl ?_|rw[t1]|rw[t2]|rw[Int.toNat_natCast]|rw[Nat.zero_add]);conv=>whnf))
   refine⟨c - (j+1),aa,jX aB (by exact bx rfl rfl (bx rfl hR (bx rfl rfl (bx rfl rfl lH)))) aB,j+1,o.set j (F j),rfl,aA,by rw[List.length_set];exact hl, ?_, ?_,rfl,rfl⟩
   ·intro k h
    by_cases e:k=j
    ·rw[e,EL aa]
    ·rw[rA e];exact ho k aa
   ·intro k h
    rw[rA aa];exact hu k aa
  ·have t1:=ez aA
   obtain rfl:j=c:=aa
   have hx:=sI hl ho
   (repeat(first|(refine aM t1 ?_;conv=>whnf)))
   exact⟨aq.refl _,get_nil,dL (by rw[←hx];rfl) get_nil⟩
theorem fR {n:Nat} (h:sz n≤4398046511104):(ae n).length<274877906944:=by
 have:=Fp (n:=n) (M:=137438953472) aa
 omega
theorem A2:il 4398046511104 where
 nu:=aF
 cmp a b ha hb:=Ce a b (by have:=fR ha;omega) (by have:=fR hb;omega)
 add a b h:=QC a b (by have:=fR (n:=a) (Nat.le_trans (dQ aa) h);omega) (by have:=fR (n:=b) (Nat.le_trans (dQ aa) h);omega)
 sub a b ha h:=QE a b (by have:=fR ha;omega) h
 X9 a b hb h:=Jv a b (by have:=fR hb;have:=gF (Nat.lt_trans h (cf b));omega) (by have:=fR hb;omega) h
 mul a b h:=QG a b (fR aa) (fR aa)
 div a b ha hb h0:=JG a b (fR ha) (fR hb) h0
 Ya a:=Jp a
 gcd a b ha hb:=QL a b (fR ha) (fR hb)
theorem acT (a b:Rat) (h:fs a+fs b≤4398046511104):ab Tryz.prog 80 [.frac a,.frac b] [] (.frac (a+b)) [] []:=JD A2 a b ZK
theorem Ra (a b:Rat) (h:fs a+fs b≤4398046511104):ab Tryz.prog 81 [.frac a,.frac b] [] (.frac (a*b)) [] []:=DV A2 a b ZK
theorem acU (a b:Rat) (hb:b≠0) (h:fs a+fs b≤4398046511104):ab Tryz.prog 141 [.frac a,.frac b] [] (.ct [.frac (a/b),.val (.int .i64 0)]) [] []:=DX A2 a b hb ZK
theorem acV (a b:Rat) (h:fs a+fs b≤4398046511104):ab Tryz.prog 142 [.frac a,.frac b] [] (.frac (a - b)) [] []:=by
 have k1:=DU b
 have k2:=acT a (-b) (by rw[wK];exact h)
 rw[←Rat.sub_eq_add_neg]at k2
 refine bP [] Tryz.func142 ?_
 intro W0 w0 ρ0 hE
 conv=>whnf
 (repeat(first|(refine aw aB ?_;conv=>whnf)|(refine aS (by assumption) ?_;conv=>whnf)));exact Q5
theorem Lo (k:Int) (x q:Rat) (hq:q≠0) (h:fs x+fs q≤4398046511104):ab Tryz.prog 347 ([]++([iv k,.frac x]++[.ptr 1006 0 0 0])) [(1006,qB q)] (.frac (x/q)) [] []:=by
 have k1:=acU x q hq h
 refine y3 (Z:=[]) aL bJ Tryz.func347 rfl aB (cu.of rfl rfl rfl rfl rfl rfl rfl rfl rfl rfl rfl) rfl ?_
 intro W0 w0 ρ0 hE
 conv=>whnf
 (repeat(first|(refine aS (by assumption) ?_;conv=>whnf)))
 exact⟨aq.refl _,get_nil,get_nil⟩
abbrev wbB:aC:=⟨264,false,.one [.ptr 1001 0 0 0]⟩
abbrev OV (C D:List SV) (n:Nat):List SV:=C++ .aN 1011 5 0 n::D
theorem Lp {r top k:Nat} (C D:List SV) (m c A:Nat) (d x q:Rat) (T o:List Rat) (hi:C.length=top) (hC:∀a∈C,a.width=1) (hr:r≤40) (ht:top<r) (hk:k<c) (hT:T.length=c)
  (hR:eI (gb (OV C D c)) [1006,1005,1001,1002,1011,1010]=true) (hx:fs x≤A) (hq:fs q≤A) (hn:fs (T.getD k 0)≤2*A) (hA:4*A≤4398046511104):
  ab Tryz.prog 348 ([]++([iv (k:Nat),.frac x]++[.ptr 1006 0 0 0,.ptr 1005 0 0 0,bG [iv top]])) [(1006,qB q),(1005,wbB),(1001,wvB r m d),(1002,Ie false (OV C D c)),(1011,HA false T),(1010,HA false o)] (.frac (x - q*T.getD k 0)) [] []:=by
 have k1:=Ra q (T.getD k 0) aa
 have k2:=acV x (q*T.getD k 0) (by have:=lK q (T.getD k 0);omega)
 refine y3 (Z:=[]) aL bJ Tryz.func348 rfl aB (cu.of rfl (by exact cG rfl (cG rfl (cG rfl (cG hR (cG rfl (cG rfl sH)))))) rfl rfl rfl rfl rfl rfl rfl rfl rfl) rfl ?_
 intro W0 w0 ρ0 hE
 have hs:sub 64 (OV C D c) C.length 1=some [.aN 1011 5 0 c]:=AZ rfl 64 hC aa
 rcases C with _|⟨a,C⟩
 all_goals
  subst hi
  conv=>whnf
  (repeat((first|refine aw aB ?_|refine aX Q3 ?_|refine ay Q3 ?_|refine aS (by assumption) ?_|refine ak Q6 ?_|refine fP rfl (aj rfl) rfl (jf rfl) hs (Nat.succ_ne_zero _) rfl ?_|rw[Int.toNat_natCast]|rw[Nat.zero_add]);conv=>whnf))
  exact⟨aq.refl _,get_nil,get_nil⟩
end Go.Proofs.YtfpagioknjjacaaGreatDoor
namespace Go.Sx
set_option linter.unusedSimpArgs false
set_option linter.unusedVariables false
section
variable {P:Program} {f:FuncId} {args:List SV} {c:SV} {hp:List (Nat×aC)}
end
end Go.Sx
namespace Go.Proofs.YtfpagioknjjacaaGreatDoor
open Go.Sx
set_option linter.unusedSimpArgs false
set_option linter.unusedVariables false
set_option maxRecDepth 100000
set_option maxHeartbeats 40000000
abbrev Zj (top:Nat):List SV:=[.ptr 1006 0 0 0,.ptr 1005 0 0 0,bG [iv top]]
abbrev fk2 (r m c:Nat) (A B:List SV) (d q:Rat) (T x:List Rat) (b:Bool):List (Nat×aC):=[(1006,qB q),(1005,wbB),(1001,wvB r m d),(1002,Ie false (pE A B c)),(1011,HA false T),(1010,HA b x)]
theorem OW {r i top:Nat} (A B:List SV) (m c:Nat) (d q:Rat) (x T:List Rat) (F:Nat→Rat) (g:FuncId) (hi:A.length=i) (hA:∀a∈A,a.width=1) (hr:r≤40) (EM:i<r) (hc:c≤4096) (hx:x.length=c)
  (hR:eI (gb (pE A B c)) [1006,1005,1001,1002,1011,1010]=true)
  (hf:∀k o,k<c→ab Tryz.prog g ([]++([iv (k:Nat),.frac (x.getD k 0)]++Zj top)) (fk2 r m c A B d q T o false) (.frac (F k)) [] []) (σ:Nat→Nat) (hσ:bh (fk2 r m c A B d q T x true) [] σ):
  ab Tryz.prog 346 (kR σ [.ptr 1001 0 0 0,iv i,.clo g [] (Zj top)]) (kT σ (fk2 r m c A B d q T x true)) (fc σ (.ct [])) (kT σ []) (kT σ [(1010,HA true ((List.range c).map F))]):=by
 refine fq (Z:=[]) aL bJ Tryz.func346 rfl aB (cu.of rfl (by exact cG rfl (cG rfl (cG rfl (cG hR (cG rfl (cG rfl sH)))))) rfl rfl rfl rfl rfl rfl rfl rfl rfl) rfl σ hσ ?_
 intro W0 w0 ρ0 hE
 have hs:sub 64 (pE A B c) A.length 1=some [.aN 1010 5 0 c]:=AZ rfl 64 hA aa
 obtain⟨AA,hAA⟩:∃X,X=A:=⟨A,rfl⟩
 rcases A with _|⟨a,A⟩
 all_goals
  subst hi
  conv=>whnf
  (repeat((first|refine ay Q3 ?_|refine fP rfl (aj rfl) rfl (jf rfl) hs (Nat.succ_ne_zero _) rfl ?_|rw[Int.toNat_natCast]|rw[Nat.zero_add]);conv=>whnf))
  refine rz hE [0,1,2,14,15,16] (fun m' fr hp=>∃(j:Nat) (o:List Rat),m'=c - j∧j≤c∧o.length=c∧(∀k,k<j→o.getD k 0=F k)∧(∀k,j≤k→o.getD k 0=x.getD k 0)∧
   fr=[(0,.ptr 1001 0 0 0),(1,iv AA.length),(2,.clo g [] (Zj top)),(14,.aN 1010 5 0 c),(15,iv c),(16,iv (j:Nat))]∧hp=fk2 r m c AA B d q T o true) c ?_ ?_ ?_
  ·exact jX aB (by exact bx rfl rfl (bx rfl rfl (bx rfl rfl (bx rfl hR (bx rfl rfl (bx rfl rfl lH)))))) aB
  ·exact⟨0,x,rfl,Nat.zero_le _,hx,fun k h=>aa,fun k _=>rfl,by subst hAA;rfl,by subst hAA;rfl⟩
  rintro m _ _ ⟨j,o,rfl,hj,hl,ho,hu,rfl,rfl⟩
  subst hAA
  conv=>whnf
  by_cases aA:j<c
  ·have t1:=dX aA
   have t2:=bA (i:=j) aa
   have hk:=fun b=>hf j b aA
   rw[←hu j (Nat.le_refl _)]at hk
   (repeat((first|refine aw aB ?_|refine aX Q3 ?_|refine ay Q3 ?_|refine aE t1 ?_|refine fP rfl (aj rfl) rfl (jf rfl) hs (Nat.succ_ne_zero _) rfl ?_|refine xo (hk o) (DN.cons rfl (.same fun h=>h) (DN.cons rfl (.same fun h=>h) (DN.cons rfl (.same fun h=>h) (DN.cons rfl (.same fun h=>h) (DN.cons rfl (.same fun h=>h) (DN.cons rfl (.same DO) .nil)))))) an ?_|rw[t1]|rw[t2]|rw[Int.toNat_natCast]|rw[Nat.zero_add]);conv=>whnf))
   refine⟨c - (j+1),aa,jX aB (by exact bx rfl rfl (bx rfl rfl (bx rfl rfl (bx rfl hR (bx rfl rfl (bx rfl rfl lH)))))) aB,j+1,o.set j (F j),rfl,aA,by rw[List.length_set];exact hl, ?_, ?_,rfl,rfl⟩
   ·intro k h
    by_cases e:k=j
    ·rw[e,EL aa]
    ·rw[rA e];exact ho k aa
   ·intro k h
    rw[rA aa];exact hu k aa
  ·have t1:=ez aA
   obtain rfl:j=c:=aa
   have hx:=sI hl ho
   (repeat(first|(refine aM t1 ?_;conv=>whnf)))
   exact⟨aq.refl _,get_nil,dL (by rw[←hx];rfl) get_nil⟩
def iq (w:Mx) (k:Nat):Nat→Nat→Option Nat
 |0,_=>none
 |m+1,i=>if w i k=0 then iq w k m (i+1)else some i
theorem y5 {w:Mx} {k:Nat}:∀{m i:Nat},iq w k m i=none→∀j,i≤j→j<i+m→w j k=0
 |0,i,_,j,h1,h2=>aa
 |m+1,i,h,j,h1,h2=>by
  rw[iq]at h
  by_cases g:w i k=0
  ·rw[if_pos g]at h
   by_cases e:j=i
   ·rw[e,g]
   ·exact y5 h j aa aa
  ·rw[if_neg g]at h;cases h
theorem oY {w:Mx} {k:Nat}:∀{m i j:Nat},iq w k m i=some j→i≤j∧j<i+m∧w j k≠0
 |0,i,j,h=>by cases h
 |m+1,i,j,h=>by
  rw[iq]at h
  by_cases g:w i k=0
  ·rw[if_pos g]at h
   have:=oY h
   exact⟨aa,aa,this.2.2⟩
  ·rw[if_neg g]at h
   obtain rfl:=Option.some.inj h
   exact⟨Nat.le_refl _,aa,g⟩
def fX (w:Mx) (top k:Nat):Mx:=fun a q=>if a=top then w top q/w top k else w a q - w a k*(w top q/w top k)
structure St where
 w:Mx
 bg:List Nat
 d:Rat
def oZ (r:Nat) (s:St) (k:Nat):St:=
 match iq s.w k (r - s.bg.length) s.bg.length with
 |none=>s
 |some i=>⟨fX (aR s.w i s.bg.length) s.bg.length k,s.bg++[k],(if i=s.bg.length then s.d else - s.d)*aR s.w i s.bg.length s.bg.length k⟩
def pq (r c:Nat) (s:St):St:=(List.range c).foldl (oZ r) s
theorem sJ (r c:Nat) (s:St):pq r (c+1) s=oZ r (pq r c s) c:=by
 rw[pq,List.range_succ,List.foldl_append];rfl
theorem Alt.Zk {n:Nat} {F:Mx→Rat} (hF:Alt n F) (A:Mx) {t:Nat} (ht:t<n) (c:Nat→Rat):F (fun a q=>if a=t then A t q else A a q+c a*A t q)=F A:=by
 have h:∀m,m≤n→F (fun a q=>if a=t then A t q else if a<m then A a q+c a*A t q else A a q)=F A:=by
  intro m
  induction m with
  |zero=>
   intro _
   refine hF.congr _ _ fun a q _ _=> ?_
   by_cases e:a=t
   ·rw[if_pos e,e]
   ·rw[if_neg e,if_neg aa]
  |succ m ih=>
   intro hm
   rw[←ih aa]
   by_cases e:m=t
   ·refine hF.congr _ _ fun a q _ _=> ?_
    by_cases g:a=t
    ·rw[if_pos g,if_pos g]
    ·rw[if_neg g,if_neg g]
     by_cases g2:a<m
     ·rw[if_pos g2,if_pos aa]
     ·rw[if_neg g2,if_neg aa]
   ·rw[←hF.Ei (i:=m) (j:=t) (fun a q=>if a=t then A t q else if a<m then A a q+c a*A t q else A a q) (c m) aa ht e]
    refine hF.congr _ _ fun a q _ _=> ?_
    by_cases g:a=m
    ·subst g
     rw[aU,if_neg e,if_pos aa,if_neg e,if_neg aa,if_pos rfl]
    ·rw[aV _ _ g]
     by_cases g1:a=t
     ·rw[if_pos g1,if_pos g1]
     ·rw[if_neg g1,if_neg g1]
      by_cases g2:a<m
      ·rw[if_pos g2,if_pos aa]
      ·rw[if_neg g2,if_neg aa]
 rw[←h n (Nat.le_refl _)]
 refine hF.congr _ _ fun a q ha _=> ?_
 by_cases e:a=t
 ·rw[if_pos e,if_pos e]
 ·rw[if_neg e,if_neg e,if_pos ha]
structure Inv (r:Nat) (W:Mx) (k:Nat) (s:St):Prop where
 len:s.bg.length≤r
 lt:∀j,j<s.bg.length→s.bg.getD j 0<k
 inc:∀i j,i<j→j<s.bg.length→s.bg.getD i 0<s.bg.getD j 0
 unit:∀j,j<s.bg.length→∀i,i<r→s.w i (s.bg.getD j 0)=if i=j then 1 else 0
 left:∀i,i<s.bg.length→∀q,q<s.bg.getD i 0→s.w i q=0
 low:∀i,s.bg.length≤i→i<r→∀q,q<k→s.w i q=0
 Rb:∃P,bH r P*s.d=1∧∀i,i<r→∀q,s.w i q=pr r P W i q
theorem Inv.start (r:Nat) (W:Mx):Inv r W 0 ⟨W,[],1⟩ where
 len:=Nat.zero_le _
 lt:=fun j h=>by simp at h
 inc:=fun i j _ h=>by simp at h
 unit:=fun j h=>by simp at h
 left:=fun j h=>by simp at h
 low:=fun i _ _ q h=>aa
 Rb:=⟨delta,by rw[oK];grind,fun i hi q=>by rw[pr,dh,if_pos hi]⟩
theorem iL {l:List Nat} {a j:Nat} (h:j<l.length):(l++[a]).getD j 0=l.getD j 0:=by
 rw[List.getD_eq_getElem?_getD,List.getD_eq_getElem?_getD,List.getElem?_append_left h]
theorem o0 {l:List Nat} {a:Nat}:(l++[a]).getD l.length 0=a:=by simp[List.getD_eq_getElem?_getD]
theorem xp {w:Mx} {i t a:Nat} (h:a<t) (hi:t≤i):aR w i t a=w a:=by
 unfold aR;rw[if_neg aa,if_neg aa]
theorem EN {w:Mx} {i t a r:Nat} (hi:t≤i) (EM:i<r) (h:t≤a) (har:a<r):∃b,t≤b∧b<r∧aR w i t a=w b:=by
 unfold aR
 by_cases h1:a=i
 ·rw[if_pos h1];exact⟨t,Nat.le_refl _,aa,rfl⟩
 ·rw[if_neg h1]
  by_cases h2:a=t
  ·rw[if_pos h2];exact⟨i,hi,EM,rfl⟩
  ·rw[if_neg h2];exact⟨a,h,har,rfl⟩
theorem y6 {w:Mx} {i t:Nat}:aR w i t t=w i:=by
 unfold aR
 by_cases h:t=i
 ·rw[if_pos h,h]
 ·rw[if_neg h,if_pos rfl]
theorem OX (r:Nat) (P W:Mx) (i t a q:Nat):pr r (aR P i t) W a q=aR (pr r P W) i t a q:=by
 show(aH r fun p=>(if a=i then P t else if a=t then P i else P a) p*W p q)=(if a=i then pr r P W t else if a=t then pr r P W i else pr r P W a) q
 by_cases h:a=i
 ·rw[if_pos h,if_pos h];rfl
 ·rw[if_neg h,if_neg h]
  by_cases h2:a=t
  ·rw[if_pos h2,if_pos h2];rfl
  ·rw[if_neg h2,if_neg h2];rfl
theorem Inv.step {r:Nat} {W:Mx} {k:Nat} {s:St} (h:Inv r W k s):Inv r W (k+1) (oZ r s k):=by
 unfold oZ
 cases hp:iq s.w k (r - s.bg.length) s.bg.length with
 |none=>
  have hz:=y5 hp
  have:=h.len
  show Inv r W (k+1) s
  exact {h with
   lt:=fun j hj=>by have:=h.lt j hj;omega
   low:=fun i h1 h2 q hq=>by
    by_cases e:q=k
    ·rw[e];exact hz i h1 aa
    ·exact h.low i h1 h2 q aa}
 |some i=>
  obtain⟨g1,g2,g3⟩:=oY hp
  dsimp only
  have hl:=h.len
  have EM:i<r:=aa
  have ht:s.bg.length<r:=aa
  have ahS:s.bg.length=s.bg.length:=rfl
  revert g1 g2 ht hl
  generalize M4:s.bg.length=t
  intro g1 g2 hl ht
  have rR:aR s.w i t t k≠0:=by rw[y6];exact g3
  have hz:∀a,t≤a→a<r→∀q,q<k→aR s.w i t a q=0:=fun a h1 h2 q hq=>by
   obtain⟨b,b1,b2,e⟩:=EN (w:=s.w) g1 EM h1 h2
   rw[e];exact h.low b aa b2 q hq
  have hu:∀j,j<t→∀a,a<r→aR s.w i t a (s.bg.getD j 0)=if a=j then 1 else 0:=fun j hj a ha=>by
   by_cases hat:a<t
   ·rw[xp hat g1];exact h.unit j aa a ha
   ·rw[hz a aa ha _ (h.lt j aa),if_neg aa]
  have hc:∀a,a<t→∀q,q<k→fX (aR s.w i t) t k a q=s.w a q:=fun a ha q hq=>by
   unfold fX
   rw[if_neg aa,hz t (Nat.le_refl _) ht q hq,xp ha g1];grind
  have hlen:(s.bg++[k]).length=t+1:=by rw[List.length_append,M4];rfl
  refine {len:=by simp only[hlen];omega,lt:= ?_,inc:= ?_,unit:= ?_,left:= ?_,low:= ?_,Rb:= ?_}
  ·intro j hj
   simp only[hlen]at hj
   show(s.bg++[k]).getD j 0<k+1
   by_cases e:j<t
   ·rw[iL aa];have:=h.lt j aa;omega
   ·obtain rfl:j=t:=aa
    rw[←M4,o0];omega
  ·intro a b B8 hb
   simp only[hlen]at hb
   show(s.bg++[k]).getD a 0<(s.bg++[k]).getD b 0
   by_cases e:b<t
   ·rw[iL aa,iL aa];exact h.inc a b B8 aa
   ·obtain rfl:b=t:=aa
    rw[iL aa]
    rw[show(s.bg++[k]).getD b 0=k from by rw[←M4,o0]]
    exact h.lt a aa
  ·intro j hj a ha
   simp only[hlen]at hj
   show fX (aR s.w i t) t k a ((s.bg++[k]).getD j 0)=_
   by_cases e:j<t
   ·rw[iL aa]
    unfold fX
    rw[hu j e t ht,hu j e a ha,if_neg (show ¬t=j by omega)]
    by_cases g:a=t
    ·rw[if_pos g,if_neg aa,Rat.div_def];grind
    ·rw[if_neg g,Rat.div_def];split<;>grind
   ·obtain rfl:j=t:=aa
    rw[show(s.bg++[k]).getD j 0=k from by rw[←M4,o0]]
    unfold fX
    by_cases g:a=j
    ·rw[if_pos g,if_pos g,Rat.div_def,Rat.mul_inv_cancel _ rR]
    ·rw[if_neg g,if_neg g,Rat.div_def,Rat.mul_inv_cancel _ rR];grind
  ·intro a ha q hq
   simp only[hlen]at ha
   change q<(s.bg++[k]).getD a 0 at hq
   show fX (aR s.w i t) t k a q=0
   by_cases e:a<t
   ·rw[iL aa]at hq
    have:=h.lt a aa
    rw[hc a e q aa]
    exact h.left a aa q hq
   ·obtain rfl:a=t:=aa
    rw[show(s.bg++[k]).getD a 0=k from by rw[←M4,o0]]at hq
    unfold fX
    rw[if_pos rfl,hz a (Nat.le_refl _) ht q hq,Rat.div_def];grind
  ·intro a h1 h2 q hq
   simp only[hlen]at h1
   show fX (aR s.w i t) t k a q=0
   unfold fX
   rw[if_neg aa]
   by_cases e:q=k
   ·rw[e,Rat.div_def,Rat.mul_inv_cancel _ rR];grind
   ·rw[hz a aa h2 q aa,hz t (Nat.le_refl _) ht q aa,Rat.div_def];grind
  ·obtain⟨P,hP1,hP2⟩:=h.Rb
   have Zl:∀a,a<r→∀q,aR s.w i t a q=pr r (aR P i t) W a q:=fun a ha q=>by
    rw[OX];unfold aR
    by_cases e1:a=i
    ·rw[if_pos e1,if_pos e1];exact hP2 t ht q
    ·rw[if_neg e1,if_neg e1]
     by_cases e2:a=t
     ·rw[if_pos e2,if_pos e2];exact hP2 i EM q
     ·rw[if_neg e2,if_neg e2];exact hP2 a ha q
   have hsd:bH r (aR P i t)*(if i=t then s.d else - s.d)=1:=by
    by_cases e:i=t
    ·subst e
     rw[if_pos rfl,show aR P i i=P from by
      funext a;unfold aR
      by_cases e1:a=i
      ·rw[if_pos e1,e1]
      ·rw[if_neg e1,if_neg e1],hP1]
    ·rw[if_neg e,(eb r).swap P EM ht e];grind
   generalize aR s.w i t=w1 at*
   generalize aR P i t=Q at*
   have hinv:=Rat.mul_inv_cancel _ rR
   refine⟨fun a q=>if a=t then(w1 t k)⁻¹*Q t q else Q a q+(- w1 a k*(w1 t k)⁻¹)*Q t q, ?_, ?_⟩
   ·have e1:=(eb r).Zk (setRow Q t fun q=>(w1 t k)⁻¹*Q t q) ht fun a=> - w1 a k
    rw[(eb r).smul Q _ _ ht,show setRow Q t (fun q=>Q t q)=Q from setRow_self Q t]at e1
    rw[aO (B:=fun a q=>if a=t then setRow Q t (fun q=>(w1 t k)⁻¹*Q t q) t q else setRow Q t (fun q=>(w1 t k)⁻¹*Q t q) a q+ - w1 a k*setRow Q t (fun q=>(w1 t k)⁻¹*Q t q) t q) fun a q _ _=>by
     rw[aU]
     by_cases e:a=t
     ·rw[if_pos e,if_pos e]
     ·rw[if_neg e,if_neg e,aV _ _ e];grind,e1]
    show(w1 t k)⁻¹*bH r Q*((if i=t then s.d else - s.d)*w1 t k)=1
    grind
   ·intro a ha q
    show fX w1 t k a q=_
    unfold fX pr
    by_cases e:a=t
    ·rw[if_pos e,Zl t ht q,Rat.div_def,pr,ao r (f:=fun p=>(if a=t then(w1 t k)⁻¹*Q t p else Q a p+(- w1 a k*(w1 t k)⁻¹)*Q t p)*W p q) (g:=fun p=>(w1 t k)⁻¹*(Q t p*W p q)) fun p _=>by rw[if_pos e];grind,←bC];grind
    ·rw[if_neg e,Zl t ht q,Zl a ha q,Rat.div_def,pr,ao r (f:=fun p=>(if a=t then(w1 t k)⁻¹*Q t p else Q a p+(- w1 a k*(w1 t k)⁻¹)*Q t p)*W p q) (g:=fun p=>Q a p*W p q+(- w1 a k*(w1 t k)⁻¹)*(Q t p*W p q)) fun p _=>by rw[if_neg e];grind,sum_add,←bC]
     unfold pr;grind
theorem Inv.red {r:Nat} {W:Mx}:∀c,Inv r W c (pq r c ⟨W,[],1⟩)
 |0=>Inv.start r W
 |c+1=>by rw[sJ];exact(Inv.red c).step
end Go.Proofs.YtfpagioknjjacaaGreatDoor
