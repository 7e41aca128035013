/- The texts Qf, Qh. -/
import Derived.Test.YtfpagioknjjacaaGreatDoorQMModesCount12
import Derived.Test.YtfpagioknjjacaaGreatDoorQMModesCount9
import Derived.Test.YtfpagioknjjacaaGreatDoorQMModesCount13
import Derived.Test.YtfpagioknjjacaaGreatDoorQMModesCount6
namespace Go.Sx
set_option linter.unusedSimpArgs false
set_option linter.unusedVariables false
set_option maxRecDepth 100000
set_option maxHeartbeats 4000000
structure ic (args:List SV) (fk:List (Nat×aA)) (c:SV) (new upd:List (Nat×aA)):Prop where
 VS:er (fN args) (ax fk)=true
 fkr:er (gQ fk) (ax fk)=true
 nd:oO (ax fk++ax new)=true
 VT:rK new=true
 VU:∀k b,(k,b)∈upd→b.wr=true
 K6:∀k b,(k,b)∈upd→∃b0,(k,b0)∈fk∧b0.wr=true∧b0.data.live=true
 FT:∀k b,(k,b)∈fk→b.wr=true→b.data.live=true→∃b',(k,b')∈upd
 cr:er (refs c) (ax fk++ax new)=true
 nr:er (gQ new) (ax fk++ax new)=true
 ur:er (gQ upd) (ax fk++ax new)=true
 pass:args.all bp=true
theorem ic.of {args:List SV} {fk:List (Nat×aA)} {c:SV} {new upd:List (Nat×aA)} (h1:er (fN args) (ax fk)=true) (h2:er (gQ fk) (ax fk)=true) (h3:oO (ax fk++ax new)=true)
  (h4:rK new=true) (h5:(upd.all fun x=>x.2.wr)=true) (h6:Aj fk upd=true) (h7:rS upd fk=true) (h8:er (refs c) (ax fk++ax new)=true) (h9:er (gQ new) (ax fk++ax new)=true)
  (h10:er (gQ upd) (ax fk++ax new)=true) (h11:args.all bp=true):ic args fk c new upd:=
 ⟨h1,h2,h3,h4,fun k b hm=>List.all_eq_true.1 h5 _ hm,nC h6,nD h7,h8,h9,h10,h11⟩
theorem acf {P:Program} {T:List (TypeId×TI)} {Z:List Nat} (hT:db P T) (hm:P.follows .mixedOrders=true) {f:FuncId} {fn':Func} {code:Code} (hf:P.funcs[f]? =some fn') (hb:fn'.body=some code)
  (hn:(fn'.name== "runtime.NumGoroutine")=false) {args:List SV} {fk:List (Nat×aA)} {c:SV} {new upd:List (Nat×aA)} (hs:ic args fk c new upd) (hnt:Nat.ble args.length fn'.ntmps=true)
  (σ:Nat→Nat) (hσ:bh fk new σ)
  (h:∀W0 w0 ρ0,Env.OK ⟨P,T,W0,w0,fn'.ntmps,ρ0,ax fk,Z,none⟩→BG ⟨P,T,W0,w0,fn'.ntmps,ρ0,ax fk,Z,none⟩ code (Kj T fn'.results.toList (Fin c new upd)) (enum 0 args) fk):
  af P f (kJ σ args) (jC σ fk) (eE σ c) (jC σ new) (jC σ upd):=by
 have KW:=Nat.le_of_ble_eq_true hnt
 refine .inl ⟨⟨fn',hf,hn,by rw[hb];rfl⟩,fun ρ w z hz BK=> ?_⟩
 have SF:=lY hs.nd
 have K9:(ax fk).Nodup:=(List.nodup_append.1 SF).1
 have agX:(ax new).Nodup:=(List.nodup_append.1 SF).2.1
 have La:∀m∈ax new,m∉ax fk:=fun m hm hq=>(List.nodup_append.1 SF).2.2 m hq m hm rfl
 let ρ1:bI:=⟨fun q=>if q∈ax fk then ρ.key (σ q)else none,ρ.aT,ρ.b7⟩
 have C4:∀q∈ax fk,ρ.key (σ q)=ρ1.key q:=fun q hq=>by
  show _=if q∈ax fk then _ else _
  rw[if_pos hq]
 have Lb:∀q x,ρ1.key q=some x→q∈ax fk:=fun q x hx=>by
  have hx:(if q∈ax fk then ρ.key (σ q)else none)=some x:=hx
  by_cases hq:q∈ax fk
  ·exact hq
  ·rw[if_neg hq]at hx;cases hx
 let W0:Nat→Prop:=fun b=>∃q blk t,(q,blk)∈upd∧ρ1.key q=some (b,t)
 let E:Env:=⟨P,T,W0,w,fn'.ntmps,ρ1,ax fk,Z,none⟩
 have hE:E.OK:=⟨hT,hm,Lb⟩
 have Lc:=du hs.VS
 have Jc:au ρ1 args z:=(dh (ρ:=ρ1) (ρ':=ρ) (σ:=σ) rfl args z (fun k hk=>C4 k (Lc k hk))).1 hz
 have pq:z.length=args.length:=cJ Jc
 have oi:∀(l:List SV) (y:List (List Value)),au ρ1 l y→l.all bp=true→∀(j:Nat) (c:SV),l[j]? =some c→∃v,(List.zipWith ct l y)[j]? =some v∧Has ρ1 c v:=by
  intro l
  induction l with
  |nil=>intro y _ _ j c h;simp at h
  |cons d l ih=>
   intro y hy hp j c hj
   simp only[au]at hy
   obtain⟨x,r,rfl,g1,g2⟩:=hy
   simp only[List.all_cons,Bool.and_eq_true]at hp
   cases j with
   |zero=>
    simp at hj
    subst hj
    exact⟨ct d x,by simp,(jN hp.1).2 ⟨x,g1,rfl⟩⟩
   |succ j=>simpa using ih r g2 hp.2 j c (by simpa using hj)
 have oe:((List.zipWith ct args z).toArray++Array.replicate (fn'.ntmps - (List.zipWith ct args z).toArray.size) undef).size=fn'.ntmps:=by
  simp[pq]
  omega
 have VV:=du hs.fkr
 have oP:∀k b,find fk k=some b→(k,b)∈fk:=fun k b hb=>jc hb
 have hR:R E.W0 E.w0 E.n ρ1 (fn (enum 0 args) fk) {tmps:=(List.zipWith ct args z).toArray++Array.replicate (fn'.ntmps - (List.zipWith ct args z).toArray.size) undef,defers:=[]} w:={
  defers:=.nil
  size:=oe
  fr:=fun t sv ht=>by
   simp only[fn,LV.sv]at ht
   obtain⟨_,h2⟩:=rG args 0 t sv ht
   obtain⟨v,h3,h4⟩:=oi args z Jc hs.pass t sv (by simpa using h2)
   have aI:t<(List.zipWith ct args z).length:=(List.getElem?_eq_some_iff.1 h3).1
   have:((List.zipWith ct args z).toArray++Array.replicate (fn'.ntmps - (List.zipWith ct args z).toArray.size) undef).getD t undef=v:=by
    rw[Array.getD_eq_getD_getElem?,Array.getElem?_append_left (by simpa using aI)]
    simp[h3]
   rw[this];exact h4
  bw:=.refl _ _
  hp:={
   blk:=fun k b hb=>by
    have hm:=oP k b hb
    have:=BK.mj (σ k) (dE σ b) (bx.2 ⟨k,b,hm,rfl,rfl⟩)
    exact(ji (ρ:=ρ1) (ρ':=ρ) (σ:=σ) rfl k b (C4 k (aP.2 ⟨b,hm⟩)) (fun j hj=>C4 j (VV j (iD hm j hj)))).1 this
   sep:=fun k k' x x' b b' hx pZ a7 he hb fV hl ql=>by
    have hm:=oP k b hb
    have C5:=oP k' b' fV
    have Kd:ρ.key (σ k)=some x:=by rw[C4 k (aP.2 ⟨b,hm⟩)];exact hx
    have VW:ρ.key (σ k')=some x':=by rw[C4 k' (aP.2 ⟨b',C5⟩)];exact pZ
    cases hw:b.wr with
    |false=>rfl
    |true=>
     have:=BK.sep (σ k) (σ k') x x' (dE σ b) (dE σ b') (bx.2 ⟨k,b,hm,rfl,rfl⟩) (bx.2 ⟨k',b',C5,rfl,rfl⟩) Kd VW (hσ.inj k k' b b' hm C5 a7 hw) he (by rw[dE,cy];exact hl) (by rw[dE,cy];exact ql)
     rw[dE]at this
     rw[hw]at this;exact this
   own:=fun k b x hb hw hl hx=>by
    have hm:=oP k b hb
    obtain⟨b',hu⟩:=hs.FT k b hm hw hl
    exact .inr ⟨k,b',x.2,hu,hx⟩
   ud:=fun k x hx=>by
    obtain⟨b,hb⟩:=aP.1 (Lb k x hx)
    exact⟨b,by simp only[fn,LV.blk];exact jk K9 hb⟩
   aT:=BK.aT
   ep:=fun k b x hb hw hl hx=>by
    have hm:=oP k b hb
    have Kd:ρ.key (σ k)=some x:=by rw[C4 k (aP.2 ⟨b,hm⟩)];exact hx
    exact BK.ep (σ k) (dE σ b) x (bx.2 ⟨k,b,hm,rfl,rfl⟩) hw (by rw[dE,cy];exact hl) Kd}}
 have O9:=iC hE code _ _ _ (h E.W0 w ρ1 hE) _ w ⟨ρ1,⟨.refl _,(fun b o hb=>.inl hb),(fun _ _=>rfl)⟩,(fun k hk=>by
  obtain⟨b,hb⟩:=aP.1 hk
  simp only[fn,LV.blk,jk K9 hb]
  simp),hR⟩
 rw[px]
 refine jM (E:=E) rfl hf hb (fun _ _ _ h=>h) (fun _ _ h=>h) O9 ?_
 rintro e a' w' hdf ⟨fr',bW,hK,ρ',hext,_,kC⟩
 have fin:∀ob l,kH T fr' bW fn'.results.toList=some (ob,l)→Bm ob→Fin c new upd (qb l) bW→a'.defers=[]∧∃v,(results fn' a'.tmps).run P w'= .ok v w'∧∃v' ρ'',Ending.returned v= .returned v'∧jb ρ w (eE σ c) (jC σ new) (jC σ upd) v' ρ'' w':=by
  rintro ob l h1 h2 ⟨h3,eO,hupd⟩
  obtain⟨v,r1,r2⟩:=lW hE kC h1 h2
  let ρ2:bI:=⟨fun k=>match (ax new).find? (fun m=>σ m==k)with
   |some m=>ρ'.key m
   |none=>ρ.key k,ρ'.aT,ρ'.b7⟩
  have oQ:∀m∈ax new,ρ2.key (σ m)=ρ'.key m:=by
   intro m hm
   show(match (ax new).find? (fun j=>σ j==σ m)with|some m=>ρ'.key m|none=>ρ.key (σ m))=ρ'.key m
   cases ou:(ax new).find? (fun j=>σ j==σ m)with
   |none=>have:=List.find?_eq_none.1 ou m hm;simp at this
   |some j=>
    have hj:=List.mem_of_find?_eq_some ou
    have hjs:=List.find?_some ou
    have:j=m:=Classical.byContradiction fun a7=>hσ.K7 j m hj hm a7 (by simpa using hjs)
    rw[this]
  have xp:∀k,(∀m∈ax new,σ m≠k)→ρ2.key k=ρ.key k:=by
   intro k hk
   show(match (ax new).find? (fun j=>σ j==k)with|some m=>ρ'.key m|none=>ρ.key k)=ρ.key k
   cases ou:(ax new).find? (fun j=>σ j==k)with
   |none=>rfl
   |some j=>exact absurd (by simpa using List.find?_some ou) (hk j (List.mem_of_find?_eq_some ou))
  have k2:∀q∈ax fk++ax new,ρ2.key (σ q)=ρ'.key q:=by
   intro q hq
   rcases List.mem_append.1 hq with hq|hq
   ·rw[xp (σ q) (fun m hm=>hσ.K8 m q hm hq),C4 q hq,hext.fix q hq]
   ·exact oQ q hq
  have dd:∀m∈ax new,ρ.key (σ m)=none:=by
   intro m hm
   obtain⟨b,hb⟩:=aP.1 hm
   exact BK.fresh (σ m) (dE σ b) (bx.2 ⟨m,b,hb,rfl,rfl⟩)
  have gR:=ns hs.VT
  have Ld:=hs.VU
  have hnr:=du hs.nr
  have hur:=du hs.ur
  have hcr:=du hs.cr
  have nt:∀q b,(q,b)∈upd→q∈ax fk:=fun q b hq=>by
   obtain⟨b0,h1,_⟩:=hs.K6 q b hq
   exact aP.2 ⟨b0,h1⟩
  refine⟨hdf,v,r1,v,ρ2,rfl,⟨⟨fun k x hx=> ?_,fun b o hb=>hext.le.aT b o hb⟩, ?_,fun k hk=> ?_, ?_, ?_, ?_, ?_, ?_, ?_⟩⟩
  ·rw[xp k]
   ·exact hx
   ·rintro m hm rfl
    rw[dd m hm]at hx;cases hx
  ·exact(vT (ρ:=ρ') (ρ':=ρ2) (σ:=σ) rfl c v (fun k hk=>k2 k (hcr k hk))).2 (h3 ρ' v r2)
  ·refine xp k fun m hm he=> ?_
   obtain⟨b,hb⟩:=aP.1 hm
   exact hk (dE σ b) (bx.2 ⟨m,b,hb,he.symm,rfl⟩)
  ·refine kC.bw.mono (fun b _ hb=> ?_)
   obtain⟨q,blk,t,hq,hx⟩:=hb
   refine⟨σ q,dE σ blk,t,bx.2 ⟨q,blk,hq,rfl,rfl⟩, ?_⟩
   rw[C4 q (nt q blk hq)];exact hx
  ·intro k b hk
   rcases hk with hk|hk
   ·obtain⟨q,b0,hq,rfl,rfl⟩:=bx.1 hk
    exact(ji (ρ:=ρ') (ρ':=ρ2) (σ:=σ) rfl q b0 (k2 q (List.mem_append.2 (.inl (nt q b0 hq)))) (fun j hj=>k2 j (hur j (iD hq j hj)))).2 (kC.hp.blk q b0 (by simp only[fn,LV.blk];exact hupd q b0 hq))
   ·obtain⟨q,b0,hq,rfl,rfl⟩:=bx.1 hk
    exact(ji (ρ:=ρ') (ρ':=ρ2) (σ:=σ) rfl q b0 (k2 q (List.mem_append.2 (.inr (aP.2 ⟨b0,hq⟩)))) (fun j hj=>k2 j (hnr j (iD hq j hj)))).2 (kC.hp.blk q b0 (by simp only[fn,LV.blk];exact eO q b0 hq))
  ·intro k b b' hk kE hl ql
   obtain⟨q,b0,hq,hqk,rfl⟩:=bx.1 hk
   obtain⟨q',b0',qn,hqk',rfl⟩:=bx.1 kE
   rw[dE,cy]at hl ql
   by_cases he:q=q'
   ·have h1:=hupd q b0 hq
    rw[he,hupd q' b0' qn]at h1
    rw[←Option.some.inj h1,ql]at hl;cases hl
   ·obtain⟨f,hf1,Hh,_⟩:=hs.K6 q b0 hq
    obtain⟨f',hf1',_⟩:=hs.K6 q' b0' qn
    exact hσ.inj q q' f f' hf1 hf1' he Hh (hqk.symm.trans hqk')
  ·intro k b x hk hx
   obtain⟨m,b0,hm,rfl,rfl⟩:=bx.1 hk
   rw[oQ m (aP.2 ⟨b0,hm⟩)]at hx
   have hfm:(fn fr' bW (.k m)).blk=some b0:=by simp only[fn,LV.blk];exact eO m b0 hm
   rcases kC.hp.own m b0 x hfm (gR m b0 hm).1 (gR m b0 hm).2 hx with h4|⟨q,bu,t,hq,hxq⟩
   ·exact .inl h4
   ·have hqf:=nt q bu hq
    have a7:m≠q:=fun he=>La m (aP.2 ⟨b0,hm⟩) (he▸hqf)
    have VX:ρ'.key q=some (x.1,t):=by rw[hext.fix q hqf];exact hxq
    cases hbl:bu.data.live with
    |true=>
     have:=kC.hp.sep m q x (x.1,t) b0 bu hx VX a7 rfl hfm (by simp only[fn,LV.blk];exact hupd q bu hq) (gR m b0 hm).2 hbl
     rw[(gR m b0 hm).1]at this;cases this
    |false=>
     refine .inr ⟨σ q,dE σ bu,t,bx.2 ⟨q,bu,hq,rfl,rfl⟩,by rw[dE,cy];exact hbl, ?_⟩
     rw[C4 q hqf];exact hxq
  ·intro k b k' b' x x' hk kE a7 hx pZ he
   obtain⟨m,b0,hm,rfl,rfl⟩:=bx.1 hk
   obtain⟨m',b0',C5,rfl,rfl⟩:=bx.1 kE
   rw[oQ m (aP.2 ⟨b0,hm⟩)]at hx
   rw[oQ m' (aP.2 ⟨b0',C5⟩)]at pZ
   have:=kC.hp.sep m m' x x' b0 b0' hx pZ (fun h=>a7 (by rw[h])) he (by simp only[fn,LV.blk];exact eO m b0 hm) (by simp only[fn,LV.blk];exact eO m' b0' C5) (gR m b0 hm).2 (gR m' b0' C5).2
   rw[(gR m b0 hm).1]at this;cases this
  ·intro b o hb
   rcases hext.aT b o hb with h4|h4
   ·exact .inl h4
   ·refine .inr ⟨h4,kC.hp.aT b o hb,fun k blk x hk hx he=> ?_⟩
    obtain⟨m,b0,hm,rfl,rfl⟩:=bx.1 hk
    rw[oQ m (aP.2 ⟨b0,hm⟩)]at hx
    have:=kC.hp.ep m b0 x (by simp only[fn,LV.blk];exact eO m b0 hm) (gR m b0 hm).1 (gR m b0 hm).2 hx
    rw[he]at this
    have fV:ρ'.aT b=some o:=hb
    rw[fV]at this;cases this
 cases e<;>simp only[Kj]at hK<;>simp only[bodyPost]
 ·split at hK
  ·rename_i ob l hl;exact fin ob l hl (b6 hK).1 (b6 hK).2
  ·exact hK.elim
 ·split at hK
  ·rename_i ob l hl;exact fin ob l hl (b6 hK).1 (b6 hK).2
  ·exact hK.elim
theorem E7 {E:Env} {j:Nat} {ty:TypeId} {wr:Bool} {cs:List SV} {fr:List (Nat×SV)} {hp:List (Nat×aA)} (hj:find hp j=some ⟨ty,wr,.one cs⟩) (od:aV cs=true) (SH:oH 1 cs=true) {a:Act} {w:World} (hR:RR E (fn fr hp) a w):
  RR E (fn fr ((j,⟨ty,wr,.seq 1 cs⟩)::hp)) a w:=by
 obtain⟨ρ,hext,hfx,hR⟩:=hR
 have eC:∀i b,(fn fr ((j,⟨ty,wr,.seq 1 cs⟩)::hp) (.k i)).blk=some b→∃b0,(fn fr hp (.k i)).blk=some b0∧b0.wr=b.wr∧b0.data.live=b.data.live∧(b0=b∨(i=j∧b0=⟨ty,wr,.one cs⟩∧b=⟨ty,wr,.seq 1 cs⟩)):=by
  intro i b hb
  simp only[fn,LV.blk,find]at hb ⊢
  cases hi:Nat.beq j i with
  |true=>
   rw[hi]at hb
   simp only[Option.some.injEq]at hb
   obtain rfl:=Nat.eq_of_beq_eq_true hi
   subst hb
   exact⟨_,hj,rfl,rfl,.inr ⟨rfl,rfl,rfl⟩⟩
  |false=>rw[hi]at hb;exact⟨b,hb,rfl,rfl,.inl rfl⟩
 refine⟨ρ,hext,fun i hi=> ?_,{defers:=hR.defers,size:=hR.size,fr:=fun u sv hu=>hR.fr u sv hu,bw:=hR.bw,hp:= ?_}⟩
 ·have:=hfx i hi
  simp only[fn,LV.blk,find]at this ⊢
  cases hb:Nat.beq j i with
  |true=>simp
  |false=>exact this
 ·constructor
  ·intro i b hb
   obtain⟨b0,h1,h2,h3,rfl|⟨rfl,rfl,rfl⟩⟩:=eC i b hb
   ·exact hR.hp.blk i b0 h1
   ·rcases hR.hp.blk i _ h1 with h4|⟨b',t,vs,ex,g1,g2,g3,g4,g5⟩|⟨_,h4⟩
    ·cases h4
    ·refine .inr (.inl ⟨b',t,vs,ex,g1,g2, ?_,g4,g5⟩)
     simp only[cQ]at g3 ⊢
     obtain⟨z,g6,g7⟩:=g3
     exact⟨z,b5 (ρ:=ρ) (ρ':=cE ρ.aT ρ.b7) (fun _ _ h=>h) cs z od g6,g7,jY SH⟩
    ·exact h4.elim
  ·intro i i' x x' b b' hx pZ hn hxe hb fV hl ql
   obtain⟨b0,h1,h2,h3,_⟩:=eC i b hb
   obtain⟨b0',h1',h2',h3',_⟩:=eC i' b' fV
   rw[←h2]
   exact hR.hp.sep i i' x x' b0 b0' hx pZ hn hxe h1 h1' (h3.trans hl) (h3'.trans ql)
  ·intro i b x hb hw hl hx
   obtain⟨b0,h1,h2,h3,_⟩:=eC i b hb
   exact hR.hp.own i b0 x h1 (h2.trans hw) (h3.trans hl) hx
  ·intro i x hx
   obtain⟨b,hb⟩:=hR.hp.ud i x hx
   simp only[fn,LV.blk,find]at hb ⊢
   cases hi:Nat.beq j i with
   |true=>exact⟨_,rfl⟩
   |false=>exact⟨b,hb⟩
  ·exact hR.hp.aT
  ·intro i b x hb hw hl hx
   obtain⟨b0,h1,h2,h3,_⟩:=eC i b hb
   exact hR.hp.ep i b0 x h1 (h2.trans hw) (h3.trans hl) hx
theorem CQ {ρ:bI}:∀{cs:List SV} {z:List (List Value)} {p:Nat} {c:SV},au ρ cs z→cs[p]? =some c→∃x,z[p]? =some x∧aG ρ c x
 |[],_,_,_,_,h=>by simp at h
 |d::cs,z,0,c,hz,h=>by
  simp only[au]at hz
  obtain⟨x,r,rfl,h1,_⟩:=hz
  simp only[List.getElem?_cons_zero,Option.some.injEq]at h
  subst h
  exact⟨x,rfl,h1⟩
 |d::cs,z,p+1,c,hz,h=>by
  simp only[au]at hz
  obtain⟨x,r,rfl,_,h2⟩:=hz
  obtain⟨y,h3,h4⟩:=CQ h2 (by simpa using h)
  exact⟨y,by simpa using h3,h4⟩
theorem yU {ρ:bI} {v:SV} {x:List Value}:∀{cs:List SV} {z:List (List Value)} {p:Nat},au ρ cs z→z[p]? =some x→aG ρ v x→au ρ (cs.set p v) z
 |[],z,p,hz,_,_=>by simpa using hz
 |d::cs,z,0,hz,h,hv=>by
  simp only[au]at hz
  obtain⟨y,r,rfl,_,h2⟩:=hz
  simp only[List.getElem?_cons_zero,Option.some.injEq]at h
  subst h
  simp only[List.set_cons_zero,au]
  exact⟨_,_,rfl,hv,h2⟩
 |d::cs,z,p+1,hz,h,hv=>by
  simp only[au]at hz
  obtain⟨y,r,rfl,h1,h2⟩:=hz
  simp only[List.set_cons_succ,au]
  exact⟨y,r,rfl,h1,yU h2 (by simpa using h) hv⟩
theorem N9 {ρ:bI} {w:Nat} {a:Option Addr} {l:List SV} (h:l=[]):aG ρ (ed w l) [.slice a 0 0]:=by
 subst h;exact nF (by simp only[aG];exact⟨rfl,rfl⟩)
theorem qR {E:Env} (jj pp k:Nat) {tj:TypeId} {wj:Bool} {cs:List SV} {fr:List (Nat×SV)} {hp:List (Nat×aA)} {ty:TypeId} {d:Data} {w i n:Nat} {xs:List SV} (hW:∀b,¬E.W0 b) (hjf:find hp jj=some ⟨tj,wj,.one cs⟩) (C8:jj≠k) (hpc:cs[pp]? =some (.aK k w i n)) (hk:find hp k=some ⟨ty,true,d⟩)
  (he:gT d=some xs) (hw:cW d=some w) (od:aV xs=true) (hn:i+n≤xs.length) {a:Act} {W:World} (hR:RR E (fn fr hp) a W):RR E (fn fr ((jj,⟨tj,wj,.one (cs.set pp (ed w (fM xs i (i+n))))⟩)::eD hp k ⟨ty,true,.dead⟩)) a W:=by
 have hl:d.live=true:=by cases d<;>simp[gT]at he<;>rfl
 obtain⟨ρ,hext,hfx,hR⟩:=hR
 have C6:(fn fr hp (.k k)).blk=some ⟨ty,true,d⟩:=by simp only[fn,LV.blk];exact hk
 have V0:(fn fr hp (.k jj)).blk=some ⟨tj,wj,.one cs⟩:=by simp only[fn,LV.blk];exact hjf
 obtain⟨bj,nj,exj,zj,hj1,UT,hj3,hj4,hj5⟩:∃bj nj exj zj,ρ.key jj=some (bj,nj)∧W.heap[bj]? =some ((Data.one cs).obj (zj.flatten++exj) tj)∧au ρ cs zj∧(zj.flatten++exj).length=nj∧∀v∈exj,v.oneCell'=true:=by
  rcases hR.hp.blk jj _ V0 with g0|⟨b',t',vs,ex,g1,g2,⟨z,g3,rfl⟩,g4,g5⟩|⟨_,g2⟩
  ·cases g0
  ·exact⟨b',t',ex,z,g1,g2,g3,g4,g5⟩
  ·exact g2.elim
 obtain⟨x,hzx,hx⟩:=CQ hj3 hpc
 have eI:∀q b,(fn fr ((jj,⟨tj,wj,.one (cs.set pp (ed w (fM xs i (i+n))))⟩)::eD hp k ⟨ty,true,.dead⟩) (.k q)).blk=some b→(q=jj∧b=⟨tj,wj,.one (cs.set pp (ed w (fM xs i (i+n))))⟩)∨(q=k∧b=⟨ty,true,.dead⟩)∨(q≠jj∧q≠k∧(fn fr hp (.k q)).blk=some b):=by
  intro q b hb
  simp only[fn,LV.blk,find]at hb ⊢
  cases hq:Nat.beq jj q with
  |true=>
   rw[hq]at hb
   exact .inl ⟨(Nat.eq_of_beq_eq_true hq).symm,(Option.some.inj hb).symm⟩
  |false=>
   rw[hq]at hb
   simp only[bN]at hb
   have a7:q≠jj:=by rintro rfl;simp[Nat.beq_refl]at hq
   by_cases hj:q=k
   ·rw[if_pos hj]at hb;exact .inr (.inl ⟨hj,(Option.some.inj hb).symm⟩)
   ·rw[if_neg hj]at hb;exact .inr (.inr ⟨a7,hj,hb⟩)
 have fin:∀ρ':bI,ρ'.key=ρ.key→(∀b o,ρ.aT b=some o→ρ'.aT b=some o)→(∀b o,ρ'.aT b=some o→ρ.aT b=some o∨E.w0.heap.size≤b)→(∀b o,ρ'.aT b=some o→W.heap[b]? =some o)→
   (∀j b x,j≠k→(fn fr hp (.k j)).blk=some b→b.wr=true→b.data.live=true→ρ.key j=some x→ρ'.aT x.1=none)→(∀D,W.heap[D]? =some (.deferred (some []))→ρ.aT D=none→ρ'.aT D=none)→aG ρ' (ed w (fM xs i (i+n))) x→
   RR E (fn fr ((jj,⟨tj,wj,.one (cs.set pp (ed w (fM xs i (i+n))))⟩)::eD hp k ⟨ty,true,.dead⟩)) a W:=by
  intro ρ' bJ himm eO hheap jf hmark hhas
  have hle:ρ.Le ρ':=⟨fun j y hy=>by rw[bJ];exact hy,himm⟩
  refine⟨ρ',⟨hext.le.trans hle,fun b o hb=>(eO b o hb).elim (fun h=>hext.aT b o h) .inr,fun j hj=>by rw[bJ];exact hext.fix j hj⟩,fun j hj=> ?_,{defers:= ?_,size:=hR.size,fr:= ?_,bw:=hR.bw,hp:= ?_}⟩
  ·have:=hfx j hj
   simp only[fn,LV.blk,find]at this ⊢
   cases hq:Nat.beq jj j with
   |true=>simp
   |false=>
    simp only[bN]
    split
    ·simp
    ·exact this
  ·obtain⟨Ds,d1,d2,d3⟩:=hR.defers
   refine⟨Ds,d1,d2,fun D hD=> ?_⟩
   obtain⟨e1,e2,e3⟩:=d3 D hD
   refine⟨e1,e2, ?_⟩
   exact hmark D e2 e3
  ·intro u sv hu
   exact Has.mono hle _ _ (hR.fr u sv hu)
  ·have jB:∀q b,(fn fr ((jj,⟨tj,wj,.one (cs.set pp (ed w (fM xs i (i+n))))⟩)::eD hp k ⟨ty,true,.dead⟩) (.k q)).blk=some b→b.data.live=true→∃b0,(fn fr hp (.k q)).blk=some b0∧b0.wr=b.wr∧b0.data.live=true∧q≠k:=by
    intro q b hb hlv
    rcases eI q b hb with⟨rfl,rfl⟩|⟨_,rfl⟩|⟨_,h2,h3⟩
    ·exact⟨_,V0,rfl,rfl,C8⟩
    ·cases hlv
    ·exact⟨b,h3,rfl,hlv,h2⟩
   constructor
   ·intro q b hb
    rcases eI q b hb with⟨rfl,rfl⟩|⟨rfl,rfl⟩|⟨_,_,hb⟩
    ·refine .inr (.inl ⟨bj,nj,zj.flatten,exj,by rw[bJ];exact hj1,UT,⟨zj, ?_,rfl⟩,hj4,hj5⟩)
     exact yU (au.mono hle cs zj hj3) hzx hhas
    ·exact .inl rfl
    ·rcases hR.hp.blk q b hb with g0|⟨b',t',vs,ex,g1,g2,g3,g4⟩|⟨g1,g2⟩
     ·exact .inl g0
     ·exact .inr (.inl ⟨b',t',vs,ex,by rw[bJ];exact g1,g2,g3.mono hle,g4⟩)
     ·exact .inr (.inr ⟨by rw[bJ];exact g1,g2⟩)
   ·intro j j' y y' b b' hy FL a7 hyy hb fV gJ gI
    rw[bJ]at hy FL
    obtain⟨c0,h1,h2,h3,_⟩:=jB j b hb gJ
    obtain⟨c0',h1',h2',h3',_⟩:=jB j' b' fV gI
    rw[←h2]
    exact hR.hp.sep j j' y y' c0 c0' hy FL a7 hyy h1 h1' h3 h3'
   ·intro j b y hb hwr gJ hy
    rw[bJ]at hy
    obtain⟨c0,h1,h2,h3,_⟩:=jB j b hb gJ
    exact hR.hp.own j c0 y h1 (h2.trans hwr) h3 hy
   ·intro j y hy
    rw[bJ]at hy
    obtain⟨b,hb⟩:=hR.hp.ud j y hy
    simp only[fn,LV.blk,find]at hb ⊢
    cases hq:Nat.beq jj j with
    |true=>exact⟨_,rfl⟩
    |false=>
     simp only[bN]
     split
     ·exact⟨_,rfl⟩
     ·exact⟨b,hb⟩
   ·exact hheap
   ·intro j b y hb hwr gJ hy
    rw[bJ]at hy
    obtain⟨c0,h1,h2,h3,h4⟩:=jB j b hb gJ
    exact jf j c0 y h4 h1 (h2.trans hwr) h3 hy
 rcases qv (hR.hp.blk k _ C6) he hw od hn hx with⟨rfl,ad,rfl⟩|⟨b,t',o,h1,h2,h3⟩
 ·refine fin ρ rfl (fun _ _ h=>h) (fun _ _ h=>.inl h) hR.hp.aT (fun j b y _ hb hwr gJ hy=>hR.hp.ep j b y hb hwr gJ hy) (fun _ _ h=>h) ?_
  exact N9 (by simp[fM])
 ·have hB:E.w0.heap.size≤b:=(hR.hp.own k _ _ C6 rfl hl h1).resolve_right (hW _)
  obtain⟨u,xa⟩:=(Up.refl ρ W E.w0.heap.size).add hR.hp.aT hB h2
  refine fin ⟨ρ.key,_,u.b7⟩ rfl u.le (fun b o hb=>(u.new b o hb).imp id (fun h=>h.1)) (fun c p hc=> ?_) (fun j blk y hj hb hwr gJ hy=> ?_) (fun D Lm hD2=> ?_) ?_
  ·rcases u.new c p hc with h|h
   ·exact hR.hp.aT c p h
   ·exact h.2
  ·show(if y.1=b then some o else ρ.aT y.1)=none
   rw[if_neg]
   ·exact hR.hp.ep j blk y hb hwr gJ hy
   ·intro he2
    have:=hR.hp.sep k j (b,t') y _ _ h1 hy (fun h=>hj h.symm) he2.symm C6 hb hl gJ
    cases this
  ·show(if D=b then some o else ρ.aT D)=none
   rw[if_neg,hD2]
   rintro rfl
   rcases hR.hp.blk k _ C6 with g0|⟨b',t'',vs,ex,g1,g2,_⟩|⟨g1,_⟩
   ·rw[show Data.live d=false from g0]at hl;cases hl
   ·rw[h1]at g1;cases g1;rw[Lm]at g2;exact Data.jF (Option.some.inj g2).symm
   ·rw[h1]at g1;cases g1
  ·exact aG.mono (ow ⟨ρ.key,_,u.b7⟩ u.b7) _ _ (h3 _ u.b7 u.le (by simp))
theorem nY {E:Env} (t k:Nat) {fr:List (Nat×SV)} {hp:List (Nat×aA)} {ty:TypeId} {cs:List SV} (hW:∀b,¬E.W0 b) (ht:lk fr t=some (.ptr k 0 0 0)) (hk:find hp k=some ⟨ty,true,.one cs⟩)
  (od:aV cs=true) {a:Act} {W:World} (hR:RR E (fn fr hp) a W):RR E (fn ((t,cx cs)::fr) (eD hp k ⟨ty,true,.dead⟩)) a W:=by
 have hl:(Data.one cs).live=true:=rfl
 obtain⟨ρ,hext,hfx,hR⟩:=hR
 have C6:(fn fr hp (.k k)).blk=some ⟨ty,true,.one cs⟩:=by simp only[fn,LV.blk];exact hk
 have hv:=hR.fr t _ (by simp only[fn,LV.sv];exact ht)
 obtain⟨x,hx,hxv⟩:=(jN (c:=.ptr k 0 0 0) rfl).1 hv
 have eI:∀j b,(fn ((t,cx cs)::fr) (eD hp k ⟨ty,true,.dead⟩) (.k j)).blk=some b→(j=k∧b=⟨ty,true,.dead⟩)∨(j≠k∧(fn fr hp (.k j)).blk=some b):=by
  intro j b hb
  simp only[fn,LV.blk,bN]at hb ⊢
  by_cases hj:j=k
  ·rw[if_pos hj]at hb;exact .inl ⟨hj,(Option.some.inj hb).symm⟩
  ·rw[if_neg hj]at hb;exact .inr ⟨hj,hb⟩
 have fin:∀ρ':bI,ρ'.key=ρ.key→(∀b o,ρ.aT b=some o→ρ'.aT b=some o)→(∀b o,ρ'.aT b=some o→ρ.aT b=some o∨E.w0.heap.size≤b)→(∀b o,ρ'.aT b=some o→W.heap[b]? =some o)→
   (∀j b x,j≠k→(fn fr hp (.k j)).blk=some b→b.wr=true→b.data.live=true→ρ.key j=some x→ρ'.aT x.1=none)→(∀D,W.heap[D]? =some (.deferred (some []))→ρ.aT D=none→ρ'.aT D=none)→Has ρ' (cx cs) (a.tmps.getD t undef)→
   RR E (fn ((t,cx cs)::fr) (eD hp k ⟨ty,true,.dead⟩)) a W:=by
  intro ρ' bJ himm eO hheap jf hmark hhas
  have hle:ρ.Le ρ':=⟨fun j y hy=>by rw[bJ];exact hy,himm⟩
  refine⟨ρ',⟨hext.le.trans hle,fun b o hb=>(eO b o hb).elim (fun h=>hext.aT b o h) .inr,fun j hj=>by rw[bJ];exact hext.fix j hj⟩,fun j hj=> ?_,{defers:= ?_,size:=hR.size,fr:= ?_,bw:=hR.bw,hp:= ?_}⟩
  ·have:=hfx j hj
   simp only[fn,LV.blk,bN]at this ⊢
   split
   ·simp
   ·exact this
  ·obtain⟨Ds,d1,d2,d3⟩:=hR.defers
   refine⟨Ds,d1,d2,fun D hD=> ?_⟩
   obtain⟨e1,e2,e3⟩:=d3 D hD
   refine⟨e1,e2, ?_⟩
   exact hmark D e2 e3
  ·intro u sv hu
   simp only[fn,LV.sv,lk]at hu
   cases hb:Nat.beq t u with
   |true=>
    rw[hb]at hu
    simp only[Option.some.injEq]at hu
    subst hu
    rw[←Nat.eq_of_beq_eq_true hb]
    exact hhas
   |false=>rw[hb]at hu;exact Has.mono hle _ _ (hR.fr u sv (by simp only[fn,LV.sv];exact hu))
  ·constructor
   ·intro j b hb
    rcases eI j b hb with⟨rfl,rfl⟩|⟨hj,hb⟩
    ·exact .inl rfl
    ·rcases hR.hp.blk j b hb with g0|⟨b',t',vs,ex,g1,g2,g3,g4⟩|⟨g1,g2⟩
     ·exact .inl g0
     ·exact .inr (.inl ⟨b',t',vs,ex,by rw[bJ];exact g1,g2,g3.mono hle,g4⟩)
     ·exact .inr (.inr ⟨by rw[bJ];exact g1,g2⟩)
   ·intro j j' y y' b b' hy FL a7 hyy hb fV gJ gI
    rw[bJ]at hy FL
    rcases eI j b hb with⟨_,rfl⟩|⟨_,hb⟩
    ·cases gJ
    rcases eI j' b' fV with⟨_,rfl⟩|⟨_,fV⟩
    ·cases gI
    exact hR.hp.sep j j' y y' b b' hy FL a7 hyy hb fV gJ gI
   ·intro j b y hb hwr gJ hy
    rw[bJ]at hy
    rcases eI j b hb with⟨_,rfl⟩|⟨_,hb⟩
    ·cases gJ
    exact hR.hp.own j b y hb hwr gJ hy
   ·intro j y hy
    rw[bJ]at hy
    obtain⟨b,hb⟩:=hR.hp.ud j y hy
    simp only[fn,LV.blk,bN]at hb ⊢
    split
    ·exact⟨_,rfl⟩
    ·exact⟨b,hb⟩
   ·exact hheap
   ·intro j b y hb hwr gJ hy
    rw[bJ]at hy
    rcases eI j b hb with⟨_,rfl⟩|⟨hj,hb⟩
    ·cases gJ
    exact jf j b y hj hb hwr gJ hy
 simp only[aG]at hx
 obtain⟨b,t',h1,rfl⟩:=hx
 rcases hR.hp.blk k _ C6 with g0|⟨b',t'',vs,ex,g1,g2,g3,g4,g5⟩|⟨g1,_⟩
 ·cases g0
 ·rw[h1]at g1
  cases g1
  rw[Data.ck rfl]at g2
  have h2:W.heap[b]? =some (.cells (vs++ex).toArray ty (0,0)):=g2
  simp only[cQ]at g3
  obtain⟨z,z1,rfl⟩:=g3
  have hB:E.w0.heap.size≤b:=(hR.hp.own k _ _ C6 rfl hl h1).resolve_right (hW _)
  obtain⟨u,xa⟩:=(Up.refl ρ W E.w0.heap.size).add hR.hp.aT hB h2
  refine fin ⟨ρ.key,_,u.b7⟩ rfl u.le (fun b o hb=>(u.new b o hb).imp id (fun h=>h.1)) (fun c p hc=> ?_) (fun j blk y hj hb hwr gJ hy=> ?_) (fun D Lm hD2=> ?_) ?_
  ·rcases u.new c p hc with h|h
   ·exact hR.hp.aT c p h
   ·exact h.2
  ·show(if y.1=b then some _ else ρ.aT y.1)=none
   rw[if_neg]
   ·exact hR.hp.ep j blk y hb hwr gJ hy
   ·intro he2
    have:=hR.hp.sep k j (b,t') y _ _ h1 hy (fun h=>hj h.symm) he2.symm C6 hb hl gJ
    cases this
  ·show(if D=b then some _ else ρ.aT D)=none
   rw[if_neg,hD2]
   rintro rfl
   rw[Lm]at h2;cases h2
  ·rw[hxv]
   have hz:au (cE (fun x=>if x=b then some (.cells (z.flatten++ex).toArray ty (0,0))else ρ.aT x) u.b7) cs z:=b5 (ρ:=ρ) u.le cs z od z1
   refine rA ⟨b,z,[],ex,ty,(0,0),if_pos rfl,hz, ?_⟩
   simp[ct,SV.aU]
 ·rw[h1]at g1;cases g1
end Go.Sx
namespace Go.Sx
set_option linter.unusedSimpArgs false
set_option linter.unusedVariables false
theorem yV {P:Program} {T:List (TypeId×TI)} {Z:List Nat} (hT:db P T) (hm:P.follows .mixedOrders=true) {f:FuncId} {fn':Func} {code:Code} (hf:P.funcs[f]? =some fn') (hb:fn'.body=some code)
  (hn:(fn'.name== "runtime.NumGoroutine")=false) {args:List SV} {fk:List (Nat×aA)} {c:SV} {new upd:List (Nat×aA)} (hs:ic args fk c new upd) (hnt:Nat.ble args.length fn'.ntmps=true) (hσ:bh fk new fun k=>k)
  (h:∀W0 w0 ρ0,Env.OK ⟨P,T,W0,w0,fn'.ntmps,ρ0,ax fk,Z,none⟩→BG ⟨P,T,W0,w0,fn'.ntmps,ρ0,ax fk,Z,none⟩ code (Kj T fn'.results.toList (Fin c new upd)) (enum 0 args) fk):
  af P f args fk c new upd:=by
 have:=acf hT hm hf hb hn hs hnt (fun k=>k) hσ h
 rwa [jT,pV,CO,pV new,pV upd]at this
theorem bh.id {fk new:List (Nat×aA)} (h:oO (ax fk++ax new)=true):bh fk new fun k=>k:=
 ⟨fun _ _ _ _ _ _ h _=>h,fun _ _ _ _ h=>h,fun m q hm hq e=>(List.nodup_append.1 (lY h)).2.2 q hq m hm e.symm⟩
end Go.Sx
namespace Go.Proofs.YtfpagioknjjacaaGreatDoor
open Go.Sx
set_option linter.unusedSimpArgs false
set_option linter.unusedVariables false
set_option maxRecDepth 100000
set_option maxHeartbeats 40000000
theorem vz {w:Mx} {k:Nat}:∀{m i j:Nat},i≤j→j<i+m→(∀a,i≤a→a<j→w a k=0)→w j k≠0→il w k m i=some j
 |0,i,j,h1,h2,_,_=>aa
 |m+1,i,j,h1,h2,h3,h4=>by
  rw[il]
  by_cases e:i=j
  ·rw[e,if_neg h4]
  ·rw[if_pos (h3 i (Nat.le_refl _) aa)]
   exact vz aa aa (fun a ha hb=>h3 a aa hb) h4
theorem yW {w:Mx} {k:Nat}:∀{m i:Nat},(∀a,i≤a→a<i+m→w a k=0)→il w k m i=none
 |0,i,_=>rfl
 |m+1,i,h=>by
  rw[il,if_pos (h i (Nat.le_refl _) aa)]
  exact yW fun a ha hb=>h a aa aa
def fU (r:Nat) (s:St) (k:Nat):St:=
 match il s.w k (r - s.bU.length) s.bU.length with
 |none=>s
 |some i=>⟨ua (aO s.w i s.bU.length) s.bU.length k r,s.bU++[k],(if i=s.bU.length then s.d else - s.d)*aO s.w i s.bU.length s.bU.length k⟩
def mX (r c:Nat) (s:St):St:=(List.range c).foldl (fU r) s
theorem nZ (r c:Nat) (s:St):mX r (c+1) s=fU r (mX r c s) c:=by
 rw[mX,List.range_succ,List.foldl_append];rfl
theorem G5 {r i p:Nat} {w v:Mx} (h:∀a,a<r→w a=v a) (hi:i<r) (hp:p<r):∀a,a<r→aO w i p a=aO v i p a:=by
 intro a ha
 unfold aO
 by_cases e:a=i
 ·rw[if_pos e,if_pos e];exact h p hp
 ·rw[if_neg e,if_neg e]
  by_cases g:a=p
  ·rw[if_pos g,if_pos g];exact h i hi
  ·rw[if_neg g,if_neg g];exact h a ha
theorem yX {k r:Nat} {w v:Mx} (h:∀a,a<r→w a=v a):∀{m i:Nat},i+m≤r→il w k m i=il v k m i
 |0,_,_=>rfl
 |m+1,i,hm=>by
  rw[il,il,h i aa,yX h (i:=i+1) aa]
structure IG (r:Nat) (s t:St):Prop where
 bU:s.bU=t.bU
 d:s.d=t.d
 w:∀a,a<r→s.w a=t.w a
 le:s.bU.length≤r
theorem G6 {r k:Nat} {s t:St} (h:IG r s t):IG r (fU r s k) (pJ r t k):=by
 obtain⟨sw,sp,sd⟩:=s
 obtain⟨tw,tp,td⟩:=t
 obtain⟨rfl,rfl,hw,hl⟩:=h
 simp only at hw hl
 unfold fU pJ
 simp only
 rw[yX hw aa]
 cases hq:il tw k (r - sp.length) sp.length with
 |none=>exact⟨rfl,rfl,hw,hl⟩
 |some i=>
  have hs:=pI hq
  have hi:i<r:=aa
  have hp:sp.length<r:=aa
  have hsw:=G5 hw hi hp
  refine⟨rfl, ?_,fun a ha=> ?_, ?_⟩
  ·show _*_=_*_
   rw[hsw _ hp]
  ·show ua (aO sw i sp.length) sp.length k r a=fE (aO tw i sp.length) sp.length k a
   rw[RK _ ha]
   funext q
   unfold fE
   rw[hsw a ha,hsw _ hp]
  ·show(sp++[k]).length≤r
   rw[List.length_append];simp;omega
theorem mY (r:Nat) (w:Mx):∀c,IG r (mX r c ⟨w,[],1⟩) (p6 r c ⟨w,[],1⟩)
 |0=>⟨rfl,rfl,fun _ _=>rfl,Nat.zero_le _⟩
 |c+1=>by rw[nZ,AI];exact G6 (mY r w c)
structure U7 (r c A:Nat) (s:St):Prop where
 w:∀a q,a<r→q<c→fs (s.w a q)≤4^s.bU.length*A
 d:fs s.d≤4^s.bU.length*A
theorem E8 {r c i p B:Nat} {w:Mx} (h:∀a q,a<r→q<c→fs (w a q)≤B) (hi:i<r) (hp:p<r):∀a q,a<r→q<c→fs (aO w i p a q)≤B:=by
 intro a q ha hq
 unfold aO
 by_cases e:a=i
 ·rw[if_pos e];exact h p q hp hq
 ·rw[if_neg e]
  by_cases g:a=p
  ·rw[if_pos g];exact h i q hi hq
  ·rw[if_neg g];exact h a q ha hq
theorem U7.step {r c A k i:Nat} {sw:Mx} {sp:List Nat} {sd:Rat} (h:U7 r c A ⟨sw,sp,sd⟩) (hk:k<c) (hi:i<r) (hp:sp.length<r):U7 r c A ⟨ua (aO sw i sp.length) sp.length k r,sp++[k],(if i=sp.length then sd else - sd)*aO sw i sp.length sp.length k⟩:=by
 obtain⟨h1,h2⟩:=h
 simp only at h1 h2
 have hs:=E8 h1 hi hp
 have hl:(sp++[k]).length=sp.length+1:=by simp
 have h4:4^(sp.length+1)*A=4*(4^sp.length*A):=by rw[Nat.pow_succ,Nat.mul_comm (4^_) 4,Nat.mul_assoc]
 generalize 4^sp.length*A=B at h1 h2 hs h4
 refine⟨fun a q ha hq=> ?_, ?_⟩
 ·simp only
  rw[hl,h4]
  have a1:=hs _ q hp hq
  have a2:=hs _ k hp hk
  have a3:=hs a q ha hq
  have a4:=hs a k ha hk
  unfold ua
  have b1:=qz (aO sw i sp.length sp.length q) (aO sw i sp.length sp.length k)
  by_cases e:a=sp.length
  ·rw[if_pos e];omega
  ·rw[if_neg e,if_pos ha]
   have b2:=cT (aO sw i sp.length a k) (aO sw i sp.length sp.length q/aO sw i sp.length sp.length k)
   have b3:=uv (aO sw i sp.length a q) (aO sw i sp.length a k*(aO sw i sp.length sp.length q/aO sw i sp.length sp.length k))
   omega
 ·simp only
  rw[hl,h4]
  have a2:=hs _ k hp hk
  have b1:=cT (if i=sp.length then sd else - sd) (aO sw i sp.length sp.length k)
  have b2:fs (if i=sp.length then sd else - sd)=fs sd:=by split<;>simp[oX]
  omega
theorem JV {r k i:Nat} {sw:Mx} {sp:List Nat} {sd:Rat} (h1:sp.length≤i) (h2:i<r) (h3:∀a,sp.length≤a→a<i→sw a k=0) (h4:sw i k≠0):
  fU r ⟨sw,sp,sd⟩ k=⟨ua (aO sw i sp.length) sp.length k r,sp++[k],(if i=sp.length then sd else - sd)*aO sw i sp.length sp.length k⟩:=by
 unfold fU
 simp only
 rw[vz h1 aa h3 h4]
theorem JW {r k:Nat} {sw:Mx} {sp:List Nat} {sd:Rat} (hl:sp.length≤r) (h:∀a,sp.length≤a→a<r→sw a k=0):fU r ⟨sw,sp,sd⟩ k=⟨sw,sp,sd⟩:=by
 unfold fU
 simp only
 rw[yW fun a ha hb=>h a ha aa]
end Go.Proofs.YtfpagioknjjacaaGreatDoor
