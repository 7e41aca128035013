/- The texts Qf, Ng, Qh. -/
import Derived.Test.YtfpagioknjjacaaGreatDoorQMBareissKnown15
import Derived.Test.YtfpagioknjjacaaGreatDoorQMBareissKnown5
import Derived.Test.YtfpagioknjjacaaGreatDoorQMBareissKnown16
namespace Go.Sx
set_option linter.unusedSimpArgs false
set_option linter.unusedVariables false
set_option maxRecDepth 100000
set_option maxHeartbeats 4000000
structure fG (args:List SV) (fk:List (Nat×aC)) (c:SV) (new upd:List (Nat×aC)):Prop where
 RV:eI (gb args) (ax fk)=true
 fkr:eI (gU fk) (ax fk)=true
 nd:nT (ax fk++ax new)=true
 RX:qI new=true
 RY:∀k b,(k,b)∈upd→b.wr=true
 IS:∀k b,(k,b)∈upd→∃b0,(k,b0)∈fk∧b0.wr=true∧b0.data.live=true
 DD:∀k b,(k,b)∈fk→b.wr=true→b.data.live=true→∃b',(k,b')∈upd
 cr:eI (refs c) (ax fk++ax new)=true
 nr:eI (gU new) (ax fk++ax new)=true
 ur:eI (gU upd) (ax fk++ax new)=true
 pass:args.all bs=true
theorem fG.of {args:List SV} {fk:List (Nat×aC)} {c:SV} {new upd:List (Nat×aC)} (h1:eI (gb args) (ax fk)=true) (h2:eI (gU fk) (ax fk)=true) (h3:nT (ax fk++ax new)=true)
  (h4:qI new=true) (h5:(upd.all fun x=>x.2.wr)=true) (h6:yw fk upd=true) (h7:qO upd fk=true) (h8:eI (refs c) (ax fk++ax new)=true) (h9:eI (gU new) (ax fk++ax new)=true)
  (ZH:eI (gU upd) (ax fk++ax new)=true) (h11:args.all bs=true):fG args fk c new upd:=
 ⟨h1,h2,h3,h4,fun k b hm=>List.all_eq_true.1 h5 _ hm,mN h6,mO h7,h8,h9,ZH,h11⟩
theorem Zo {P:Program} {T:List (TypeId×TI)} {Z:List Nat} (hT:gQ P T) (hm:P.follows .mixedOrders=true) {f:FuncId} {fn':Func} {code:Code} (hf:P.funcs[f]? =some fn') (hb:fn'.body=some code)
  (hn:(fn'.name== "runtime.NumGoroutine")=false) {args:List SV} {fk:List (Nat×aC)} {c:SV} {new upd:List (Nat×aC)} (hs:fG args fk c new upd) (hnt:Nat.ble args.length fn'.ntmps=true)
  (σ:Nat→Nat) (hσ:bh fk new σ)
  (h:∀W0 w0 ρ0,Env.OK ⟨P,T,W0,w0,fn'.ntmps,ρ0,ax fk,Z,none⟩→Aa ⟨P,T,W0,w0,fn'.ntmps,ρ0,ax fk,Z,none⟩ code (H9 T fn'.results.toList (Fin c new upd)) (enum 0 args) fk):
  ab P f (kR σ args) (kT σ fk) (fc σ c) (kT σ new) (kT σ upd):=by
 have IK:=Nat.le_of_ble_eq_true hnt
 refine .inl ⟨⟨fn',hf,hn,by rw[hb];rfl⟩,fun ρ w z hz hpw=> ?_⟩
 have PH:=lj hs.nd
 have IV:(ax fk).Nodup:=(List.nodup_append.1 PH).1
 have ad5:(ax new).Nodup:=(List.nodup_append.1 PH).2.1
 have IW:∀m∈ax new,m∉ax fk:=fun m hm hq=>(List.nodup_append.1 PH).2.2 m hq m hm rfl
 let ρ1:bY:=⟨fun q=>if q∈ax fk then ρ.key (σ q)else none,ρ.aY,ρ.cq⟩
 have Br:∀q∈ax fk,ρ.key (σ q)=ρ1.key q:=fun q hq=>by
  show _=if q∈ax fk then _ else _
  rw[if_pos hq]
 have IX:∀q x,ρ1.key q=some x→q∈ax fk:=fun q x hx=>by
  have hx:(if q∈ax fk then ρ.key (σ q)else none)=some x:=hx
  by_cases hq:q∈ax fk
  ·exact hq
  ·rw[if_neg hq]at hx;cases hx
 let W0:Nat→Prop:=fun b=>∃q blk t,(q,blk)∈upd∧ρ1.key q=some (b,t)
 let E:Env:=⟨P,T,W0,w,fn'.ntmps,ρ1,ax fk,Z,none⟩
 have hE:E.OK:=⟨hT,hm,IX⟩
 have IY:=dI hs.RV
 have E7:au ρ1 args z:=(dA (ρ:=ρ1) (ρ':=ρ) (σ:=σ) rfl args z (fun k hk=>Br k (IY k hk))).1 hz
 have ph:z.length=args.length:=cR E7
 have lT:∀(l:List SV) (y:List (List Value)),au ρ1 l y→l.all bs=true→∀(j:Nat) (c:SV),l[j]? =some c→∃v,(List.zipWith cM l y)[j]? =some v∧Has ρ1 c v:=by
  intro l
  induction l with
  |nil=>intro y _ _ j c h;simp at h
  |cons d l ih=>
   intro y hy hp j c hj
   simp only[au]at hy
   obtain⟨x,r,rfl,g1,g2⟩:=hy
   simp only[List.all_cons,Bool.and_eq_true]at hp
   cases j with
   |zero=>
    simp at hj
    subst hj
    exact⟨cM d x,by simp,(iN hp.1).2 ⟨x,g1,rfl⟩⟩
   |succ j=>simpa using ih r g2 hp.2 j c (by simpa using hj)
 have s9:((List.zipWith cM args z).toArray++Array.replicate (fn'.ntmps - (List.zipWith cM args z).toArray.size) undef).size=fn'.ntmps:=by
  simp[ph]
  omega
 have RZ:=dI hs.fkr
 have nU:∀k b,find fk k=some b→(k,b)∈fk:=fun k b hb=>iS hb
 have hR:R E.W0 E.w0 E.n ρ1 (fn (enum 0 args) fk) {tmps:=(List.zipWith cM args z).toArray++Array.replicate (fn'.ntmps - (List.zipWith cM args z).toArray.size) undef,defers:=[]} w:={
  defers:=.nil
  size:=s9
  fr:=fun t sv ht=>by
   simp only[fn,LV.sv]at ht
   obtain⟨_,h2⟩:=qE args 0 t sv ht
   obtain⟨v,h3,h4⟩:=lT args z E7 hs.pass t sv (by simpa using h2)
   have aA:t<(List.zipWith cM args z).length:=(List.getElem?_eq_some_iff.1 h3).1
   have:((List.zipWith cM args z).toArray++Array.replicate (fn'.ntmps - (List.zipWith cM args z).toArray.size) undef).getD t undef=v:=by
    rw[Array.getD_eq_getD_getElem?,Array.getElem?_append_left (by simpa using aA)]
    simp[h3]
   rw[this];exact h4
  bO:=.refl _ _
  hp:={
   blk:=fun k b hb=>by
    have hm:=nU k b hb
    have:=hpw.mu (σ k) (dM σ b) (bI.2 ⟨k,b,hm,rfl,rfl⟩)
    exact(iY (ρ:=ρ1) (ρ':=ρ) (σ:=σ) rfl k b (Br k (aT.2 ⟨b,hm⟩)) (fun j hj=>Br j (RZ j (iD hm j hj)))).1 this
   sep:=fun k k' x x' b b' hx pG b6 he hb gj hl qh=>by
    have hm:=nU k b hb
    have DE:=nU k' b' gj
    have H3:ρ.key (σ k)=some x:=by rw[Br k (aT.2 ⟨b,hm⟩)];exact hx
    have R3:ρ.key (σ k')=some x':=by rw[Br k' (aT.2 ⟨b',DE⟩)];exact pG
    cases hw:b.wr with
    |false=>rfl
    |true=>
     have:=hpw.sep (σ k) (σ k') x x' (dM σ b) (dM σ b') (bI.2 ⟨k,b,hm,rfl,rfl⟩) (bI.2 ⟨k',b',DE,rfl,rfl⟩) H3 R3 (hσ.inj k k' b b' hm DE b6 hw) he (by rw[dM,cI];exact hl) (by rw[dM,cI];exact qh)
     rw[dM]at this
     rw[hw]at this;exact this
   own:=fun k b x hb hw hl hx=>by
    have hm:=nU k b hb
    obtain⟨b',hu⟩:=hs.DD k b hm hw hl
    exact .inr ⟨k,b',x.2,hu,hx⟩
   rL:=fun k x hx=>by
    obtain⟨b,hb⟩:=aT.1 (IX k x hx)
    exact⟨b,by simp only[fn,LV.blk];exact iZ IV hb⟩
   aY:=hpw.aY
   fb:=fun k b x hb hw hl hx=>by
    have hm:=nU k b hb
    have H3:ρ.key (σ k)=some x:=by rw[Br k (aT.2 ⟨b,hm⟩)];exact hx
    exact hpw.fb (σ k) (dM σ b) x (bI.2 ⟨k,b,hm,rfl,rfl⟩) hw (by rw[dM,cI];exact hl) H3}}
 have Ms:=iC hE code _ _ _ (h E.W0 w ρ1 hE) _ w ⟨ρ1,⟨.refl _,(fun b o hb=>.inl hb),(fun _ _=>rfl)⟩,(fun k hk=>by
  obtain⟨b,hb⟩:=aT.1 hk
  simp only[fn,LV.blk,iZ IV hb]
  simp),hR⟩
 rw[oz]
 refine jH (E:=E) rfl hf hb (fun _ _ _ h=>h) (fun _ _ h=>h) Ms ?_
 rintro e a' w' hdf ⟨fr',cd,hK,ρ',hext,_,jw⟩
 have fin:∀ob l,jY T fr' cd fn'.results.toList=some (ob,l)→Bn ob→Fin c new upd (pw l) cd→a'.defers=[]∧∃v,(results fn' a'.tmps).run P w'= .ok v w'∧∃v' ρ'',Ending.returned v= .returned v'∧jA ρ w (fc σ c) (kT σ new) (kT σ upd) v' ρ'' w':=by
  rintro ob l h1 h2 ⟨h3,fg,hupd⟩
  obtain⟨v,r1,r2⟩:=lh hE jw h1 h2
  let ρ2:bY:=⟨fun k=>match (ax new).find? (fun m=>σ m==k)with
   |some m=>ρ'.key m
   |none=>ρ.key k,ρ'.aY,ρ'.cq⟩
  have nV:∀m∈ax new,ρ2.key (σ m)=ρ'.key m:=by
   intro m hm
   show(match (ax new).find? (fun j=>σ j==σ m)with|some m=>ρ'.key m|none=>ρ.key (σ m))=ρ'.key m
   cases DF:(ax new).find? (fun j=>σ j==σ m)with
   |none=>have:=List.find?_eq_none.1 DF m hm;simp at this
   |some j=>
    have hj:=List.mem_of_find?_eq_some DF
    have hjs:=List.find?_some DF
    have:j=m:=Classical.byContradiction fun b6=>hσ.IT j m hj hm b6 (by simpa using hjs)
    rw[this]
  have vV:∀k,(∀m∈ax new,σ m≠k)→ρ2.key k=ρ.key k:=by
   intro k hk
   show(match (ax new).find? (fun j=>σ j==k)with|some m=>ρ'.key m|none=>ρ.key k)=ρ.key k
   cases DF:(ax new).find? (fun j=>σ j==k)with
   |none=>rfl
   |some j=>exact absurd (by simpa using List.find?_some DF) (hk j (List.mem_of_find?_eq_some DF))
  have k2:∀q∈ax fk++ax new,ρ2.key (σ q)=ρ'.key q:=by
   intro q hq
   rcases List.mem_append.1 hq with hq|hq
   ·rw[vV (σ q) (fun m hm=>hσ.IU m q hm hq),Br q hq,hext.fix q hq]
   ·exact nV q hq
  have du:∀m∈ax new,ρ.key (σ m)=none:=by
   intro m hm
   obtain⟨b,hb⟩:=aT.1 hm
   exact hpw.fresh (σ m) (dM σ b) (bI.2 ⟨m,b,hb,rfl,rfl⟩)
  have gV:=mI hs.RX
  have IZ:=hs.RY
  have hnr:=dI hs.nr
  have hur:=dI hs.ur
  have ZE:=dI hs.cr
  have mJ:∀q b,(q,b)∈upd→q∈ax fk:=fun q b hq=>by
   obtain⟨b0,h1,_⟩:=hs.IS q b hq
   exact aT.2 ⟨b0,h1⟩
  refine⟨hdf,v,r1,v,ρ2,rfl,⟨⟨fun k x hx=> ?_,fun b o hb=>hext.le.aY b o hb⟩, ?_,fun k hk=> ?_, ?_, ?_, ?_, ?_, ?_, ?_⟩⟩
  ·rw[vV k]
   ·exact hx
   ·rintro m hm rfl
    rw[du m hm]at hx;cases hx
  ·exact(uK (ρ:=ρ') (ρ':=ρ2) (σ:=σ) rfl c v (fun k hk=>k2 k (ZE k hk))).2 (h3 ρ' v r2)
  ·refine vV k fun m hm he=> ?_
   obtain⟨b,hb⟩:=aT.1 hm
   exact hk (dM σ b) (bI.2 ⟨m,b,hb,he.symm,rfl⟩)
  ·refine jw.bO.mono (fun b _ hb=> ?_)
   obtain⟨q,blk,t,hq,hx⟩:=hb
   refine⟨σ q,dM σ blk,t,bI.2 ⟨q,blk,hq,rfl,rfl⟩, ?_⟩
   rw[Br q (mJ q blk hq)];exact hx
  ·intro k b hk
   rcases hk with hk|hk
   ·obtain⟨q,b0,hq,rfl,rfl⟩:=bI.1 hk
    exact(iY (ρ:=ρ') (ρ':=ρ2) (σ:=σ) rfl q b0 (k2 q (List.mem_append.2 (.inl (mJ q b0 hq)))) (fun j hj=>k2 j (hur j (iD hq j hj)))).2 (jw.hp.blk q b0 (by simp only[fn,LV.blk];exact hupd q b0 hq))
   ·obtain⟨q,b0,hq,rfl,rfl⟩:=bI.1 hk
    exact(iY (ρ:=ρ') (ρ':=ρ2) (σ:=σ) rfl q b0 (k2 q (List.mem_append.2 (.inr (aT.2 ⟨b0,hq⟩)))) (fun j hj=>k2 j (hnr j (iD hq j hj)))).2 (jw.hp.blk q b0 (by simp only[fn,LV.blk];exact fg q b0 hq))
  ·intro k b b' hk my hl qh
   obtain⟨q,b0,hq,hqk,rfl⟩:=bI.1 hk
   obtain⟨q',b0',xM,hqk',rfl⟩:=bI.1 my
   rw[dM,cI]at hl qh
   by_cases he:q=q'
   ·have h1:=hupd q b0 hq
    rw[he,hupd q' b0' xM]at h1
    rw[←Option.some.inj h1,qh]at hl;cases hl
   ·obtain⟨f,hf1,hf2,_⟩:=hs.IS q b0 hq
    obtain⟨f',hf1',_⟩:=hs.IS q' b0' xM
    exact hσ.inj q q' f f' hf1 hf1' he hf2 (hqk.symm.trans hqk')
  ·intro k b x hk hx
   obtain⟨m,b0,hm,rfl,rfl⟩:=bI.1 hk
   rw[nV m (aT.2 ⟨b0,hm⟩)]at hx
   have hfm:(fn fr' cd (.k m)).blk=some b0:=by simp only[fn,LV.blk];exact fg m b0 hm
   rcases jw.hp.own m b0 x hfm (gV m b0 hm).1 (gV m b0 hm).2 hx with h4|⟨q,bu,t,hq,hxq⟩
   ·exact .inl h4
   ·have ZF:=mJ q bu hq
    have b6:m≠q:=fun he=>IW m (aT.2 ⟨b0,hm⟩) (he▸ZF)
    have R4:ρ'.key q=some (x.1,t):=by rw[hext.fix q ZF];exact hxq
    cases Yi:bu.data.live with
    |true=>
     have:=jw.hp.sep m q x (x.1,t) b0 bu hx R4 b6 rfl hfm (by simp only[fn,LV.blk];exact hupd q bu hq) (gV m b0 hm).2 Yi
     rw[(gV m b0 hm).1]at this;cases this
    |false=>
     refine .inr ⟨σ q,dM σ bu,t,bI.2 ⟨q,bu,hq,rfl,rfl⟩,by rw[dM,cI];exact Yi, ?_⟩
     rw[Br q ZF];exact hxq
  ·intro k b k' b' x x' hk my b6 hx pG he
   obtain⟨m,b0,hm,rfl,rfl⟩:=bI.1 hk
   obtain⟨m',b0',DE,rfl,rfl⟩:=bI.1 my
   rw[nV m (aT.2 ⟨b0,hm⟩)]at hx
   rw[nV m' (aT.2 ⟨b0',DE⟩)]at pG
   have:=jw.hp.sep m m' x x' b0 b0' hx pG (fun h=>b6 (by rw[h])) he (by simp only[fn,LV.blk];exact fg m b0 hm) (by simp only[fn,LV.blk];exact fg m' b0' DE) (gV m b0 hm).2 (gV m' b0' DE).2
   rw[(gV m b0 hm).1]at this;cases this
  ·intro b o hb
   rcases hext.aY b o hb with h4|h4
   ·exact .inl h4
   ·refine .inr ⟨h4,jw.hp.aY b o hb,fun k blk x hk hx he=> ?_⟩
    obtain⟨m,b0,hm,rfl,rfl⟩:=bI.1 hk
    rw[nV m (aT.2 ⟨b0,hm⟩)]at hx
    have:=jw.hp.fb m b0 x (by simp only[fn,LV.blk];exact fg m b0 hm) (gV m b0 hm).1 (gV m b0 hm).2 hx
    rw[he]at this
    have gj:ρ'.aY b=some o:=hb
    rw[gj]at this;cases this
 cases e<;>simp only[H9]at hK<;>simp only[bodyPost]
 ·split at hK
  ·rename_i ob l hl;exact fin ob l hl (cl hK).1 (cl hK).2
  ·exact hK.elim
 ·split at hK
  ·rename_i ob l hl;exact fin ob l hl (cl hK).1 (cl hK).2
  ·exact hK.elim
theorem Lt {E:Env} {j:Nat} {ty:TypeId} {wr:Bool} {cs:List SV} {fr:List (Nat×SV)} {hp:List (Nat×aC)} (hj:find hp j=some ⟨ty,wr,.one cs⟩) (mF:bn cs=true) (PJ:pI 1 cs=true) {a:Act} {w:World} (hR:RR E (fn fr hp) a w):
  RR E (fn fr ((j,⟨ty,wr,.seq 1 cs⟩)::hp)) a w:=by
 obtain⟨ρ,hext,hfx,hR⟩:=hR
 have gw:∀i b,(fn fr ((j,⟨ty,wr,.seq 1 cs⟩)::hp) (.k i)).blk=some b→∃b0,(fn fr hp (.k i)).blk=some b0∧b0.wr=b.wr∧b0.data.live=b.data.live∧(b0=b∨(i=j∧b0=⟨ty,wr,.one cs⟩∧b=⟨ty,wr,.seq 1 cs⟩)):=by
  intro i b hb
  simp only[fn,LV.blk,find]at hb ⊢
  cases hi:Nat.beq j i with
  |true=>
   rw[hi]at hb
   simp only[Option.some.injEq]at hb
   obtain rfl:=Nat.eq_of_beq_eq_true hi
   subst hb
   exact⟨_,hj,rfl,rfl,.inr ⟨rfl,rfl,rfl⟩⟩
  |false=>rw[hi]at hb;exact⟨b,hb,rfl,rfl,.inl rfl⟩
 refine⟨ρ,hext,fun i hi=> ?_,{defers:=hR.defers,size:=hR.size,fr:=fun u sv hu=>hR.fr u sv hu,bO:=hR.bO,hp:= ?_}⟩
 ·have:=hfx i hi
  simp only[fn,LV.blk,find]at this ⊢
  cases hb:Nat.beq j i with
  |true=>simp
  |false=>exact this
 ·constructor
  ·intro i b hb
   obtain⟨b0,h1,h2,h3,rfl|⟨rfl,rfl,rfl⟩⟩:=gw i b hb
   ·exact hR.hp.blk i b0 h1
   ·rcases hR.hp.blk i _ h1 with h4|⟨b',t,vs,ex,g1,g2,g3,g4,g5⟩|⟨_,h4⟩
    ·cases h4
    ·refine .inr (.inl ⟨b',t,vs,ex,g1,g2, ?_,g4,g5⟩)
     simp only[c9]at g3 ⊢
     obtain⟨z,g6,g7⟩:=g3
     exact⟨z,ck (ρ:=ρ) (ρ':=cN ρ.aY ρ.cq) (fun _ _ h=>h) cs z mF g6,g7,jR PJ⟩
    ·exact h4.elim
  ·intro i i' x x' b b' hx pG hn hxe hb gj hl qh
   obtain⟨b0,h1,h2,h3,_⟩:=gw i b hb
   obtain⟨b0',h1',h2',h3',_⟩:=gw i' b' gj
   rw[←h2]
   exact hR.hp.sep i i' x x' b0 b0' hx pG hn hxe h1 h1' (h3.trans hl) (h3'.trans qh)
  ·intro i b x hb hw hl hx
   obtain⟨b0,h1,h2,h3,_⟩:=gw i b hb
   exact hR.hp.own i b0 x h1 (h2.trans hw) (h3.trans hl) hx
  ·intro i x hx
   obtain⟨b,hb⟩:=hR.hp.rL i x hx
   simp only[fn,LV.blk,find]at hb ⊢
   cases hi:Nat.beq j i with
   |true=>exact⟨_,rfl⟩
   |false=>exact⟨b,hb⟩
  ·exact hR.hp.aY
  ·intro i b x hb hw hl hx
   obtain⟨b0,h1,h2,h3,_⟩:=gw i b hb
   exact hR.hp.fb i b0 x h1 (h2.trans hw) (h3.trans hl) hx
theorem Gd {ρ:bY}:∀{cs:List SV} {z:List (List Value)} {p:Nat} {c:SV},au ρ cs z→cs[p]? =some c→∃x,z[p]? =some x∧aK ρ c x
 |[],_,_,_,_,h=>by simp at h
 |d::cs,z,0,c,hz,h=>by
  simp only[au]at hz
  obtain⟨x,r,rfl,h1,_⟩:=hz
  simp only[List.getElem?_cons_zero,Option.some.injEq]at h
  subst h
  exact⟨x,rfl,h1⟩
 |d::cs,z,p+1,c,hz,h=>by
  simp only[au]at hz
  obtain⟨x,r,rfl,_,h2⟩:=hz
  obtain⟨y,h3,h4⟩:=Gd h2 (by simpa using h)
  exact⟨y,by simpa using h3,h4⟩
theorem CS {ρ:bY} {v:SV} {x:List Value}:∀{cs:List SV} {z:List (List Value)} {p:Nat},au ρ cs z→z[p]? =some x→aK ρ v x→au ρ (cs.set p v) z
 |[],z,p,hz,_,_=>by simpa using hz
 |d::cs,z,0,hz,h,hv=>by
  simp only[au]at hz
  obtain⟨y,r,rfl,_,h2⟩:=hz
  simp only[List.getElem?_cons_zero,Option.some.injEq]at h
  subst h
  simp only[List.set_cons_zero,au]
  exact⟨_,_,rfl,hv,h2⟩
 |d::cs,z,p+1,hz,h,hv=>by
  simp only[au]at hz
  obtain⟨y,r,rfl,h1,h2⟩:=hz
  simp only[List.set_cons_succ,au]
  exact⟨y,r,rfl,h1,CS h2 (by simpa using h) hv⟩
theorem Lu {ρ:bY} {w:Nat} {a:Option Addr} {l:List SV} (h:l=[]):aK ρ (eH w l) [.slice a 0 0]:=by
 subst h;exact uO (by simp only[aK];exact⟨rfl,rfl⟩)
theorem pX {E:Env} (jj pp k:Nat) {tj:TypeId} {wj:Bool} {cs:List SV} {fr:List (Nat×SV)} {hp:List (Nat×aC)} {ty:TypeId} {d:Data} {w i n:Nat} {xs:List SV} (hW:∀b,¬E.W0 b) (hjf:find hp jj=some ⟨tj,wj,.one cs⟩) (hjk:jj≠k) (hpc:cs[pp]? =some (.aN k w i n)) (hk:find hp k=some ⟨ty,true,d⟩)
  (he:gW d=some xs) (hw:db d=some w) (mF:bn xs=true) (hn:i+n≤xs.length) {a:Act} {W:World} (hR:RR E (fn fr hp) a W):RR E (fn fr ((jj,⟨tj,wj,.one (cs.set pp (eH w (gv xs i (i+n))))⟩)::fI hp k ⟨ty,true,.dead⟩)) a W:=by
 have hl:d.live=true:=by cases d<;>simp[gW]at he<;>rfl
 obtain⟨ρ,hext,hfx,hR⟩:=hR
 have Bs:(fn fr hp (.k k)).blk=some ⟨ty,true,d⟩:=by simp only[fn,LV.blk];exact hk
 have ZG:(fn fr hp (.k jj)).blk=some ⟨tj,wj,.one cs⟩:=by simp only[fn,LV.blk];exact hjf
 obtain⟨bj,nj,exj,zj,hj1,hj2,hj3,hj4,hj5⟩:∃bj nj exj zj,ρ.key jj=some (bj,nj)∧W.heap[bj]? =some ((Data.one cs).obj (zj.flatten++exj) tj)∧au ρ cs zj∧(zj.flatten++exj).length=nj∧∀v∈exj,v.oneCell'=true:=by
  rcases hR.hp.blk jj _ ZG with g0|⟨b',t',vs,ex,g1,g2,⟨z,g3,rfl⟩,g4,g5⟩|⟨_,g2⟩
  ·cases g0
  ·exact⟨b',t',ex,z,g1,g2,g3,g4,g5⟩
  ·exact g2.elim
 obtain⟨x,hzx,hx⟩:=Gd hj3 hpc
 have ec:∀q b,(fn fr ((jj,⟨tj,wj,.one (cs.set pp (eH w (gv xs i (i+n))))⟩)::fI hp k ⟨ty,true,.dead⟩) (.k q)).blk=some b→(q=jj∧b=⟨tj,wj,.one (cs.set pp (eH w (gv xs i (i+n))))⟩)∨(q=k∧b=⟨ty,true,.dead⟩)∨(q≠jj∧q≠k∧(fn fr hp (.k q)).blk=some b):=by
  intro q b hb
  simp only[fn,LV.blk,find]at hb ⊢
  cases hq:Nat.beq jj q with
  |true=>
   rw[hq]at hb
   exact .inl ⟨(Nat.eq_of_beq_eq_true hq).symm,(Option.some.inj hb).symm⟩
  |false=>
   rw[hq]at hb
   simp only[cn]at hb
   have b6:q≠jj:=by rintro rfl;simp[Nat.beq_refl]at hq
   by_cases hj:q=k
   ·rw[if_pos hj]at hb;exact .inr (.inl ⟨hj,(Option.some.inj hb).symm⟩)
   ·rw[if_neg hj]at hb;exact .inr (.inr ⟨b6,hj,hb⟩)
 have fin:∀ρ':bY,ρ'.key=ρ.key→(∀b o,ρ.aY b=some o→ρ'.aY b=some o)→(∀b o,ρ'.aY b=some o→ρ.aY b=some o∨E.w0.heap.size≤b)→(∀b o,ρ'.aY b=some o→W.heap[b]? =some o)→
   (∀j b x,j≠k→(fn fr hp (.k j)).blk=some b→b.wr=true→b.data.live=true→ρ.key j=some x→ρ'.aY x.1=none)→(∀D,W.heap[D]? =some (.deferred (some []))→ρ.aY D=none→ρ'.aY D=none)→aK ρ' (eH w (gv xs i (i+n))) x→
   RR E (fn fr ((jj,⟨tj,wj,.one (cs.set pp (eH w (gv xs i (i+n))))⟩)::fI hp k ⟨ty,true,.dead⟩)) a W:=by
  intro ρ' b9 himm fg hheap iV hmark hhas
  have hle:ρ.Le ρ':=⟨fun j y hy=>by rw[b9];exact hy,himm⟩
  refine⟨ρ',⟨hext.le.trans hle,fun b o hb=>(fg b o hb).elim (fun h=>hext.aY b o h) .inr,fun j hj=>by rw[b9];exact hext.fix j hj⟩,fun j hj=> ?_,{defers:= ?_,size:=hR.size,fr:= ?_,bO:=hR.bO,hp:= ?_}⟩
  ·have:=hfx j hj
   simp only[fn,LV.blk,find]at this ⊢
   cases hq:Nat.beq jj j with
   |true=>simp
   |false=>
    simp only[cn]
    split
    ·simp
    ·exact this
  ·obtain⟨Ds,d1,d2,d3⟩:=hR.defers
   refine⟨Ds,d1,d2,fun D hD=> ?_⟩
   obtain⟨e1,e2,e3⟩:=d3 D hD
   refine⟨e1,e2, ?_⟩
   exact hmark D e2 e3
  ·intro u sv hu
   exact Has.mono hle _ _ (hR.fr u sv hu)
  ·have lO:∀q b,(fn fr ((jj,⟨tj,wj,.one (cs.set pp (eH w (gv xs i (i+n))))⟩)::fI hp k ⟨ty,true,.dead⟩) (.k q)).blk=some b→b.data.live=true→∃b0,(fn fr hp (.k q)).blk=some b0∧b0.wr=b.wr∧b0.data.live=true∧q≠k:=by
    intro q b hb hlv
    rcases ec q b hb with⟨rfl,rfl⟩|⟨_,rfl⟩|⟨_,h2,h3⟩
    ·exact⟨_,ZG,rfl,rfl,hjk⟩
    ·cases hlv
    ·exact⟨b,h3,rfl,hlv,h2⟩
   constructor
   ·intro q b hb
    rcases ec q b hb with⟨rfl,rfl⟩|⟨rfl,rfl⟩|⟨_,_,hb⟩
    ·refine .inr (.inl ⟨bj,nj,zj.flatten,exj,by rw[b9];exact hj1,hj2,⟨zj, ?_,rfl⟩,hj4,hj5⟩)
     exact CS (au.mono hle cs zj hj3) hzx hhas
    ·exact .inl rfl
    ·rcases hR.hp.blk q b hb with g0|⟨b',t',vs,ex,g1,g2,g3,g4⟩|⟨g1,g2⟩
     ·exact .inl g0
     ·exact .inr (.inl ⟨b',t',vs,ex,by rw[b9];exact g1,g2,g3.mono hle,g4⟩)
     ·exact .inr (.inr ⟨by rw[b9];exact g1,g2⟩)
   ·intro j j' y y' b b' hy Dw b6 hyy hb gj gp iM
    rw[b9]at hy Dw
    obtain⟨c0,h1,h2,h3,_⟩:=lO j b hb gp
    obtain⟨c0',h1',h2',h3',_⟩:=lO j' b' gj iM
    rw[←h2]
    exact hR.hp.sep j j' y y' c0 c0' hy Dw b6 hyy h1 h1' h3 h3'
   ·intro j b y hb hwr gp hy
    rw[b9]at hy
    obtain⟨c0,h1,h2,h3,_⟩:=lO j b hb gp
    exact hR.hp.own j c0 y h1 (h2.trans hwr) h3 hy
   ·intro j y hy
    rw[b9]at hy
    obtain⟨b,hb⟩:=hR.hp.rL j y hy
    simp only[fn,LV.blk,find]at hb ⊢
    cases hq:Nat.beq jj j with
    |true=>exact⟨_,rfl⟩
    |false=>
     simp only[cn]
     split
     ·exact⟨_,rfl⟩
     ·exact⟨b,hb⟩
   ·exact hheap
   ·intro j b y hb hwr gp hy
    rw[b9]at hy
    obtain⟨c0,h1,h2,h3,h4⟩:=lO j b hb gp
    exact iV j c0 y h4 h1 (h2.trans hwr) h3 hy
 rcases pN (hR.hp.blk k _ Bs) he hw mF hn hx with⟨rfl,ad,rfl⟩|⟨b,t',o,h1,h2,h3⟩
 ·refine fin ρ rfl (fun _ _ h=>h) (fun _ _ h=>.inl h) hR.hp.aY (fun j b y _ hb hwr gp hy=>hR.hp.fb j b y hb hwr gp hy) (fun _ _ h=>h) ?_
  exact Lu (by simp[gv])
 ·have hB:E.w0.heap.size≤b:=(hR.hp.own k _ _ Bs rfl hl h1).resolve_right (hW _)
  obtain⟨u,Bq⟩:=(Up.refl ρ W E.w0.heap.size).add hR.hp.aY hB h2
  refine fin ⟨ρ.key,_,u.cq⟩ rfl u.le (fun b o hb=>(u.new b o hb).imp id (fun h=>h.1)) (fun c p hc=> ?_) (fun j blk y hj hb hwr gp hy=> ?_) (fun D I7 hD2=> ?_) ?_
  ·rcases u.new c p hc with h|h
   ·exact hR.hp.aY c p h
   ·exact h.2
  ·show(if y.1=b then some o else ρ.aY y.1)=none
   rw[if_neg]
   ·exact hR.hp.fb j blk y hb hwr gp hy
   ·intro he2
    have:=hR.hp.sep k j (b,t') y _ _ h1 hy (fun h=>hj h.symm) he2.symm Bs hb hl gp
    cases this
  ·show(if D=b then some o else ρ.aY D)=none
   rw[if_neg,hD2]
   rintro rfl
   rcases hR.hp.blk k _ Bs with g0|⟨b',t'',vs,ex,g1,g2,_⟩|⟨g1,_⟩
   ·rw[show Data.live d=false from g0]at hl;cases hl
   ·rw[h1]at g1;cases g1;rw[I7]at g2;exact Data.jz (Option.some.inj g2).symm
   ·rw[h1]at g1;cases g1
  ·exact aK.mono (nD ⟨ρ.key,_,u.cq⟩ u.cq) _ _ (h3 _ u.cq u.le (by simp))
theorem pY {E:Env} (t k:Nat) {fr:List (Nat×SV)} {hp:List (Nat×aC)} {ty:TypeId} {cs:List SV} (hW:∀b,¬E.W0 b) (ht:lk fr t=some (.ptr k 0 0 0)) (hk:find hp k=some ⟨ty,true,.one cs⟩)
  (mF:bn cs=true) {a:Act} {W:World} (hR:RR E (fn fr hp) a W):RR E (fn ((t,bG cs)::fr) (fI hp k ⟨ty,true,.dead⟩)) a W:=by
 have hl:(Data.one cs).live=true:=rfl
 obtain⟨ρ,hext,hfx,hR⟩:=hR
 have Bs:(fn fr hp (.k k)).blk=some ⟨ty,true,.one cs⟩:=by simp only[fn,LV.blk];exact hk
 have hv:=hR.fr t _ (by simp only[fn,LV.sv];exact ht)
 obtain⟨x,hx,hxv⟩:=(iN (c:=.ptr k 0 0 0) rfl).1 hv
 have ec:∀j b,(fn ((t,bG cs)::fr) (fI hp k ⟨ty,true,.dead⟩) (.k j)).blk=some b→(j=k∧b=⟨ty,true,.dead⟩)∨(j≠k∧(fn fr hp (.k j)).blk=some b):=by
  intro j b hb
  simp only[fn,LV.blk,cn]at hb ⊢
  by_cases hj:j=k
  ·rw[if_pos hj]at hb;exact .inl ⟨hj,(Option.some.inj hb).symm⟩
  ·rw[if_neg hj]at hb;exact .inr ⟨hj,hb⟩
 have fin:∀ρ':bY,ρ'.key=ρ.key→(∀b o,ρ.aY b=some o→ρ'.aY b=some o)→(∀b o,ρ'.aY b=some o→ρ.aY b=some o∨E.w0.heap.size≤b)→(∀b o,ρ'.aY b=some o→W.heap[b]? =some o)→
   (∀j b x,j≠k→(fn fr hp (.k j)).blk=some b→b.wr=true→b.data.live=true→ρ.key j=some x→ρ'.aY x.1=none)→(∀D,W.heap[D]? =some (.deferred (some []))→ρ.aY D=none→ρ'.aY D=none)→Has ρ' (bG cs) (a.tmps.getD t undef)→
   RR E (fn ((t,bG cs)::fr) (fI hp k ⟨ty,true,.dead⟩)) a W:=by
  intro ρ' b9 himm fg hheap iV hmark hhas
  have hle:ρ.Le ρ':=⟨fun j y hy=>by rw[b9];exact hy,himm⟩
  refine⟨ρ',⟨hext.le.trans hle,fun b o hb=>(fg b o hb).elim (fun h=>hext.aY b o h) .inr,fun j hj=>by rw[b9];exact hext.fix j hj⟩,fun j hj=> ?_,{defers:= ?_,size:=hR.size,fr:= ?_,bO:=hR.bO,hp:= ?_}⟩
  ·have:=hfx j hj
   simp only[fn,LV.blk,cn]at this ⊢
   split
   ·simp
   ·exact this
  ·obtain⟨Ds,d1,d2,d3⟩:=hR.defers
   refine⟨Ds,d1,d2,fun D hD=> ?_⟩
   obtain⟨e1,e2,e3⟩:=d3 D hD
   refine⟨e1,e2, ?_⟩
   exact hmark D e2 e3
  ·intro u sv hu
   simp only[fn,LV.sv,lk]at hu
   cases hb:Nat.beq t u with
   |true=>
    rw[hb]at hu
    simp only[Option.some.injEq]at hu
    subst hu
    rw[←Nat.eq_of_beq_eq_true hb]
    exact hhas
   |false=>rw[hb]at hu;exact Has.mono hle _ _ (hR.fr u sv (by simp only[fn,LV.sv];exact hu))
  ·constructor
   ·intro j b hb
    rcases ec j b hb with⟨rfl,rfl⟩|⟨hj,hb⟩
    ·exact .inl rfl
    ·rcases hR.hp.blk j b hb with g0|⟨b',t',vs,ex,g1,g2,g3,g4⟩|⟨g1,g2⟩
     ·exact .inl g0
     ·exact .inr (.inl ⟨b',t',vs,ex,by rw[b9];exact g1,g2,g3.mono hle,g4⟩)
     ·exact .inr (.inr ⟨by rw[b9];exact g1,g2⟩)
   ·intro j j' y y' b b' hy Dw b6 hyy hb gj gp iM
    rw[b9]at hy Dw
    rcases ec j b hb with⟨_,rfl⟩|⟨_,hb⟩
    ·cases gp
    rcases ec j' b' gj with⟨_,rfl⟩|⟨_,gj⟩
    ·cases iM
    exact hR.hp.sep j j' y y' b b' hy Dw b6 hyy hb gj gp iM
   ·intro j b y hb hwr gp hy
    rw[b9]at hy
    rcases ec j b hb with⟨_,rfl⟩|⟨_,hb⟩
    ·cases gp
    exact hR.hp.own j b y hb hwr gp hy
   ·intro j y hy
    rw[b9]at hy
    obtain⟨b,hb⟩:=hR.hp.rL j y hy
    simp only[fn,LV.blk,cn]at hb ⊢
    split
    ·exact⟨_,rfl⟩
    ·exact⟨b,hb⟩
   ·exact hheap
   ·intro j b y hb hwr gp hy
    rw[b9]at hy
    rcases ec j b hb with⟨_,rfl⟩|⟨hj,hb⟩
    ·cases gp
    exact iV j b y hj hb hwr gp hy
 simp only[aK]at hx
 obtain⟨b,t',h1,rfl⟩:=hx
 rcases hR.hp.blk k _ Bs with g0|⟨b',t'',vs,ex,g1,g2,g3,g4,g5⟩|⟨g1,_⟩
 ·cases g0
 ·rw[h1]at g1
  cases g1
  rw[Data.cy rfl]at g2
  have h2:W.heap[b]? =some (.cells (vs++ex).toArray ty (0,0)):=g2
  simp only[c9]at g3
  obtain⟨z,z1,rfl⟩:=g3
  have hB:E.w0.heap.size≤b:=(hR.hp.own k _ _ Bs rfl hl h1).resolve_right (hW _)
  obtain⟨u,Bq⟩:=(Up.refl ρ W E.w0.heap.size).add hR.hp.aY hB h2
  refine fin ⟨ρ.key,_,u.cq⟩ rfl u.le (fun b o hb=>(u.new b o hb).imp id (fun h=>h.1)) (fun c p hc=> ?_) (fun j blk y hj hb hwr gp hy=> ?_) (fun D I7 hD2=> ?_) ?_
  ·rcases u.new c p hc with h|h
   ·exact hR.hp.aY c p h
   ·exact h.2
  ·show(if y.1=b then some _ else ρ.aY y.1)=none
   rw[if_neg]
   ·exact hR.hp.fb j blk y hb hwr gp hy
   ·intro he2
    have:=hR.hp.sep k j (b,t') y _ _ h1 hy (fun h=>hj h.symm) he2.symm Bs hb hl gp
    cases this
  ·show(if D=b then some _ else ρ.aY D)=none
   rw[if_neg,hD2]
   rintro rfl
   rw[I7]at h2;cases h2
  ·rw[hxv]
   have hz:au (cN (fun x=>if x=b then some (.cells (z.flatten++ex).toArray ty (0,0))else ρ.aY x) u.cq) cs z:=ck (ρ:=ρ) u.le cs z mF z1
   refine nP ⟨b,z,[],ex,ty,(0,0),if_pos rfl,hz, ?_⟩
   simp[cM,SV.bf]
 ·rw[h1]at g1;cases g1
theorem xq {E:Env} {ops:Array Oper} {l2:List Oper} {Q:Exit→Act→World→Prop}:∀(l:List Oper) (fr:List (Nat×SV)) (hp:List (Nat×aC)) (recs:List Rec) (fr':List (Nat×SV)) (cd:List (Nat×aC)),Dy E ops l fr hp recs fr' cd→
  (∀a w,RR E (fn fr' cd) a w→wpListIn (EY E.ro) 0 E.P ops Q l2 a w)→∀a w,RR E (fn fr hp) a w→wpListIn (EY E.ro) 0 E.P ops Q (l++l2) a w
 |[],fr,hp,recs,fr',cd,h,hQ,a,w,hR=>by
  obtain⟨_,rfl,rfl⟩:=h
  exact hQ a w hR
 |o::l,fr,hp,recs,fr',cd,h,hQ,a,w,hR=>by
  obtain⟨rc,rest,rfl,_,_,_,⟨_,_,hs⟩,h2⟩:=h
  have ih:=xq l _ _ _ _ _ h2 hQ
  have:=hs (fn fr hp) (fun _ _=>rfl) (fun _ _=>rfl) a w hR
  rw[List.cons_append]
  unfold wpListIn
  split
  ·rename_i hw
   rw[if_pos hw]at this
   refine rN (ou ?_ this)
   intro a' w' jw
   rw[vF]at jw
   exact ih a' w' jw
  ·rename_i hw
   rw[if_neg hw,vF]at this
   exact⟨fun _ _=>trivial,ih _ _ this⟩
theorem pb {E:Env} (hE:E.OK) (n:Nat) {id:Nat} {ops:Array Oper} {K:bQ} {fr:List (Nat×SV)} {hp:List (Nat×aC)}
  (h:lex E ops.toList (ops.toList.take n) fr hp [] fun fr1 hp1 _=>∃fr2 hp2,(∀a w,RR E (fn fr1 hp1) a w→RR E (fn fr2 hp2) a w)∧lex E ops.toList (ops.toList.drop n) fr2 hp2 [] fun fr3 hp3 _=>K .normal fr3 hp3):ey E (.region id ops false) K fr hp:=⟨by
 intro a w hR
 obtain⟨recs,fr1,hp1,h1,fr2,hp2,hRR,h2⟩:=qx hE.vP _ _ _ _ h
 obtain⟨recs2,fr3,hp3,h3,h4⟩:=qx hE.vP _ _ _ _ h2
 have e2:=rQ (Q:=s7 E K) _ _ _ _ _ _ h3 (fun a w hR=>⟨fr3,hp3,h4,hR⟩)
 have e1:=xq (Q:=s7 E K) (l2:=ops.toList.drop n) _ _ _ _ _ _ h1 (fun a w hR=>by simpa using e2 a w (hRR a w hR)) a w hR
 rw[List.take_append_drop]at e1
 exact wpIn_region_list (by simpa using e1)⟩
end Go.Sx
namespace Go.Proofs.YtfpagioknjjacaaGreatDoor
open Go.Sx
set_option linter.unusedSimpArgs false
set_option linter.unusedVariables false
set_option maxRecDepth 100000
set_option maxHeartbeats 4000000
structure RE (r c:Nat) (w:Mx) (bg:List Nat):Prop where
 len:bg.length≤r
 lt:∀j,j<bg.length→bg.getD j 0<c
 inc:∀i j,i<j→j<bg.length→bg.getD i 0<bg.getD j 0
 unit:∀j,j<bg.length→∀i,i<r→w i (bg.getD j 0)=if i=j then 1 else 0
 left:∀i,i<bg.length→∀q,q<bg.getD i 0→w i q=0
 low:∀i,bg.length≤i→i<r→∀q,q<c→w i q=0
theorem Inv.re {r c:Nat} {W:Mx} {s:St} (h:Inv r W c s):RE r c s.w s.bg:=⟨h.len,h.lt,h.inc,h.unit,h.left,h.low⟩
def CT (r c:Nat) (w:Mx) (x:Nat→Rat):Prop:=∀i,i<r→aH c (fun q=>w i q*x q)=0
theorem O0 {r c:Nat} {P W w:Mx} (hP:bH r P≠0) (hw:∀i,i<r→∀q,w i q=pr r P W i q) (x:Nat→Rat):CT r c w x↔CT r c W x:=by
 have e:∀i,i<r→aH c (fun q=>w i q*x q)=aH r fun p=>P i p*aH c fun q=>W p q*x q:=fun i hi=>by
  rw[ao c (g:=fun q=>aH r fun p=>P i p*(W p q*x q)) fun q _=>by rw[hw i hi,pr,gZ];exact ao r fun p _=>by grind,fA]
  exact ao r fun p _=>(bC _ _).symm
 constructor
 ·intro h i hi
  have h1:aH r (fun j=>dU r P i j*aH c fun q=>w j q*x q)=0:=c6 fun j hj=>by rw[h j hj];grind
  rw[ao r (g:=fun j=>aH r fun p=>dU r P i j*P j p*aH c fun q=>W p q*x q) fun j hj=>by rw[e j hj,bC];exact ao r fun p _=>by grind,fA]at h1
  rw[ao r (g:=fun p=>bH r P*(delta i p*aH c fun q=>W p q*x q)) fun p hp=>by
   rw[←gZ]
   have:=lv P hi hp
   unfold pr at this
   rw[this,delta];split<;>grind,←bC,dh,if_pos hi]at h1
  rcases Rat.mul_eq_zero.1 h1 with g|g
  ·exact absurd g hP
  ·exact g
 ·intro h i hi
  rw[e i hi];exact c6 fun p hp=>by rw[h p hp];grind
theorem A3 {a b:Rat} (h:a*b=1):a≠0:=by intro g;rw[g]at h;grind
theorem Inv.ZV {r c k:Nat} {W:Mx} {s:St} (h:Inv r W k s) (x:Nat→Rat):CT r c s.w x↔CT r c W x:=by
 obtain⟨P,h1,h2⟩:=h.Rb
 exact O0 (A3 h1) h2 x
section
variable {r c:Nat} {w:Mx} {bg:List Nat}
theorem A4 (h:RE r c w bg) {i j:Nat} (hi:i<bg.length) (hj:j<bg.length) (e:bg.getD i 0=bg.getD j 0):i=j:=by
 rcases Nat.lt_trichotomy i j with g|g|g
 ·have:=h.inc i j g hj;omega
 ·exact g
 ·have:=h.inc j i g hi;omega
theorem c8 {l:List Nat} {q:Nat}:q∈l↔∃j,j<l.length∧l.getD j 0=q:=by
 constructor
 ·intro h
  obtain⟨j,hj,e⟩:=List.getElem_of_mem h
  exact⟨j,hj,by rw[List.getD_eq_getElem?_getD,List.getElem?_eq_getElem hj];exact e⟩
 ·rintro⟨j,hj,rfl⟩
  rw[List.getD_eq_getElem?_getD,List.getElem?_eq_getElem hj];exact List.getElem_mem hj
def kv (w:Mx) (bg:List Nat) (k q:Nat):Rat:=delta q k - aH bg.length fun j=>delta q (bg.getD j 0)*w j k
theorem Lv (h:RE r c w bg) (u:Mx) {k:Nat} (hk:k<c) (i:Nat):aH c (fun q=>u i q*kv w bg k q)=u i k - aH bg.length fun j=>u i (bg.getD j 0)*w j k:=by
 rw[ao c (g:=fun q=>u i q*delta q k+(-1)*aH bg.length fun j=>u i q*delta q (bg.getD j 0)*w j k) fun q _=>by
  unfold kv;rw[ao bg.length (f:=fun j=>u i q*delta q (bg.getD j 0)*w j k) (g:=fun j=>u i q*(delta q (bg.getD j 0)*w j k)) fun j _=>by grind,←bC];grind]
 rw[sum_add,gA,if_pos hk,←bC,fA,ao bg.length (f:=fun j=>aH c fun q=>u i q*delta q (bg.getD j 0)*w j k) (g:=fun j=>u i (bg.getD j 0)*w j k) fun j hj=>by
  rw[←gZ,gA,if_pos (h.lt j hj)]]
 grind
theorem Lw (h:RE r c w bg) {k:Nat} (hk:k<c):CT r c w (kv w bg k):=by
 intro i hi
 rw[Lv h w hk]
 rw[ao bg.length (g:=fun j=>delta i j*w j k) fun j hj=>by rw[h.unit j hj i hi,delta],dh]
 by_cases g:i<bg.length
 ·rw[if_pos g];grind
 ·rw[if_neg g,h.low i aa hi k hk];grind
theorem O1 (h:RE r c w bg) {k:Nat} (hn:k∉bg):kv w bg k k=1:=by
 unfold kv
 rw[c6 fun j hj=>by rw[delta,if_neg fun e=>hn (c8.2 ⟨j,hj,e.symm⟩)];grind,delta,if_pos rfl];grind
theorem Lx {k q:Nat} (hq:q∉bg) (b6:q≠k):kv w bg k q=0:=by
 unfold kv
 rw[c6 fun j hj=>by rw[delta,if_neg fun e=>hq (c8.2 ⟨j,hj,e.symm⟩)];grind,delta,if_neg b6];grind
theorem Zp (h:RE r c w bg) {k j:Nat} (hn:k∉bg) (hj:j<bg.length):kv w bg k (bg.getD j 0)= - w j k:=by
 unfold kv
 rw[hO (j:=j) bg.length hj fun i hi b6=>by rw[delta,if_neg fun e=>b6 (A4 h hi hj e.symm)];grind,delta,if_neg fun e=>hn (c8.2 ⟨j,hj,e⟩),delta,if_pos rfl];grind
theorem Ly (h:RE r c w bg) {k q:Nat} (hn:k∉bg) (hq:k<q):kv w bg k q=0:=by
 by_cases g:q∈bg
 ·obtain⟨j,hj,rfl⟩:=c8.1 g
  rw[Zp h hn hj,h.left j hj k hq];grind
 ·exact Lx g aa
theorem Ge (h:RE r c w bg) {k:Nat} (hk:k<c):k∉bg↔∃x,CT r c w x∧x k≠0∧∀q,k<q→q<c→x q=0:=by
 constructor
 ·intro hn
  exact⟨kv w bg k,Lw h hk,by rw[O1 h hn];decide,fun q h1 _=>Ly h hn h1⟩
 ·rintro⟨x,h1,h2,h3⟩ hm
  obtain⟨j,hj,rfl⟩:=c8.1 hm
  have:=h1 j (by have:=h.len;omega)
  rw[hO (j:=bg.getD j 0) c hk fun q hq b6=>by
   rcases Nat.lt_or_gt_of_ne b6 with g|g
   ·rw[h.left j hj q g];grind
   ·rw[h3 q g hq];grind,h.unit j hj j (by have:=h.len;omega),if_pos rfl]at this
  exact h2 (by grind)
end
theorem Gf:∀{l m:List Nat},(∀i j,i<j→j<l.length→l.getD i 0<l.getD j 0)→(∀i j,i<j→j<m.length→m.getD i 0<m.getD j 0)→(∀k,k∈l↔k∈m)→l=m
 |[],[],_,_,_=>rfl
 |[],b::m,_,_,h=>by have:=(h b).2 (List.mem_cons_self ..);cases this
 |a::l,[],_,_,h=>by have:=(h a).1 (List.mem_cons_self ..);cases this
 |a::l,b::m,h1,h2,h=>by
  have gl:∀x,x∈l→a<x:=fun x hx=>by
   obtain⟨j,hj,rfl⟩:=c8.1 hx
   exact h1 0 (j+1) aa (by simp;omega)
  have gm:∀x,x∈m→b<x:=fun x hx=>by
   obtain⟨j,hj,rfl⟩:=c8.1 hx
   exact h2 0 (j+1) aa (by simp;omega)
  have B8:a=b:=by
   rcases List.mem_cons.1 ((h a).1 (List.mem_cons_self ..))with e|e
   ·exact e
   ·rcases List.mem_cons.1 ((h b).2 (List.mem_cons_self ..))with f|f
    ·exact f.symm
    ·have:=gl b f;have:=gm a e;omega
  subst B8
  rw[Gf (l:=l) (m:=m) (fun i j GG hj=>h1 (i+1) (j+1) aa (by simp;omega)) (fun i j GG hj=>h2 (i+1) (j+1) aa (by simp;omega)) fun k=>by
   constructor
   ·intro hk
    rcases List.mem_cons.1 ((h k).1 (List.mem_cons_of_mem _ hk))with e|e
    ·have:=gl k hk;omega
    ·exact e
   ·intro hk
    rcases List.mem_cons.1 ((h k).2 (List.mem_cons_of_mem _ hk))with e|e
    ·have:=gm k hk;omega
    ·exact e]
theorem RE.unique {r c:Nat} {w w':Mx} {bg piv':List Nat} (h:RE r c w bg) (h':RE r c w' piv') (hk:∀x,CT r c w x↔CT r c w' x):bg=piv'∧∀i q,i<r→q<c→w i q=w' i q:=by
 have e:bg=piv':=by
  refine Gf h.inc h'.inc fun k=> ?_
  have aA:k<c→(k∈bg↔k∈piv'):=fun hc=>by
   have a:=Ge h hc;have b:=Ge h' hc
   constructor
   ·intro hm;refine Classical.byContradiction fun g=> ?_
    obtain⟨x,h1,h2⟩:=b.1 g
    exact a.2 ⟨x,(hk x).2 h1,h2⟩ hm
   ·intro hm;refine Classical.byContradiction fun g=> ?_
    obtain⟨x,h1,h2⟩:=a.1 g
    exact b.2 ⟨x,(hk x).1 h1,h2⟩ hm
  constructor
  ·intro hm
   obtain⟨j,hj,e⟩:=c8.1 hm
   exact(aA (by rw[←e];exact h.lt j hj)).1 hm
  ·intro hm
   obtain⟨j,hj,e⟩:=c8.1 hm
   exact(aA (by rw[←e];exact h'.lt j hj)).2 hm
 subst e
 refine⟨rfl,fun i q hi hq=> ?_⟩
 by_cases g:q∈bg
 ·obtain⟨j,hj,rfl⟩:=c8.1 g
  rw[h.unit j hj i hi,h'.unit j hj i hi]
 ·by_cases hp:i<bg.length
  ·have h1:=(hk _).1 (Lw h hq) i hi
   rw[Lv h w' hq,ao bg.length (g:=fun j=>delta i j*w j q) fun j hj=>by rw[h'.unit j hj i hi,delta],dh,if_pos hp]at h1
   grind
  ·rw[h.low i aa hi q hq,h'.low i aa hi q hq]
theorem RE.full {r c:Nat} {w:Mx} {bg:List Nat} (h:RE r c w bg) (hc:bg.length=c):∀j,j<c→bg.getD j 0=j:=by
 have h1:∀j,j<c→j≤bg.getD j 0:=by
  intro j
  induction j with
  |zero=>intro _;exact Nat.zero_le _
  |succ j ih=>intro hj;have:=ih aa;have:=h.inc j (j+1) aa aa;omega
 have h2:∀d j,j+d+1=c→bg.getD j 0≤j:=by
  intro d
  induction d with
  |zero=>intro j hj;have:=h.lt j aa;omega
  |succ d ih=>intro j hj;have:=ih (j+1) aa;have:=h.inc j (j+1) aa aa;omega
 intro j hj
 have:=h1 j hj;have:=h2 (c - j - 1) j aa;omega
theorem RE.le {r c:Nat} {w:Mx} {bg:List Nat} (h:RE r c w bg):bg.length≤c:=by
 have h1:∀j,j<bg.length→j≤bg.getD j 0:=by
  intro j
  induction j with
  |zero=>intro _;exact Nat.zero_le _
  |succ j ih=>intro hj;have:=ih aa;have:=h.inc j (j+1) aa hj;omega
 rcases Nat.eq_zero_or_pos bg.length with e|e
 ·omega
 ·have:=h1 (bg.length - 1) aa;have:=h.lt (bg.length - 1) aa;omega
theorem xr {n:Nat} {A B:Mx} (h:∀i,i<n→∀k,A i k=B i k):bH n A=bH n B:=aO fun i k hi _=>h i hi k
theorem Gg (n:Nat) (W:Mx):(if (pq n n ⟨W,[],1⟩).bg.length<n then 0 else(pq n n ⟨W,[],1⟩).d)=bH n W:=by
 have h:=Inv.red (r:=n) (W:=W) n
 generalize pq n n ⟨W,[],1⟩=s at*
 obtain⟨P,h1,h2⟩:=h.Rb
 have h3:bH n s.w=bH n P*bH n W:=by rw[xr h2,q8]
 by_cases g:s.bg.length<n
 ·rw[if_pos g]
  have h4:bH n s.w=0:=by
   rw[(eb n).congr s.w (setRow s.w s.bg.length fun _=>0) fun i q hi hq=>by
    by_cases e:i=s.bg.length
    ·rw[e,aU];exact h.low _ (Nat.le_refl _) g q hq
    ·rw[aV _ _ e],(eb n).zero _ g]
  rw[h4]at h3
  rcases Rat.mul_eq_zero.1 h3.symm with e|e
  ·exact absurd e (A3 h1)
  ·exact e.symm
 ·rw[if_neg g]
  have hl:=h.len
  have hf:=h.re.full aa
  have h4:bH n s.w=1:=by
   rw[aO (B:=delta) fun i q hi hq=>by
    have:=h.unit q aa i hi
    rw[hf q hq]at this;rw[this,delta],oK]
  rw[h4]at h3
  grind
def rnk (r c:Nat) (W:Mx):Nat:=(pq r c ⟨W,[],1⟩).bg.length
end Go.Proofs.YtfpagioknjjacaaGreatDoor
namespace Go.Sx
set_option linter.unusedSimpArgs false
set_option linter.unusedVariables false
theorem p0 {P:Program} {T:List (TypeId×TI)} {Z:List Nat} (hT:gQ P T) (hm:P.follows .mixedOrders=true) {f:FuncId} {fn':Func} {code:Code} (hf:P.funcs[f]? =some fn') (hb:fn'.body=some code)
  (hn:(fn'.name== "runtime.NumGoroutine")=false) {args:List SV} {fk:List (Nat×aC)} {c:SV} {new upd:List (Nat×aC)} (hs:fG args fk c new upd) (hnt:Nat.ble args.length fn'.ntmps=true) (hσ:bh fk new fun k=>k)
  (h:∀W0 w0 ρ0,Env.OK ⟨P,T,W0,w0,fn'.ntmps,ρ0,ax fk,Z,none⟩→Aa ⟨P,T,W0,w0,fn'.ntmps,ρ0,ax fk,Z,none⟩ code (H9 T fn'.results.toList (Fin c new upd)) (enum 0 args) fk):
  ab P f args fk c new upd:=by
 have:=Zo hT hm hf hb hn hs hnt (fun k=>k) hσ h
 rwa [jP,oX,AY,oX new,oX upd]at this
theorem bh.id {fk new:List (Nat×aC)} (h:nT (ax fk++ax new)=true):bh fk new fun k=>k:=
 ⟨fun _ _ _ _ _ _ h _=>h,fun _ _ _ _ h=>h,fun m q hm hq e=>(List.nodup_append.1 (lj h)).2.2 q hq m hm e.symm⟩
end Go.Sx
namespace Go.Proofs.YtfpagioknjjacaaGreatDoor
open Go.Sx
set_option linter.unusedSimpArgs false
set_option linter.unusedVariables false
set_option maxRecDepth 100000
set_option maxHeartbeats 40000000
theorem uy {w:Mx} {k:Nat}:∀{m i j:Nat},i≤j→j<i+m→(∀a,i≤a→a<j→w a k=0)→w j k≠0→iq w k m i=some j
 |0,i,j,h1,h2,_,_=>aa
 |m+1,i,j,h1,h2,h3,h4=>by
  rw[iq]
  by_cases e:i=j
  ·rw[e,if_neg h4]
  ·rw[if_pos (h3 i (Nat.le_refl _) aa)]
   exact uy aa aa (fun a ha hb=>h3 a aa hb) h4
theorem xu {w:Mx} {k:Nat}:∀{m i:Nat},(∀a,i≤a→a<i+m→w a k=0)→iq w k m i=none
 |0,i,_=>rfl
 |m+1,i,h=>by
  rw[iq,if_pos (h i (Nat.le_refl _) aa)]
  exact xu fun a ha hb=>h a aa aa
def gi (r:Nat) (s:St) (k:Nat):St:=
 match iq s.w k (r - s.bg.length) s.bg.length with
 |none=>s
 |some i=>⟨rB (aR s.w i s.bg.length) s.bg.length k r,s.bg++[k],(if i=s.bg.length then s.d else - s.d)*aR s.w i s.bg.length s.bg.length k⟩
def kP (r c:Nat) (s:St):St:=(List.range c).foldl (gi r) s
theorem nm (r c:Nat) (s:St):kP r (c+1) s=gi r (kP r c s) c:=by
 rw[kP,List.range_succ,List.foldl_append];rfl
theorem EO {r i p:Nat} {w v:Mx} (h:∀a,a<r→w a=v a) (hi:i<r) (hp:p<r):∀a,a<r→aR w i p a=aR v i p a:=by
 intro a ha
 unfold aR
 by_cases e:a=i
 ·rw[if_pos e,if_pos e];exact h p hp
 ·rw[if_neg e,if_neg e]
  by_cases g:a=p
  ·rw[if_pos g,if_pos g];exact h i hi
  ·rw[if_neg g,if_neg g];exact h a ha
theorem xv {k r:Nat} {w v:Mx} (h:∀a,a<r→w a=v a):∀{m i:Nat},i+m≤r→iq w k m i=iq v k m i
 |0,_,_=>rfl
 |m+1,i,hm=>by
  rw[iq,iq,h i aa,xv h (i:=i+1) aa]
structure Gh (r:Nat) (s t:St):Prop where
 bg:s.bg=t.bg
 d:s.d=t.d
 w:∀a,a<r→s.w a=t.w a
 le:s.bg.length≤r
theorem EP {r k:Nat} {s t:St} (h:Gh r s t):Gh r (gi r s k) (oZ r t k):=by
 obtain⟨sw,sp,sd⟩:=s
 obtain⟨tw,tp,td⟩:=t
 obtain⟨rfl,rfl,hw,hl⟩:=h
 simp only at hw hl
 unfold gi oZ
 simp only
 rw[xv hw aa]
 cases hq:iq tw k (r - sp.length) sp.length with
 |none=>exact⟨rfl,rfl,hw,hl⟩
 |some i=>
  have hs:=oY hq
  have hi:i<r:=aa
  have hp:sp.length<r:=aa
  have Zl:=EO hw hi hp
  refine⟨rfl, ?_,fun a ha=> ?_, ?_⟩
  ·show _*_=_*_
   rw[Zl _ hp]
  ·show rB (aR sw i sp.length) sp.length k r a=fX (aR tw i sp.length) sp.length k a
   rw[OZ _ ha]
   funext q
   unfold fX
   rw[Zl a ha,Zl _ hp]
  ·show(sp++[k]).length≤r
   rw[List.length_append];simp;omega
theorem gM (r:Nat) (w:Mx):∀c,Gh r (kP r c ⟨w,[],1⟩) (pq r c ⟨w,[],1⟩)
 |0=>⟨rfl,rfl,fun _ _=>rfl,Nat.zero_le _⟩
 |c+1=>by rw[nm,sJ];exact EP (gM r w c)
structure Rd (r c A:Nat) (s:St):Prop where
 w:∀a q,a<r→q<c→fs (s.w a q)≤4^s.bg.length*A
 d:fs s.d≤4^s.bg.length*A
theorem CU {r c i p B:Nat} {w:Mx} (h:∀a q,a<r→q<c→fs (w a q)≤B) (hi:i<r) (hp:p<r):∀a q,a<r→q<c→fs (aR w i p a q)≤B:=by
 intro a q ha hq
 unfold aR
 by_cases e:a=i
 ·rw[if_pos e];exact h p q hp hq
 ·rw[if_neg e]
  by_cases g:a=p
  ·rw[if_pos g];exact h i q hi hq
  ·rw[if_neg g];exact h a q ha hq
theorem Rd.step {r c A k i:Nat} {sw:Mx} {sp:List Nat} {sd:Rat} (h:Rd r c A ⟨sw,sp,sd⟩) (hk:k<c) (hi:i<r) (hp:sp.length<r):Rd r c A ⟨rB (aR sw i sp.length) sp.length k r,sp++[k],(if i=sp.length then sd else - sd)*aR sw i sp.length sp.length k⟩:=by
 obtain⟨h1,h2⟩:=h
 simp only at h1 h2
 have hs:=CU h1 hi hp
 have hl:(sp++[k]).length=sp.length+1:=by simp
 have h4:4^(sp.length+1)*A=4*(4^sp.length*A):=by rw[Nat.pow_succ,Nat.mul_comm (4^_) 4,Nat.mul_assoc]
 generalize 4^sp.length*A=B at h1 h2 hs h4
 refine⟨fun a q ha hq=> ?_, ?_⟩
 ·simp only
  rw[hl,h4]
  have a1:=hs _ q hp hq
  have a2:=hs _ k hp hk
  have a3:=hs a q ha hq
  have a4:=hs a k ha hk
  unfold rB
  have b1:=Eb (aR sw i sp.length sp.length q) (aR sw i sp.length sp.length k)
  by_cases e:a=sp.length
  ·rw[if_pos e];omega
  ·rw[if_neg e,if_pos ha]
   have b2:=lK (aR sw i sp.length a k) (aR sw i sp.length sp.length q/aR sw i sp.length sp.length k)
   have b3:=Yx (aR sw i sp.length a q) (aR sw i sp.length a k*(aR sw i sp.length sp.length q/aR sw i sp.length sp.length k))
   omega
 ·simp only
  rw[hl,h4]
  have a2:=hs _ k hp hk
  have b1:=lK (if i=sp.length then sd else - sd) (aR sw i sp.length sp.length k)
  have b2:fs (if i=sp.length then sd else - sd)=fs sd:=by split<;>simp[wK]
  omega
theorem HB {r k i:Nat} {sw:Mx} {sp:List Nat} {sd:Rat} (h1:sp.length≤i) (h2:i<r) (h3:∀a,sp.length≤a→a<i→sw a k=0) (h4:sw i k≠0):
  gi r ⟨sw,sp,sd⟩ k=⟨rB (aR sw i sp.length) sp.length k r,sp++[k],(if i=sp.length then sd else - sd)*aR sw i sp.length sp.length k⟩:=by
 unfold gi
 simp only
 rw[uy h1 aa h3 h4]
theorem HC {r k:Nat} {sw:Mx} {sp:List Nat} {sd:Rat} (hl:sp.length≤r) (h:∀a,sp.length≤a→a<r→sw a k=0):gi r ⟨sw,sp,sd⟩ k=⟨sw,sp,sd⟩:=by
 unfold gi
 simp only
 rw[xu fun a ha hb=>h a ha aa]
end Go.Proofs.YtfpagioknjjacaaGreatDoor
