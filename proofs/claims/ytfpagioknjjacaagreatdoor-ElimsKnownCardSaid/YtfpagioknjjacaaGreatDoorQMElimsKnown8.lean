/- The texts Qf, Ng, Qh. -/
import Derived.Test.YtfpagioknjjacaaGreatDoorQMElimsKnown6
import Derived.Test.YtfpagioknjjacaaGreatDoorQMElimsKnown5
import Derived.Test.YtfpagioknjjacaaGreatDoorQMElimsKnown7
namespace Go.Sx
set_option linter.unusedSimpArgs false
set_option linter.unusedVariables false
set_option maxRecDepth 100000
set_option maxHeartbeats 4000000
structure fE (args:List SV) (fk:List (Nat×aF)) (c:SV) (new upd:List (Nat×aF)):Prop where
 R3:eJ (gg args) (az fk)=true
 fkr:eJ (ij fk) (az fk)=true
 nd:oJ (az fk++az new)=true
 R4:rL new=true
 R5:∀k b,(k,b)∈upd→b.wr=true
 Jo:∀k b,(k,b)∈upd→∃b0,(k,b0)∈fk∧b0.wr=true∧b0.data.live=true
 Ew:∀k b,(k,b)∈fk→b.wr=true→b.data.live=true→∃b',(k,b')∈upd
 cr:eJ (refs c) (az fk++az new)=true
 nr:eJ (ij new) (az fk++az new)=true
 ur:eJ (ij upd) (az fk++az new)=true
 pass:args.all bx=true
theorem fE.of {args:List SV} {fk:List (Nat×aF)} {c:SV} {new upd:List (Nat×aF)} (h1:eJ (gg args) (az fk)=true) (h2:eJ (ij fk) (az fk)=true) (h3:oJ (az fk++az new)=true)
  (h4:rL new=true) (h5:(upd.all fun x=>x.2.wr)=true) (h6:zG fk upd=true) (h7:rT upd fk=true) (h8:eJ (refs c) (az fk++az new)=true) (h9:eJ (ij new) (az fk++az new)=true)
  (Z2:eJ (ij upd) (az fk++az new)=true) (h11:args.all bx=true):fE args fk c new upd:=
 ⟨h1,h2,h3,h4,fun k b hm=>List.all_eq_true.1 h5 _ hm,nE h6,nF h7,h8,h9,Z2,h11⟩
theorem Y4 {P:Program} {T:List (TypeId×TI)} {Z:List Nat} (hT:ic P T) (hm:P.follows .mixedOrders=true) {f:FuncId} {fn':Func} {code:Code} (hf:P.funcs[f]? =some fn') (hb:fn'.body=some code)
  (hn:(fn'.name== "runtime.NumGoroutine")=false) {args:List SV} {fk:List (Nat×aF)} {c:SV} {new upd:List (Nat×aF)} (hs:fE args fk c new upd) (hnt:Nat.ble args.length fn'.ntmps=true)
  (σ:Nat→Nat) (hσ:bo fk new σ)
  (h:∀W0 w0 ρ0,Env.OK ⟨P,T,W0,w0,fn'.ntmps,ρ0,az fk,Z,none⟩→A6 ⟨P,T,W0,w0,fn'.ntmps,ρ0,az fk,Z,none⟩ code (IE T fn'.results.toList (Fin c new upd)) (enum 0 args) fk):
  ab P f (lD σ args) (lE σ fk) (eW σ c) (lE σ new) (lE σ upd):=by
 have Jh:=Nat.le_of_ble_eq_true hnt
 refine .inl ⟨⟨fn',hf,hn,by rw[hb];rfl⟩,fun ρ w z hz Ea=> ?_⟩
 have PD:=l9 hs.nd
 have Jr:(az fk).Nodup:=(List.nodup_append.1 PD).1
 have adu:(az new).Nodup:=(List.nodup_append.1 PD).2.1
 have Js:∀m∈az new,m∉az fk:=fun m hm hq=>(List.nodup_append.1 PD).2.2 m hq m hm rfl
 let ρ1:bU:=⟨fun q=>if q∈az fk then ρ.key (σ q)else none,ρ.bf,ρ.cw⟩
 have Ch:∀q∈az fk,ρ.key (σ q)=ρ1.key q:=fun q hq=>by
  show _=if q∈az fk then _ else _
  rw[if_pos hq]
 have Jt:∀q x,ρ1.key q=some x→q∈az fk:=fun q x hx=>by
  have hx:(if q∈az fk then ρ.key (σ q)else none)=some x:=hx
  by_cases hq:q∈az fk
  ·exact hq
  ·rw[if_neg hq]at hx;cases hx
 let W0:Nat→Prop:=fun b=>∃q blk t,(q,blk)∈upd∧ρ1.key q=some (b,t)
 let E:Env:=⟨P,T,W0,w,fn'.ntmps,ρ1,az fk,Z,none⟩
 have hE:E.OK:=⟨hT,hm,Jt⟩
 have Ju:=dD hs.R3
 have Ji:aw ρ1 args z:=(dw (ρ:=ρ1) (ρ':=ρ) (σ:=σ) rfl args z (fun k hk=>Ch k (Ju k hk))).1 hz
 have qu:z.length=args.length:=cV Ji
 have mJ:∀(l:List SV) (y:List (List Value)),aw ρ1 l y→l.all bx=true→∀(j:Nat) (c:SV),l[j]? =some c→∃v,(List.zipWith cQ l y)[j]? =some v∧Has ρ1 c v:=by
  intro l
  induction l with
  |nil=>intro y _ _ j c h;simp at h
  |cons d l ih=>
   intro y hy hp j c hj
   simp only[aw]at hy
   obtain⟨x,r,rfl,g1,g2⟩:=hy
   simp only[List.all_cons,Bool.and_eq_true]at hp
   cases j with
   |zero=>
    simp at hj
    subst hj
    exact⟨cQ d x,by simp,(iW hp.1).2 ⟨x,g1,rfl⟩⟩
   |succ j=>simpa using ih r g2 hp.2 j c (by simpa using hj)
 have vd:((List.zipWith cQ args z).toArray++Array.replicate (fn'.ntmps - (List.zipWith cQ args z).toArray.size) undef).size=fn'.ntmps:=by
  simp[qu]
  omega
 have R6:=dD hs.fkr
 have oK:∀k b,find fk k=some b→(k,b)∈fk:=fun k b hb=>jc hb
 have hR:R E.W0 E.w0 E.n ρ1 (fn (enum 0 args) fk) {tmps:=(List.zipWith cQ args z).toArray++Array.replicate (fn'.ntmps - (List.zipWith cQ args z).toArray.size) undef,defers:=[]} w:={
  defers:=.nil
  size:=vd
  fr:=fun t sv ht=>by
   simp only[fn,LV.sv]at ht
   obtain⟨_,h2⟩:=rH args 0 t sv ht
   obtain⟨v,h3,h4⟩:=mJ args z Ji hs.pass t sv (by simpa using h2)
   have aE:t<(List.zipWith cQ args z).length:=(List.getElem?_eq_some_iff.1 h3).1
   have:((List.zipWith cQ args z).toArray++Array.replicate (fn'.ntmps - (List.zipWith cQ args z).toArray.size) undef).getD t undef=v:=by
    rw[Array.getD_eq_getD_getElem?,Array.getElem?_append_left (by simpa using aE)]
    simp[h3]
   rw[this];exact h4
  bK:=.refl _ _
  hp:={
   blk:=fun k b hb=>by
    have hm:=oK k b hb
    have:=Ea.n0 (σ k) (dU σ b) (bG.2 ⟨k,b,hm,rfl,rfl⟩)
    exact(jk (ρ:=ρ1) (ρ':=ρ) (σ:=σ) rfl k b (Ch k (aV.2 ⟨b,hm⟩)) (fun j hj=>Ch j (R6 j (iO hm j hj)))).1 this
   sep:=fun k k' x x' b b' hx qt bW he hb gu hl ra=>by
    have hm:=oK k b hb
    have Ex:=oK k' b' gu
    have IA:ρ.key (σ k)=some x:=by rw[Ch k (aV.2 ⟨b,hm⟩)];exact hx
    have R7:ρ.key (σ k')=some x':=by rw[Ch k' (aV.2 ⟨b',Ex⟩)];exact qt
    cases hw:b.wr with
    |false=>rfl
    |true=>
     have:=Ea.sep (σ k) (σ k') x x' (dU σ b) (dU σ b') (bG.2 ⟨k,b,hm,rfl,rfl⟩) (bG.2 ⟨k',b',Ex,rfl,rfl⟩) IA R7 (hσ.inj k k' b b' hm Ex bW hw) he (by rw[dU,cK];exact hl) (by rw[dU,cK];exact ra)
     rw[dU]at this
     rw[hw]at this;exact this
   own:=fun k b x hb hw hl hx=>by
    have hm:=oK k b hb
    obtain⟨b',hu⟩:=hs.Ew k b hm hw hl
    exact .inr ⟨k,b',x.2,hu,hx⟩
   ug:=fun k x hx=>by
    obtain⟨b,hb⟩:=aV.1 (Jt k x hx)
    exact⟨b,by simp only[fn,LV.blk];exact jl Jr hb⟩
   bf:=Ea.bf
   eV:=fun k b x hb hw hl hx=>by
    have hm:=oK k b hb
    have IA:ρ.key (σ k)=some x:=by rw[Ch k (aV.2 ⟨b,hm⟩)];exact hx
    exact Ea.eV (σ k) (dU σ b) x (bG.2 ⟨k,b,hm,rfl,rfl⟩) hw (by rw[dU,cK];exact hl) IA}}
 have MJ:=iN hE code _ _ _ (h E.W0 w ρ1 hE) _ w ⟨ρ1,⟨.refl _,(fun b o hb=>.inl hb),(fun _ _=>rfl)⟩,(fun k hk=>by
  obtain⟨b,hb⟩:=aV.1 hk
  simp only[fn,LV.blk,jl Jr hb]
  simp),hR⟩
 rw[px]
 refine jO (E:=E) rfl hf hb (fun _ _ _ h=>h) (fun _ _ h=>h) MJ ?_
 rintro e a' w' hdf ⟨fr',cc,hK,ρ',hext,_,jD⟩
 have fin:∀ob l,kk T fr' cc fn'.results.toList=some (ob,l)→Cd ob→Fin c new upd (qh l) cc→a'.defers=[]∧∃v,(results fn' a'.tmps).run P w'= .ok v w'∧∃v' ρ'',Ending.returned v= .returned v'∧jH ρ w (eW σ c) (lE σ new) (lE σ upd) v' ρ'' w':=by
  rintro ob l h1 h2 ⟨h3,eX,hupd⟩
  obtain⟨v,r1,r2⟩:=l8 hE jD h1 h2
  let ρ2:bU:=⟨fun k=>match (az new).find? (fun m=>σ m==k)with
   |some m=>ρ'.key m
   |none=>ρ.key k,ρ'.bf,ρ'.cw⟩
  have oL:∀m∈az new,ρ2.key (σ m)=ρ'.key m:=by
   intro m hm
   show(match (az new).find? (fun j=>σ j==σ m)with|some m=>ρ'.key m|none=>ρ.key (σ m))=ρ'.key m
   cases Ey:(az new).find? (fun j=>σ j==σ m)with
   |none=>have:=List.find?_eq_none.1 Ey m hm;simp at this
   |some j=>
    have hj:=List.mem_of_find?_eq_some Ey
    have hjs:=List.find?_some Ey
    have:j=m:=Classical.byContradiction fun bW=>hσ.Jp j m hj hm bW (by simpa using hjs)
    rw[this]
  have xd:∀k,(∀m∈az new,σ m≠k)→ρ2.key k=ρ.key k:=by
   intro k hk
   show(match (az new).find? (fun j=>σ j==k)with|some m=>ρ'.key m|none=>ρ.key k)=ρ.key k
   cases Ey:(az new).find? (fun j=>σ j==k)with
   |none=>rfl
   |some j=>exact absurd (by simpa using List.find?_some Ey) (hk j (List.mem_of_find?_eq_some Ey))
  have k2:∀q∈az fk++az new,ρ2.key (σ q)=ρ'.key q:=by
   intro q hq
   rcases List.mem_append.1 hq with hq|hq
   ·rw[xd (σ q) (fun m hm=>hσ.Jq m q hm hq),Ch q hq,hext.fix q hq]
   ·exact oL q hq
  have dp:∀m∈az new,ρ.key (σ m)=none:=by
   intro m hm
   obtain⟨b,hb⟩:=aV.1 hm
   exact Ea.fresh (σ m) (dU σ b) (bG.2 ⟨m,b,hb,rfl,rfl⟩)
  have ik:=nz hs.R4
  have Jv:=hs.R5
  have ZW:=dD hs.nr
  have hur:=dD hs.ur
  have hcr:=dD hs.cr
  have nA:∀q b,(q,b)∈upd→q∈az fk:=fun q b hq=>by
   obtain⟨b0,h1,_⟩:=hs.Jo q b hq
   exact aV.2 ⟨b0,h1⟩
  refine⟨hdf,v,r1,v,ρ2,rfl,⟨⟨fun k x hx=> ?_,fun b o hb=>hext.le.bf b o hb⟩, ?_,fun k hk=> ?_, ?_, ?_, ?_, ?_, ?_, ?_⟩⟩
  ·rw[xd k]
   ·exact hx
   ·rintro m hm rfl
    rw[dp m hm]at hx;cases hx
  ·exact(vO (ρ:=ρ') (ρ':=ρ2) (σ:=σ) rfl c v (fun k hk=>k2 k (hcr k hk))).2 (h3 ρ' v r2)
  ·refine xd k fun m hm he=> ?_
   obtain⟨b,hb⟩:=aV.1 hm
   exact hk (dU σ b) (bG.2 ⟨m,b,hb,he.symm,rfl⟩)
  ·refine jD.bK.mono (fun b _ hb=> ?_)
   obtain⟨q,blk,t,hq,hx⟩:=hb
   refine⟨σ q,dU σ blk,t,bG.2 ⟨q,blk,hq,rfl,rfl⟩, ?_⟩
   rw[Ch q (nA q blk hq)];exact hx
  ·intro k b hk
   rcases hk with hk|hk
   ·obtain⟨q,b0,hq,rfl,rfl⟩:=bG.1 hk
    exact(jk (ρ:=ρ') (ρ':=ρ2) (σ:=σ) rfl q b0 (k2 q (List.mem_append.2 (.inl (nA q b0 hq)))) (fun j hj=>k2 j (hur j (iO hq j hj)))).2 (jD.hp.blk q b0 (by simp only[fn,LV.blk];exact hupd q b0 hq))
   ·obtain⟨q,b0,hq,rfl,rfl⟩:=bG.1 hk
    exact(jk (ρ:=ρ') (ρ':=ρ2) (σ:=σ) rfl q b0 (k2 q (List.mem_append.2 (.inr (aV.2 ⟨b0,hq⟩)))) (fun j hj=>k2 j (ZW j (iO hq j hj)))).2 (jD.hp.blk q b0 (by simp only[fn,LV.blk];exact eX q b0 hq))
  ·intro k b b' hk nu hl ra
   obtain⟨q,b0,hq,hqk,rfl⟩:=bG.1 hk
   obtain⟨q',b0',AV,hqk',rfl⟩:=bG.1 nu
   rw[dU,cK]at hl ra
   by_cases he:q=q'
   ·have h1:=hupd q b0 hq
    rw[he,hupd q' b0' AV]at h1
    rw[←Option.some.inj h1,ra]at hl;cases hl
   ·obtain⟨f,hf1,hf2,_⟩:=hs.Jo q b0 hq
    obtain⟨f',hf1',_⟩:=hs.Jo q' b0' AV
    exact hσ.inj q q' f f' hf1 hf1' he hf2 (hqk.symm.trans hqk')
  ·intro k b x hk hx
   obtain⟨m,b0,hm,rfl,rfl⟩:=bG.1 hk
   rw[oL m (aV.2 ⟨b0,hm⟩)]at hx
   have ZX:(fn fr' cc (.k m)).blk=some b0:=by simp only[fn,LV.blk];exact eX m b0 hm
   rcases jD.hp.own m b0 x ZX (ik m b0 hm).1 (ik m b0 hm).2 hx with h4|⟨q,bu,t,hq,hxq⟩
   ·exact .inl h4
   ·have Zr:=nA q bu hq
    have bW:m≠q:=fun he=>Js m (aV.2 ⟨b0,hm⟩) (he▸Zr)
    have R8:ρ'.key q=some (x.1,t):=by rw[hext.fix q Zr];exact hxq
    cases Yg:bu.data.live with
    |true=>
     have:=jD.hp.sep m q x (x.1,t) b0 bu hx R8 bW rfl ZX (by simp only[fn,LV.blk];exact hupd q bu hq) (ik m b0 hm).2 Yg
     rw[(ik m b0 hm).1]at this;cases this
    |false=>
     refine .inr ⟨σ q,dU σ bu,t,bG.2 ⟨q,bu,hq,rfl,rfl⟩,by rw[dU,cK];exact Yg, ?_⟩
     rw[Ch q Zr];exact hxq
  ·intro k b k' b' x x' hk nu bW hx qt he
   obtain⟨m,b0,hm,rfl,rfl⟩:=bG.1 hk
   obtain⟨m',b0',Ex,rfl,rfl⟩:=bG.1 nu
   rw[oL m (aV.2 ⟨b0,hm⟩)]at hx
   rw[oL m' (aV.2 ⟨b0',Ex⟩)]at qt
   have:=jD.hp.sep m m' x x' b0 b0' hx qt (fun h=>bW (by rw[h])) he (by simp only[fn,LV.blk];exact eX m b0 hm) (by simp only[fn,LV.blk];exact eX m' b0' Ex) (ik m b0 hm).2 (ik m' b0' Ex).2
   rw[(ik m b0 hm).1]at this;cases this
  ·intro b o hb
   rcases hext.bf b o hb with h4|h4
   ·exact .inl h4
   ·refine .inr ⟨h4,jD.hp.bf b o hb,fun k blk x hk hx he=> ?_⟩
    obtain⟨m,b0,hm,rfl,rfl⟩:=bG.1 hk
    rw[oL m (aV.2 ⟨b0,hm⟩)]at hx
    have:=jD.hp.eV m b0 x (by simp only[fn,LV.blk];exact eX m b0 hm) (ik m b0 hm).1 (ik m b0 hm).2 hx
    rw[he]at this
    have gu:ρ'.bf b=some o:=hb
    rw[gu]at this;cases this
 cases e<;>simp only[IE]at hK<;>simp only[bodyPost]
 ·split at hK
  ·rename_i ob l hl;exact fin ob l hl (cm hK).1 (cm hK).2
  ·exact hK.elim
 ·split at hK
  ·rename_i ob l hl;exact fin ob l hl (cm hK).1 (cm hK).2
  ·exact hK.elim
theorem Lv {E:Env} {j:Nat} {ty:TypeId} {wr:Bool} {cs:List SV} {fr:List (Nat×SV)} {hp:List (Nat×aF)} (hj:find hp j=some ⟨ty,wr,.one cs⟩) (od:bn cs=true) (F9:qw 1 cs=true) {a:Act} {w:World} (hR:RR E (fn fr hp) a w):
  RR E (fn fr ((j,⟨ty,wr,.seq 1 cs⟩)::hp)) a w:=by
 obtain⟨ρ,hext,hfx,hR⟩:=hR
 have gB:∀i b,(fn fr ((j,⟨ty,wr,.seq 1 cs⟩)::hp) (.k i)).blk=some b→∃b0,(fn fr hp (.k i)).blk=some b0∧b0.wr=b.wr∧b0.data.live=b.data.live∧(b0=b∨(i=j∧b0=⟨ty,wr,.one cs⟩∧b=⟨ty,wr,.seq 1 cs⟩)):=by
  intro i b hb
  simp only[fn,LV.blk,find]at hb ⊢
  cases hi:Nat.beq j i with
  |true=>
   rw[hi]at hb
   simp only[Option.some.injEq]at hb
   obtain rfl:=Nat.eq_of_beq_eq_true hi
   subst hb
   exact⟨_,hj,rfl,rfl,.inr ⟨rfl,rfl,rfl⟩⟩
  |false=>rw[hi]at hb;exact⟨b,hb,rfl,rfl,.inl rfl⟩
 refine⟨ρ,hext,fun i hi=> ?_,{defers:=hR.defers,size:=hR.size,fr:=fun u sv hu=>hR.fr u sv hu,bK:=hR.bK,hp:= ?_}⟩
 ·have:=hfx i hi
  simp only[fn,LV.blk,find]at this ⊢
  cases hb:Nat.beq j i with
  |true=>simp
  |false=>exact this
 ·constructor
  ·intro i b hb
   obtain⟨b0,h1,h2,h3,rfl|⟨rfl,rfl,rfl⟩⟩:=gB i b hb
   ·exact hR.hp.blk i b0 h1
   ·rcases hR.hp.blk i _ h1 with h4|⟨b',t,vs,ex,g1,g2,g3,g4,g5⟩|⟨_,h4⟩
    ·cases h4
    ·refine .inr (.inl ⟨b',t,vs,ex,g1,g2, ?_,g4,g5⟩)
     simp only[da]at g3 ⊢
     obtain⟨z,g6,g7⟩:=g3
     exact⟨z,cl (ρ:=ρ) (ρ':=cR ρ.bf ρ.cw) (fun _ _ h=>h) cs z od g6,g7,jX F9⟩
    ·exact h4.elim
  ·intro i i' x x' b b' hx qt hn hxe hb gu hl ra
   obtain⟨b0,h1,h2,h3,_⟩:=gB i b hb
   obtain⟨b0',h1',h2',h3',_⟩:=gB i' b' gu
   rw[←h2]
   exact hR.hp.sep i i' x x' b0 b0' hx qt hn hxe h1 h1' (h3.trans hl) (h3'.trans ra)
  ·intro i b x hb hw hl hx
   obtain⟨b0,h1,h2,h3,_⟩:=gB i b hb
   exact hR.hp.own i b0 x h1 (h2.trans hw) (h3.trans hl) hx
  ·intro i x hx
   obtain⟨b,hb⟩:=hR.hp.ug i x hx
   simp only[fn,LV.blk,find]at hb ⊢
   cases hi:Nat.beq j i with
   |true=>exact⟨_,rfl⟩
   |false=>exact⟨b,hb⟩
  ·exact hR.hp.bf
  ·intro i b x hb hw hl hx
   obtain⟨b0,h1,h2,h3,_⟩:=gB i b hb
   exact hR.hp.eV i b0 x h1 (h2.trans hw) (h3.trans hl) hx
theorem GS {ρ:bU}:∀{cs:List SV} {z:List (List Value)} {p:Nat} {c:SV},aw ρ cs z→cs[p]? =some c→∃x,z[p]? =some x∧aL ρ c x
 |[],_,_,_,_,h=>by simp at h
 |d::cs,z,0,c,hz,h=>by
  simp only[aw]at hz
  obtain⟨x,r,rfl,h1,_⟩:=hz
  simp only[List.getElem?_cons_zero,Option.some.injEq]at h
  subst h
  exact⟨x,rfl,h1⟩
 |d::cs,z,p+1,c,hz,h=>by
  simp only[aw]at hz
  obtain⟨x,r,rfl,_,h2⟩:=hz
  obtain⟨y,h3,h4⟩:=GS h2 (by simpa using h)
  exact⟨y,by simpa using h3,h4⟩
theorem Dy {ρ:bU} {v:SV} {x:List Value}:∀{cs:List SV} {z:List (List Value)} {p:Nat},aw ρ cs z→z[p]? =some x→aL ρ v x→aw ρ (cs.set p v) z
 |[],z,p,hz,_,_=>by simpa using hz
 |d::cs,z,0,hz,h,hv=>by
  simp only[aw]at hz
  obtain⟨y,r,rfl,_,h2⟩:=hz
  simp only[List.getElem?_cons_zero,Option.some.injEq]at h
  subst h
  simp only[List.set_cons_zero,aw]
  exact⟨_,_,rfl,hv,h2⟩
 |d::cs,z,p+1,hz,h,hv=>by
  simp only[aw]at hz
  obtain⟨y,r,rfl,h1,h2⟩:=hz
  simp only[List.set_cons_succ,aw]
  exact⟨y,r,rfl,h1,Dy h2 (by simpa using h) hv⟩
theorem Lw {ρ:bU} {w:Nat} {a:Option Addr} {l:List SV} (h:l=[]):aL ρ (eI w l) [.slice a 0 0]:=by
 subst h;exact rW (by simp only[aL];exact⟨rfl,rfl⟩)
theorem qN {E:Env} (jj pp k:Nat) {tj:TypeId} {wj:Bool} {cs:List SV} {fr:List (Nat×SV)} {hp:List (Nat×aF)} {ty:TypeId} {d:Data} {w i n:Nat} {xs:List SV} (hW:∀b,¬E.W0 b) (hjf:find hp jj=some ⟨tj,wj,.one cs⟩) (hjk:jj≠k) (IK:cs[pp]? =some (.aO k w i n)) (hk:find hp k=some ⟨ty,true,d⟩)
  (he:im d=some xs) (hw:cZ d=some w) (od:bn xs=true) (hn:i+n≤xs.length) {a:Act} {W:World} (hR:RR E (fn fr hp) a W):RR E (fn fr ((jj,⟨tj,wj,.one (cs.set pp (eI w (gY xs i (i+n))))⟩)::ff hp k ⟨ty,true,.dead⟩)) a W:=by
 have hl:d.live=true:=by cases d<;>simp[im]at he<;>rfl
 obtain⟨ρ,hext,hfx,hR⟩:=hR
 have Ci:(fn fr hp (.k k)).blk=some ⟨ty,true,d⟩:=by simp only[fn,LV.blk];exact hk
 have hjb:(fn fr hp (.k jj)).blk=some ⟨tj,wj,.one cs⟩:=by simp only[fn,LV.blk];exact hjf
 obtain⟨bj,nj,exj,zj,hj1,hj2,hj3,hj4,hj5⟩:∃bj nj exj zj,ρ.key jj=some (bj,nj)∧W.heap[bj]? =some ((Data.one cs).obj (zj.flatten++exj) tj)∧aw ρ cs zj∧(zj.flatten++exj).length=nj∧∀v∈exj,v.oneCell'=true:=by
  rcases hR.hp.blk jj _ hjb with g0|⟨b',t',vs,ex,g1,g2,⟨z,g3,rfl⟩,g4,g5⟩|⟨_,g2⟩
  ·cases g0
  ·exact⟨b',t',ex,z,g1,g2,g3,g4,g5⟩
  ·exact g2.elim
 obtain⟨x,hzx,hx⟩:=GS hj3 IK
 have ek:∀q b,(fn fr ((jj,⟨tj,wj,.one (cs.set pp (eI w (gY xs i (i+n))))⟩)::ff hp k ⟨ty,true,.dead⟩) (.k q)).blk=some b→(q=jj∧b=⟨tj,wj,.one (cs.set pp (eI w (gY xs i (i+n))))⟩)∨(q=k∧b=⟨ty,true,.dead⟩)∨(q≠jj∧q≠k∧(fn fr hp (.k q)).blk=some b):=by
  intro q b hb
  simp only[fn,LV.blk,find]at hb ⊢
  cases hq:Nat.beq jj q with
  |true=>
   rw[hq]at hb
   exact .inl ⟨(Nat.eq_of_beq_eq_true hq).symm,(Option.some.inj hb).symm⟩
  |false=>
   rw[hq]at hb
   simp only[cq]at hb
   have bW:q≠jj:=by rintro rfl;simp[Nat.beq_refl]at hq
   by_cases hj:q=k
   ·rw[if_pos hj]at hb;exact .inr (.inl ⟨hj,(Option.some.inj hb).symm⟩)
   ·rw[if_neg hj]at hb;exact .inr (.inr ⟨bW,hj,hb⟩)
 have fin:∀ρ':bU,ρ'.key=ρ.key→(∀b o,ρ.bf b=some o→ρ'.bf b=some o)→(∀b o,ρ'.bf b=some o→ρ.bf b=some o∨E.w0.heap.size≤b)→(∀b o,ρ'.bf b=some o→W.heap[b]? =some o)→
   (∀j b x,j≠k→(fn fr hp (.k j)).blk=some b→b.wr=true→b.data.live=true→ρ.key j=some x→ρ'.bf x.1=none)→(∀D,W.heap[D]? =some (.deferred (some []))→ρ.bf D=none→ρ'.bf D=none)→aL ρ' (eI w (gY xs i (i+n))) x→
   RR E (fn fr ((jj,⟨tj,wj,.one (cs.set pp (eI w (gY xs i (i+n))))⟩)::ff hp k ⟨ty,true,.dead⟩)) a W:=by
  intro ρ' b9 himm eX hheap jg hmark hhas
  have hle:ρ.Le ρ':=⟨fun j y hy=>by rw[b9];exact hy,himm⟩
  refine⟨ρ',⟨hext.le.trans hle,fun b o hb=>(eX b o hb).elim (fun h=>hext.bf b o h) .inr,fun j hj=>by rw[b9];exact hext.fix j hj⟩,fun j hj=> ?_,{defers:= ?_,size:=hR.size,fr:= ?_,bK:=hR.bK,hp:= ?_}⟩
  ·have:=hfx j hj
   simp only[fn,LV.blk,find]at this ⊢
   cases hq:Nat.beq jj j with
   |true=>simp
   |false=>
    simp only[cq]
    split
    ·simp
    ·exact this
  ·obtain⟨Ds,d1,d2,d3⟩:=hR.defers
   refine⟨Ds,d1,d2,fun D hD=> ?_⟩
   obtain⟨e1,e2,e3⟩:=d3 D hD
   refine⟨e1,e2, ?_⟩
   exact hmark D e2 e3
  ·intro u sv hu
   exact Has.mono hle _ _ (hR.fr u sv hu)
  ·have mG:∀q b,(fn fr ((jj,⟨tj,wj,.one (cs.set pp (eI w (gY xs i (i+n))))⟩)::ff hp k ⟨ty,true,.dead⟩) (.k q)).blk=some b→b.data.live=true→∃b0,(fn fr hp (.k q)).blk=some b0∧b0.wr=b.wr∧b0.data.live=true∧q≠k:=by
    intro q b hb hlv
    rcases ek q b hb with⟨rfl,rfl⟩|⟨_,rfl⟩|⟨_,h2,h3⟩
    ·exact⟨_,hjb,rfl,rfl,hjk⟩
    ·cases hlv
    ·exact⟨b,h3,rfl,hlv,h2⟩
   constructor
   ·intro q b hb
    rcases ek q b hb with⟨rfl,rfl⟩|⟨rfl,rfl⟩|⟨_,_,hb⟩
    ·refine .inr (.inl ⟨bj,nj,zj.flatten,exj,by rw[b9];exact hj1,hj2,⟨zj, ?_,rfl⟩,hj4,hj5⟩)
     exact Dy (aw.mono hle cs zj hj3) hzx hhas
    ·exact .inl rfl
    ·rcases hR.hp.blk q b hb with g0|⟨b',t',vs,ex,g1,g2,g3,g4⟩|⟨g1,g2⟩
     ·exact .inl g0
     ·exact .inr (.inl ⟨b',t',vs,ex,by rw[b9];exact g1,g2,g3.mono hle,g4⟩)
     ·exact .inr (.inr ⟨by rw[b9];exact g1,g2⟩)
   ·intro j j' y y' b b' hy Eo bW hyy hb gu eR iC
    rw[b9]at hy Eo
    obtain⟨c0,h1,h2,h3,_⟩:=mG j b hb eR
    obtain⟨c0',h1',h2',h3',_⟩:=mG j' b' gu iC
    rw[←h2]
    exact hR.hp.sep j j' y y' c0 c0' hy Eo bW hyy h1 h1' h3 h3'
   ·intro j b y hb hwr eR hy
    rw[b9]at hy
    obtain⟨c0,h1,h2,h3,_⟩:=mG j b hb eR
    exact hR.hp.own j c0 y h1 (h2.trans hwr) h3 hy
   ·intro j y hy
    rw[b9]at hy
    obtain⟨b,hb⟩:=hR.hp.ug j y hy
    simp only[fn,LV.blk,find]at hb ⊢
    cases hq:Nat.beq jj j with
    |true=>exact⟨_,rfl⟩
    |false=>
     simp only[cq]
     split
     ·exact⟨_,rfl⟩
     ·exact⟨b,hb⟩
   ·exact hheap
   ·intro j b y hb hwr eR hy
    rw[b9]at hy
    obtain⟨c0,h1,h2,h3,h4⟩:=mG j b hb eR
    exact jg j c0 y h4 h1 (h2.trans hwr) h3 hy
 rcases qD (hR.hp.blk k _ Ci) he hw od hn hx with⟨rfl,ad,rfl⟩|⟨b,t',o,h1,h2,h3⟩
 ·refine fin ρ rfl (fun _ _ h=>h) (fun _ _ h=>.inl h) hR.hp.bf (fun j b y _ hb hwr eR hy=>hR.hp.eV j b y hb hwr eR hy) (fun _ _ h=>h) ?_
  exact Lw (by simp[gY])
 ·have hB:E.w0.heap.size≤b:=(hR.hp.own k _ _ Ci rfl hl h1).resolve_right (hW _)
  obtain⟨u,Hn⟩:=(Up.refl ρ W E.w0.heap.size).add hR.hp.bf hB h2
  refine fin ⟨ρ.key,_,u.cw⟩ rfl u.le (fun b o hb=>(u.new b o hb).imp id (fun h=>h.1)) (fun c p hc=> ?_) (fun j blk y hj hb hwr eR hy=> ?_) (fun D Nk hD2=> ?_) ?_
  ·rcases u.new c p hc with h|h
   ·exact hR.hp.bf c p h
   ·exact h.2
  ·show(if y.1=b then some o else ρ.bf y.1)=none
   rw[if_neg]
   ·exact hR.hp.eV j blk y hb hwr eR hy
   ·intro he2
    have:=hR.hp.sep k j (b,t') y _ _ h1 hy (fun h=>hj h.symm) he2.symm Ci hb hl eR
    cases this
  ·show(if D=b then some o else ρ.bf D)=none
   rw[if_neg,hD2]
   rintro rfl
   rcases hR.hp.blk k _ Ci with g0|⟨b',t'',vs,ex,g1,g2,_⟩|⟨g1,_⟩
   ·rw[show Data.live d=false from g0]at hl;cases hl
   ·rw[h1]at g1;cases g1;rw[Nk]at g2;exact Data.jG (Option.some.inj g2).symm
   ·rw[h1]at g1;cases g1
  ·exact aL.mono (oo ⟨ρ.key,_,u.cw⟩ u.cw) _ _ (h3 _ u.cw u.le (by simp))
theorem lf {E:Env} (t k:Nat) {fr:List (Nat×SV)} {hp:List (Nat×aF)} {ty:TypeId} {cs:List SV} (hW:∀b,¬E.W0 b) (ht:lk fr t=some (.ptr k 0 0 0)) (hk:find hp k=some ⟨ty,true,.one cs⟩)
  (od:bn cs=true) {a:Act} {W:World} (hR:RR E (fn fr hp) a W):RR E (fn ((t,bE cs)::fr) (ff hp k ⟨ty,true,.dead⟩)) a W:=by
 have hl:(Data.one cs).live=true:=rfl
 obtain⟨ρ,hext,hfx,hR⟩:=hR
 have Ci:(fn fr hp (.k k)).blk=some ⟨ty,true,.one cs⟩:=by simp only[fn,LV.blk];exact hk
 have hv:=hR.fr t _ (by simp only[fn,LV.sv];exact ht)
 obtain⟨x,hx,hxv⟩:=(iW (c:=.ptr k 0 0 0) rfl).1 hv
 have ek:∀j b,(fn ((t,bE cs)::fr) (ff hp k ⟨ty,true,.dead⟩) (.k j)).blk=some b→(j=k∧b=⟨ty,true,.dead⟩)∨(j≠k∧(fn fr hp (.k j)).blk=some b):=by
  intro j b hb
  simp only[fn,LV.blk,cq]at hb ⊢
  by_cases hj:j=k
  ·rw[if_pos hj]at hb;exact .inl ⟨hj,(Option.some.inj hb).symm⟩
  ·rw[if_neg hj]at hb;exact .inr ⟨hj,hb⟩
 have fin:∀ρ':bU,ρ'.key=ρ.key→(∀b o,ρ.bf b=some o→ρ'.bf b=some o)→(∀b o,ρ'.bf b=some o→ρ.bf b=some o∨E.w0.heap.size≤b)→(∀b o,ρ'.bf b=some o→W.heap[b]? =some o)→
   (∀j b x,j≠k→(fn fr hp (.k j)).blk=some b→b.wr=true→b.data.live=true→ρ.key j=some x→ρ'.bf x.1=none)→(∀D,W.heap[D]? =some (.deferred (some []))→ρ.bf D=none→ρ'.bf D=none)→Has ρ' (bE cs) (a.tmps.getD t undef)→
   RR E (fn ((t,bE cs)::fr) (ff hp k ⟨ty,true,.dead⟩)) a W:=by
  intro ρ' b9 himm eX hheap jg hmark hhas
  have hle:ρ.Le ρ':=⟨fun j y hy=>by rw[b9];exact hy,himm⟩
  refine⟨ρ',⟨hext.le.trans hle,fun b o hb=>(eX b o hb).elim (fun h=>hext.bf b o h) .inr,fun j hj=>by rw[b9];exact hext.fix j hj⟩,fun j hj=> ?_,{defers:= ?_,size:=hR.size,fr:= ?_,bK:=hR.bK,hp:= ?_}⟩
  ·have:=hfx j hj
   simp only[fn,LV.blk,cq]at this ⊢
   split
   ·simp
   ·exact this
  ·obtain⟨Ds,d1,d2,d3⟩:=hR.defers
   refine⟨Ds,d1,d2,fun D hD=> ?_⟩
   obtain⟨e1,e2,e3⟩:=d3 D hD
   refine⟨e1,e2, ?_⟩
   exact hmark D e2 e3
  ·intro u sv hu
   simp only[fn,LV.sv,lk]at hu
   cases hb:Nat.beq t u with
   |true=>
    rw[hb]at hu
    simp only[Option.some.injEq]at hu
    subst hu
    rw[←Nat.eq_of_beq_eq_true hb]
    exact hhas
   |false=>rw[hb]at hu;exact Has.mono hle _ _ (hR.fr u sv (by simp only[fn,LV.sv];exact hu))
  ·constructor
   ·intro j b hb
    rcases ek j b hb with⟨rfl,rfl⟩|⟨hj,hb⟩
    ·exact .inl rfl
    ·rcases hR.hp.blk j b hb with g0|⟨b',t',vs,ex,g1,g2,g3,g4⟩|⟨g1,g2⟩
     ·exact .inl g0
     ·exact .inr (.inl ⟨b',t',vs,ex,by rw[b9];exact g1,g2,g3.mono hle,g4⟩)
     ·exact .inr (.inr ⟨by rw[b9];exact g1,g2⟩)
   ·intro j j' y y' b b' hy Eo bW hyy hb gu eR iC
    rw[b9]at hy Eo
    rcases ek j b hb with⟨_,rfl⟩|⟨_,hb⟩
    ·cases eR
    rcases ek j' b' gu with⟨_,rfl⟩|⟨_,gu⟩
    ·cases iC
    exact hR.hp.sep j j' y y' b b' hy Eo bW hyy hb gu eR iC
   ·intro j b y hb hwr eR hy
    rw[b9]at hy
    rcases ek j b hb with⟨_,rfl⟩|⟨_,hb⟩
    ·cases eR
    exact hR.hp.own j b y hb hwr eR hy
   ·intro j y hy
    rw[b9]at hy
    obtain⟨b,hb⟩:=hR.hp.ug j y hy
    simp only[fn,LV.blk,cq]at hb ⊢
    split
    ·exact⟨_,rfl⟩
    ·exact⟨b,hb⟩
   ·exact hheap
   ·intro j b y hb hwr eR hy
    rw[b9]at hy
    rcases ek j b hb with⟨_,rfl⟩|⟨hj,hb⟩
    ·cases eR
    exact jg j b y hj hb hwr eR hy
 simp only[aL]at hx
 obtain⟨b,t',h1,rfl⟩:=hx
 rcases hR.hp.blk k _ Ci with g0|⟨b',t'',vs,ex,g1,g2,g3,g4,g5⟩|⟨g1,_⟩
 ·cases g0
 ·rw[h1]at g1
  cases g1
  rw[Data.cT rfl]at g2
  have h2:W.heap[b]? =some (.cells (vs++ex).toArray ty (0,0)):=g2
  simp only[da]at g3
  obtain⟨z,z1,rfl⟩:=g3
  have hB:E.w0.heap.size≤b:=(hR.hp.own k _ _ Ci rfl hl h1).resolve_right (hW _)
  obtain⟨u,Hn⟩:=(Up.refl ρ W E.w0.heap.size).add hR.hp.bf hB h2
  refine fin ⟨ρ.key,_,u.cw⟩ rfl u.le (fun b o hb=>(u.new b o hb).imp id (fun h=>h.1)) (fun c p hc=> ?_) (fun j blk y hj hb hwr eR hy=> ?_) (fun D Nk hD2=> ?_) ?_
  ·rcases u.new c p hc with h|h
   ·exact hR.hp.bf c p h
   ·exact h.2
  ·show(if y.1=b then some _ else ρ.bf y.1)=none
   rw[if_neg]
   ·exact hR.hp.eV j blk y hb hwr eR hy
   ·intro he2
    have:=hR.hp.sep k j (b,t') y _ _ h1 hy (fun h=>hj h.symm) he2.symm Ci hb hl eR
    cases this
  ·show(if D=b then some _ else ρ.bf D)=none
   rw[if_neg,hD2]
   rintro rfl
   rw[Nk]at h2;cases h2
  ·rw[hxv]
   have hz:aw (cR (fun x=>if x=b then some (.cells (z.flatten++ex).toArray ty (0,0))else ρ.bf x) u.cw) cs z:=cl (ρ:=ρ) u.le cs z od z1
   refine oF ⟨b,z,[],ex,ty,(0,0),if_pos rfl,hz, ?_⟩
   simp[cQ,SV.bl]
 ·rw[h1]at g1;cases g1
theorem yg {E:Env} {ops:Array Oper} {l2:List Oper} {Q:Exit→Act→World→Prop}:∀(l:List Oper) (fr:List (Nat×SV)) (hp:List (Nat×aF)) (recs:List Rec) (fr':List (Nat×SV)) (cc:List (Nat×aF)),Er E ops l fr hp recs fr' cc→
  (∀a w,RR E (fn fr' cc) a w→wpListIn (FT E.ro) 0 E.P ops Q l2 a w)→∀a w,RR E (fn fr hp) a w→wpListIn (FT E.ro) 0 E.P ops Q (l++l2) a w
 |[],fr,hp,recs,fr',cc,h,hQ,a,w,hR=>by
  obtain⟨_,rfl,rfl⟩:=h
  exact hQ a w hR
 |o::l,fr,hp,recs,fr',cc,h,hQ,a,w,hR=>by
  obtain⟨rc,rest,rfl,_,_,_,⟨_,_,hs⟩,h2⟩:=h
  have ih:=yg l _ _ _ _ _ h2 hQ
  have:=hs (fn fr hp) (fun _ _=>rfl) (fun _ _=>rfl) a w hR
  rw[List.cons_append]
  unfold wpListIn
  split
  ·rename_i hw
   rw[if_pos hw]at this
   refine uh (pn ?_ this)
   intro a' w' jD
   rw[wS]at jD
   exact ih a' w' jD
  ·rename_i hw
   rw[if_neg hw,wS]at this
   exact⟨fun _ _=>trivial,ih _ _ this⟩
theorem eh {E:Env} (hE:E.OK) (n:Nat) {id:Nat} {ops:Array Oper} {K:bI} {fr:List (Nat×SV)} {hp:List (Nat×aF)}
  (h:lex E ops.toList (ops.toList.take n) fr hp [] fun fr1 hp1 _=>∃fr2 hp2,(∀a w,RR E (fn fr1 hp1) a w→RR E (fn fr2 hp2) a w)∧lex E ops.toList (ops.toList.drop n) fr2 hp2 [] fun fr3 hp3 _=>K .normal fr3 hp3):ey E (.region id ops false) K fr hp:=⟨by
 intro a w hR
 obtain⟨recs,fr1,hp1,h1,fr2,hp2,hRR,h2⟩:=rB hE.A7 _ _ _ _ h
 obtain⟨recs2,fr3,hp3,h3,h4⟩:=rB hE.A7 _ _ _ _ h2
 have e2:=uk (Q:=vc E K) _ _ _ _ _ _ h3 (fun a w hR=>⟨fr3,hp3,h4,hR⟩)
 have e1:=yg (Q:=vc E K) (l2:=ops.toList.drop n) _ _ _ _ _ _ h1 (fun a w hR=>by simpa using e2 a w (hRR a w hR)) a w hR
 rw[List.take_append_drop]at e1
 exact wpIn_region_list (by simpa using e1)⟩
end Go.Sx
namespace Go.Proofs.YtfpagioknjjacaaGreatDoor
open Go.Sx
set_option linter.unusedSimpArgs false
set_option linter.unusedVariables false
set_option maxRecDepth 100000
set_option maxHeartbeats 4000000
structure RE (r c:Nat) (w:Mx) (aH:List Nat):Prop where
 len:aH.length≤r
 lt:∀j,j<aH.length→aH.getD j 0<c
 inc:∀i j,i<j→j<aH.length→aH.getD i 0<aH.getD j 0
 unit:∀j,j<aH.length→∀i,i<r→w i (aH.getD j 0)=if i=j then 1 else 0
 left:∀i,i<aH.length→∀q,q<aH.getD i 0→w i q=0
 low:∀i,aH.length≤i→i<r→∀q,q<c→w i q=0
theorem Inv.re {r c:Nat} {W:Mx} {s:St} (h:Inv r W c s):RE r c s.w s.aH:=⟨h.len,h.lt,h.inc,h.unit,h.left,h.low⟩
def mf (r c:Nat) (w:Mx) (x:Nat→Rat):Prop:=∀i,i<r→aD c (fun q=>w i q*x q)=0
theorem OY {r c:Nat} {P W w:Mx} (hP:bL r P≠0) (hw:∀i,i<r→∀q,w i q=pr r P W i q) (x:Nat→Rat):mf r c w x↔mf r c W x:=by
 have e:∀i,i<r→aD c (fun q=>w i q*x q)=aD r fun p=>P i p*aD c fun q=>W p q*x q:=fun i hi=>by
  rw[ai c (g:=fun q=>aD r fun p=>P i p*(W p q*x q)) fun q _=>by rw[hw i hi,pr,dL];exact ai r fun p _=>by grind,di]
  exact ai r fun p _=>(bs _ _).symm
 constructor
 ·intro h i hi
  have h1:aD r (fun j=>vq r P i j*aD c fun q=>w j q*x q)=0:=cv fun j hj=>by rw[h j hj];grind
  rw[ai r (g:=fun j=>aD r fun p=>vq r P i j*P j p*aD c fun q=>W p q*x q) fun j hj=>by rw[e j hj,bs];exact ai r fun p _=>by grind,di]at h1
  rw[ai r (g:=fun p=>bL r P*(delta i p*aD c fun q=>W p q*x q)) fun p hp=>by
   rw[←dL]
   have:=sE P hi hp
   unfold pr at this
   rw[this,delta];split<;>grind,←bs,c7,if_pos hi]at h1
  rcases Rat.mul_eq_zero.1 h1 with g|g
  ·exact absurd g hP
  ·exact g
 ·intro h i hi
  rw[e i hi];exact cv fun p hp=>by rw[h p hp];grind
theorem BV {a b:Rat} (h:a*b=1):a≠0:=by intro g;rw[g]at h;grind
theorem Inv.Lx {r c k:Nat} {W:Mx} {s:St} (h:Inv r W k s) (x:Nat→Rat):mf r c s.w x↔mf r c W x:=by
 obtain⟨P,h1,h2⟩:=h.uf
 exact OY (BV h1) h2 x
section
variable {r c:Nat} {w:Mx} {aH:List Nat}
theorem wi (h:RE r c w aH) {i j:Nat} (hi:i<aH.length) (hj:j<aH.length) (e:aH.getD i 0=aH.getD j 0):i=j:=by
 rcases Nat.lt_trichotomy i j with g|g|g
 ·have:=h.inc i j g hj;omega
 ·exact g
 ·have:=h.inc j i g hi;omega
theorem cL {l:List Nat} {q:Nat}:q∈l↔∃j,j<l.length∧l.getD j 0=q:=by
 constructor
 ·intro h
  obtain⟨j,hj,e⟩:=List.getElem_of_mem h
  exact⟨j,hj,by rw[List.getD_eq_getElem?_getD,List.getElem?_eq_getElem hj];exact e⟩
 ·rintro⟨j,hj,rfl⟩
  rw[List.getD_eq_getElem?_getD,List.getElem?_eq_getElem hj];exact List.getElem_mem hj
def kv (w:Mx) (aH:List Nat) (k q:Nat):Rat:=delta q k - aD aH.length fun j=>delta q (aH.getD j 0)*w j k
theorem Ly (h:RE r c w aH) (u:Mx) {k:Nat} (hk:k<c) (i:Nat):aD c (fun q=>u i q*kv w aH k q)=u i k - aD aH.length fun j=>u i (aH.getD j 0)*w j k:=by
 rw[ai c (g:=fun q=>u i q*delta q k+(-1)*aD aH.length fun j=>u i q*delta q (aH.getD j 0)*w j k) fun q _=>by
  unfold kv;rw[ai aH.length (f:=fun j=>u i q*delta q (aH.getD j 0)*w j k) (g:=fun j=>u i q*(delta q (aH.getD j 0)*w j k)) fun j _=>by grind,←bs];grind]
 rw[sum_add,eF,if_pos hk,←bs,di,ai aH.length (f:=fun j=>aD c fun q=>u i q*delta q (aH.getD j 0)*w j k) (g:=fun j=>u i (aH.getD j 0)*w j k) fun j hj=>by
  rw[←dL,eF,if_pos (h.lt j hj)]]
 grind
theorem Fs (h:RE r c w aH) {k:Nat} (hk:k<c):mf r c w (kv w aH k):=by
 intro i hi
 rw[Ly h w hk]
 rw[ai aH.length (g:=fun j=>delta i j*w j k) fun j hj=>by rw[h.unit j hj i hi,delta],c7]
 by_cases g:i<aH.length
 ·rw[if_pos g];grind
 ·rw[if_neg g,h.low i aa hi k hk];grind
theorem wm (h:RE r c w aH) {k:Nat} (hn:k∉aH):kv w aH k k=1:=by
 unfold kv
 rw[cv fun j hj=>by rw[delta,if_neg fun e=>hn (cL.2 ⟨j,hj,e.symm⟩)];grind,delta,if_pos rfl];grind
theorem sI {k q:Nat} (hq:q∉aH) (bW:q≠k):kv w aH k q=0:=by
 unfold kv
 rw[cv fun j hj=>by rw[delta,if_neg fun e=>hq (cL.2 ⟨j,hj,e.symm⟩)];grind,delta,if_neg bW];grind
theorem Lz (h:RE r c w aH) {k j:Nat} (hn:k∉aH) (hj:j<aH.length):kv w aH k (aH.getD j 0)= - w j k:=by
 unfold kv
 rw[iZ (j:=j) aH.length hj fun i hi bW=>by rw[delta,if_neg fun e=>bW (wi h hi hj e.symm)];grind,delta,if_neg fun e=>hn (cL.2 ⟨j,hj,e⟩),delta,if_pos rfl];grind
theorem LA (h:RE r c w aH) {k q:Nat} (hn:k∉aH) (hq:k<q):kv w aH k q=0:=by
 by_cases g:q∈aH
 ·obtain⟨j,hj,rfl⟩:=cL.1 g
  rw[Lz h hn hj,h.left j hj k hq];grind
 ·exact sI g aa
theorem GU (h:RE r c w aH) {k:Nat} (hk:k<c):k∉aH↔∃x,mf r c w x∧x k≠0∧∀q,k<q→q<c→x q=0:=by
 constructor
 ·intro hn
  exact⟨kv w aH k,Fs h hk,by rw[wm h hn];decide,fun q h1 _=>LA h hn h1⟩
 ·rintro⟨x,h1,h2,h3⟩ hm
  obtain⟨j,hj,rfl⟩:=cL.1 hm
  have:=h1 j (by have:=h.len;omega)
  rw[iZ (j:=aH.getD j 0) c hk fun q hq bW=>by
   rcases Nat.lt_or_gt_of_ne bW with g|g
   ·rw[h.left j hj q g];grind
   ·rw[h3 q g hq];grind,h.unit j hj j (by have:=h.len;omega),if_pos rfl]at this
  exact h2 (by grind)
end
theorem GV:∀{l m:List Nat},(∀i j,i<j→j<l.length→l.getD i 0<l.getD j 0)→(∀i j,i<j→j<m.length→m.getD i 0<m.getD j 0)→(∀k,k∈l↔k∈m)→l=m
 |[],[],_,_,_=>rfl
 |[],b::m,_,_,h=>by have:=(h b).2 (List.mem_cons_self ..);cases this
 |a::l,[],_,_,h=>by have:=(h a).1 (List.mem_cons_self ..);cases this
 |a::l,b::m,h1,h2,h=>by
  have gl:∀x,x∈l→a<x:=fun x hx=>by
   obtain⟨j,hj,rfl⟩:=cL.1 hx
   exact h1 0 (j+1) aa (by simp;omega)
  have gm:∀x,x∈m→b<x:=fun x hx=>by
   obtain⟨j,hj,rfl⟩:=cL.1 hx
   exact h2 0 (j+1) aa (by simp;omega)
  have rY:a=b:=by
   rcases List.mem_cons.1 ((h a).1 (List.mem_cons_self ..))with e|e
   ·exact e
   ·rcases List.mem_cons.1 ((h b).2 (List.mem_cons_self ..))with f|f
    ·exact f.symm
    ·have:=gl b f;have:=gm a e;omega
  subst rY
  rw[GV (l:=l) (m:=m) (fun i j ID hj=>h1 (i+1) (j+1) aa (by simp;omega)) (fun i j ID hj=>h2 (i+1) (j+1) aa (by simp;omega)) fun k=>by
   constructor
   ·intro hk
    rcases List.mem_cons.1 ((h k).1 (List.mem_cons_of_mem _ hk))with e|e
    ·have:=gl k hk;omega
    ·exact e
   ·intro hk
    rcases List.mem_cons.1 ((h k).2 (List.mem_cons_of_mem _ hk))with e|e
    ·have:=gm k hk;omega
    ·exact e]
theorem RE.unique {r c:Nat} {w w':Mx} {aH piv':List Nat} (h:RE r c w aH) (h':RE r c w' piv') (hk:∀x,mf r c w x↔mf r c w' x):aH=piv'∧∀i q,i<r→q<c→w i q=w' i q:=by
 have e:aH=piv':=by
  refine GV h.inc h'.inc fun k=> ?_
  have aE:k<c→(k∈aH↔k∈piv'):=fun hc=>by
   have a:=GU h hc;have b:=GU h' hc
   constructor
   ·intro hm;refine Classical.byContradiction fun g=> ?_
    obtain⟨x,h1,h2⟩:=b.1 g
    exact a.2 ⟨x,(hk x).2 h1,h2⟩ hm
   ·intro hm;refine Classical.byContradiction fun g=> ?_
    obtain⟨x,h1,h2⟩:=a.1 g
    exact b.2 ⟨x,(hk x).1 h1,h2⟩ hm
  constructor
  ·intro hm
   obtain⟨j,hj,e⟩:=cL.1 hm
   exact(aE (by rw[←e];exact h.lt j hj)).1 hm
  ·intro hm
   obtain⟨j,hj,e⟩:=cL.1 hm
   exact(aE (by rw[←e];exact h'.lt j hj)).2 hm
 subst e
 refine⟨rfl,fun i q hi hq=> ?_⟩
 by_cases g:q∈aH
 ·obtain⟨j,hj,rfl⟩:=cL.1 g
  rw[h.unit j hj i hi,h'.unit j hj i hi]
 ·by_cases hp:i<aH.length
  ·have h1:=(hk _).1 (Fs h hq) i hi
   rw[Ly h w' hq,ai aH.length (g:=fun j=>delta i j*w j q) fun j hj=>by rw[h'.unit j hj i hi,delta],c7,if_pos hp]at h1
   grind
  ·rw[h.low i aa hi q hq,h'.low i aa hi q hq]
theorem RE.full {r c:Nat} {w:Mx} {aH:List Nat} (h:RE r c w aH) (hc:aH.length=c):∀j,j<c→aH.getD j 0=j:=by
 have h1:∀j,j<c→j≤aH.getD j 0:=by
  intro j
  induction j with
  |zero=>intro _;exact Nat.zero_le _
  |succ j ih=>intro hj;have:=ih aa;have:=h.inc j (j+1) aa aa;omega
 have h2:∀d j,j+d+1=c→aH.getD j 0≤j:=by
  intro d
  induction d with
  |zero=>intro j hj;have:=h.lt j aa;omega
  |succ d ih=>intro j hj;have:=ih (j+1) aa;have:=h.inc j (j+1) aa aa;omega
 intro j hj
 have:=h1 j hj;have:=h2 (c - j - 1) j aa;omega
theorem RE.le {r c:Nat} {w:Mx} {aH:List Nat} (h:RE r c w aH):aH.length≤c:=by
 have h1:∀j,j<aH.length→j≤aH.getD j 0:=by
  intro j
  induction j with
  |zero=>intro _;exact Nat.zero_le _
  |succ j ih=>intro hj;have:=ih aa;have:=h.inc j (j+1) aa hj;omega
 rcases Nat.eq_zero_or_pos aH.length with e|e
 ·omega
 ·have:=h1 (aH.length - 1) aa;have:=h.lt (aH.length - 1) aa;omega
theorem yh {n:Nat} {A B:Mx} (h:∀i,i<n→∀k,A i k=B i k):bL n A=bL n B:=aW fun i k hi _=>h i hi k
theorem GW (n:Nat) (W:Mx):(if (iz n n ⟨W,[],1⟩).aH.length<n then 0 else(iz n n ⟨W,[],1⟩).d)=bL n W:=by
 have h:=Inv.red (r:=n) (W:=W) n
 generalize iz n n ⟨W,[],1⟩=s at*
 obtain⟨P,h1,h2⟩:=h.uf
 have h3:bL n s.w=bL n P*bL n W:=by rw[yh h2,sD]
 by_cases g:s.aH.length<n
 ·rw[if_pos g]
  have h4:bL n s.w=0:=by
   rw[(ed n).congr s.w (setRow s.w s.aH.length fun _=>0) fun i q hi hq=>by
    by_cases e:i=s.aH.length
    ·rw[e,aX];exact h.low _ (Nat.le_refl _) g q hq
    ·rw[aY _ _ e],(ed n).zero _ g]
  rw[h4]at h3
  rcases Rat.mul_eq_zero.1 h3.symm with e|e
  ·exact absurd e (BV h1)
  ·exact e.symm
 ·rw[if_neg g]
  have hl:=h.len
  have hf:=h.re.full aa
  have h4:bL n s.w=1:=by
   rw[aW (B:=delta) fun i q hi hq=>by
    have:=h.unit q aa i hi
    rw[hf q hq]at this;rw[this,delta],ja]
  rw[h4]at h3
  grind
theorem yi {n k:Nat} (hk:k<n) {M X Y:Mx} (h:∀i q,i<n→q<n→M i q=pr k X Y i q):bL n M=0:=by
 have e:bL n M=bL n (pr n (fun i j=>if j<k then X i j else 0) Y):=aW fun i q hi hq=>by
  rw[h i q hi hq,pr,pr]
  have h1:∀m,k≤m→aD m (fun p=>(if p<k then X i p else 0)*Y p q)=aD k fun p=>X i p*Y p q:=by
   intro m
   induction m with
   |zero=>intro h0;obtain rfl:k=0:=aa
          rfl
   |succ m ih=>
    intro hm
    by_cases g:k=m+1
    ·subst g;exact ai _ fun p hp=>by rw[if_pos hp]
    ·rw[aD,ih aa,if_neg aa];grind
  exact(h1 n aa).symm
 rw[e,sD,←ld,(ed n).congr (tr fun i j=>if j<k then X i j else 0) (setRow (tr fun i j=>if j<k then X i j else 0) (n - 1) fun _=>0) fun i q hi _=>by
  by_cases g:i=n - 1
  ·rw[g,aX];show(if n - 1<k then X q (n - 1)else 0)=0;rw[if_neg aa]
  ·rw[aY _ _ g],(ed n).zero _ aa]
 grind
def qO (r c:Nat) (W:Mx):Nat:=(iz r c ⟨W,[],1⟩).aH.length
theorem yj (r c:Nat) (W:Mx):qO r c W≤r:=(Inv.red (r:=r) (W:=W) c).len
theorem ng (r c:Nat) (W:Mx):qO r c W≤c:=(Inv.red (r:=r) (W:=W) c).re.le
theorem Ft {r c k:Nat} {W X Y:Mx} (h:∀i q,i<r→q<c→W i q=pr k X Y i q):qO r c W≤k:=by
 have hi:=Inv.red (r:=r) (W:=W) c
 unfold qO
 generalize iz r c ⟨W,[],1⟩=s at*
 obtain⟨P,h1,h2⟩:=hi.uf
 refine Nat.le_of_not_lt fun g=> ?_
 have hl:=hi.len
 have e:=yi (M:=delta) (X:=fun i j=>aD r fun p=>P i p*X p j) (Y:=fun j q=>Y j (s.aH.getD q 0)) g fun i q jx hq=>by
  have h3:=hi.unit q hq i aa
  rw[h2 i aa,pr]at h3
  rw[delta,←h3,pr,ai r (g:=fun p=>aD k fun j=>P i p*(X p j*Y j (s.aH.getD q 0))) fun p hp=>by rw[h p _ hp (hi.lt q hq),pr,bs],di]
  exact ai k fun j _=>by rw[dL];exact ai r fun p _=>by grind
 rw[ja]at e
 exact absurd e aI
theorem wo (r c:Nat) (W:Mx):∃X Y,∀i q,i<r→q<c→W i q=pr (qO r c W) X Y i q:=by
 have hi:=Inv.red (r:=r) (W:=W) c
 unfold qO
 generalize iz r c ⟨W,[],1⟩=s at*
 obtain⟨P,h1,h2⟩:=hi.uf
 have hl:=hi.len
 refine⟨fun i j=>vq r P i j*s.d,s.w,fun i q jx hq=> ?_⟩
 have e:aD r (fun j=>vq r P i j*s.d*s.w j q)=W i q:=by
  rw[ai r (g:=fun j=>aD r fun p=>s.d*(vq r P i j*P j p)*W p q) fun j hj=>by rw[h2 j hj,pr,bs];exact ai r fun p _=>by grind,di]
  rw[ai r (g:=fun p=>delta i p*W p q) fun p hp=>by
   rw[←dL,←bs]
   have:=sE P jx hp
   unfold pr at this
   rw[this,delta];split<;>grind,c7,if_pos jx]
 rw[←e,pr]
 have h3:∀m,s.aH.length≤m→m≤r→aD m (fun j=>vq r P i j*s.d*s.w j q)=aD s.aH.length fun p=>vq r P i p*s.d*s.w p q:=by
  intro m
  induction m with
  |zero=>intro h0 _;rw[show s.aH.length=0 by omega]
  |succ m ih=>
   intro hm hr
   by_cases g:s.aH.length=m+1
   ·rw[g]
   ·rw[aD,ih aa aa,hi.low m aa aa q hq];grind
 exact h3 r hl (Nat.le_refl _)
theorem LB (r c:Nat) (W:Mx):qO c r (tr W)=qO r c W:=by
 have h:∀r c W,qO c r (tr W)≤qO r c W:=fun r c W=>by
  obtain⟨X,Y,h⟩:=wo r c W
  exact Ft (X:=tr Y) (Y:=tr X) fun i q hi hq=>by
   show W q i=_
   rw[h q i hq hi];exact ai _ fun p _=>Rat.mul_comm _ _
 exact Nat.le_antisymm (h r c W) (h c r (tr W))
theorem OZ (r n c:Nat) (A B:Mx):qO r c (pr n A B)≤qO r n A∧qO r c (pr n A B)≤qO n c B:=by
 constructor
 ·obtain⟨X,Y,h⟩:=wo r n A
  refine Ft (X:=X) (Y:=fun j q=>aD n fun p=>Y j p*B p q) fun i q hi hq=> ?_
  rw[pr,pr,ai n (g:=fun p=>aD (qO r n A) fun j=>X i j*(Y j p*B p q)) fun p hp=>by rw[h i p hi hp,pr,dL];exact ai _ fun j _=>by grind,di]
  exact ai _ fun j _=>(bs _ _).symm
 ·obtain⟨X,Y,h⟩:=wo n c B
  refine Ft (X:=fun i j=>aD n fun p=>A i p*X p j) (Y:=Y) fun i q hi hq=> ?_
  rw[pr,pr,ai n (g:=fun p=>aD (qO n c B) fun j=>A i p*X p j*Y j q) fun p hp=>by rw[h p q hp hq,pr,bs];exact ai _ fun j _=>by grind,di]
  exact ai _ fun j _=>(dL _ _).symm
theorem An (m:Nat) (f:Nat→Rat):∀n,aD (m+n) f=aD m f+aD n fun i=>f (m+i)
 |0=>by rw[aD];grind
 |n+1=>by rw[←Nat.add_assoc,aD,aD,An m f n];grind
theorem O0 (a n c:Nat) (A B:Mx):qO a n A+qO n c B≤n+qO a c (pr n A B):=by
 obtain⟨X,Y,hXY⟩:=wo a c (pr n A B)
 generalize qO a c (pr n A B)=u at*
 have hA:=Inv.red (r:=a) (W:=A) n
 have hB:=Inv.red (r:=n) (W:=B) c
 unfold qO
 generalize iz a n ⟨A,[],1⟩=s at*
 generalize iz n c ⟨B,[],1⟩=t at*
 obtain⟨P,p1,p2⟩:=hA.uf
 obtain⟨Q,q1,q2⟩:=hB.uf
 have la:=hA.len
 have lb:=hB.len
 refine Nat.le_of_not_lt fun g=> ?_
 let N:Mx:=fun i q=>if i<t.aH.length then(if q<t.aH.length then delta i q else Q i (s.aH.getD (q - t.aH.length) 0))else(if q<t.aH.length then 0 else delta (i - t.aH.length) (q - t.aH.length))
 let U:Mx:=fun i j=>if i<t.aH.length then(if j<n then Q i j else 0)else(if j<n then s.w (i - t.aH.length) j else - aD a fun p=>P (i - t.aH.length) p*X p (j - n))
 let V:Mx:=fun j q=>if j<n then(if q<t.aH.length then B j (t.aH.getD q 0)else delta j (s.aH.getD (q - t.aH.length) 0))else(if q<t.aH.length then Y (j - n) (t.aH.getD q 0)else 0)
 have hN:∀i q,i<t.aH.length+s.aH.length→q<t.aH.length+s.aH.length→N i q=pr (n+u) U V i q:=by
  intro i q hi hq
  rw[pr,An]
  simp only[N,U,V]
  by_cases h1:i<t.aH.length
  ·rw[if_pos h1,cv (n:=u) fun j _=>by rw[if_pos h1,if_neg aa];grind]
   by_cases h2:q<t.aH.length
   ·rw[if_pos h2,ai n (g:=fun j=>Q i j*B j (t.aH.getD q 0)) fun j hj=>by rw[if_pos h1,if_pos hj,if_pos hj,if_pos h2]]
    have:=q2 i aa (t.aH.getD q 0)
    rw[hB.unit q h2 i aa,pr]at this
    rw[←this,delta];grind
   ·rw[if_neg h2,ai n (g:=fun j=>Q i j*delta j (s.aH.getD (q - t.aH.length) 0)) fun j hj=>by rw[if_pos h1,if_pos hj,if_pos hj,if_neg h2],eF,if_pos (hA.lt _ aa)];grind
  ·rw[if_neg h1]
   have hw:∀j,s.w (i - t.aH.length) j=aD a fun p=>P (i - t.aH.length) p*A p j:=fun j=>p2 _ aa j
   by_cases h2:q<t.aH.length
   ·rw[if_pos h2,ai n (g:=fun j=>s.w (i - t.aH.length) j*B j (t.aH.getD q 0)) fun j hj=>by rw[if_neg h1,if_pos hj,if_pos hj,if_pos h2]]
    rw[ai u (g:=fun j=>(-1)*aD a fun p=>P (i - t.aH.length) p*(X p j*Y j (t.aH.getD q 0))) fun j hj=>by
     rw[if_neg h1,if_neg aa,if_neg aa,if_pos h2,show n+j - n=j by omega]
     rw[ai a (f:=fun p=>P (i - t.aH.length) p*(X p j*Y j (t.aH.getD q 0))) (g:=fun p=>P (i - t.aH.length) p*X p j*Y j (t.aH.getD q 0)) fun p _=>by grind,←dL];grind]
    rw[←bs,di,ai a (g:=fun p=>P (i - t.aH.length) p*pr n A B p (t.aH.getD q 0)) fun p hp=>by rw[←bs,hXY p _ hp (hB.lt q h2)];rfl]
    rw[ai n (g:=fun j=>aD a fun p=>P (i - t.aH.length) p*(A p j*B j (t.aH.getD q 0))) fun j _=>by rw[hw,dL];exact ai a fun p _=>by grind,di]
    rw[ai a (f:=fun p=>aD n fun j=>P (i - t.aH.length) p*(A p j*B j (t.aH.getD q 0))) (g:=fun p=>P (i - t.aH.length) p*pr n A B p (t.aH.getD q 0)) fun p _=>(bs _ _).symm]
    grind
   ·rw[if_neg h2,ai n (g:=fun j=>s.w (i - t.aH.length) j*delta j (s.aH.getD (q - t.aH.length) 0)) fun j hj=>by rw[if_neg h1,if_pos hj,if_pos hj,if_neg h2],eF,if_pos (hA.lt _ aa)]
    rw[cv (n:=u) fun j _=>by rw[if_neg (show ¬n+j<n by omega),if_neg h2];grind]
    rw[hA.unit _ aa _ aa,delta];grind
 have h0:=yi (show n+u<t.aH.length+s.aH.length by omega) hN
 have h1:bL (t.aH.length+s.aH.length) N=1:=by
  rw[HX s.aH.length (A:=N) fun i k hi hk=>by simp only[N];rw[if_neg aa,if_pos hk]]
  rw[aW (n:=t.aH.length) (A:=N) (B:=delta) fun i k hi hk=>by simp only[N];rw[if_pos hi,if_pos hk],ja]
  rw[aW (B:=delta) fun i k _ _=>by simp only[N];rw[if_neg aa,if_neg aa,show t.aH.length+i - t.aH.length=i by omega,show t.aH.length+k - t.aH.length=k by omega],ja];grind
 rw[h1]at h0
 exact absurd h0 aI
end Go.Proofs.YtfpagioknjjacaaGreatDoor
namespace Go.Sx
set_option linter.unusedSimpArgs false
set_option linter.unusedVariables false
theorem qP {P:Program} {T:List (TypeId×TI)} {Z:List Nat} (hT:ic P T) (hm:P.follows .mixedOrders=true) {f:FuncId} {fn':Func} {code:Code} (hf:P.funcs[f]? =some fn') (hb:fn'.body=some code)
  (hn:(fn'.name== "runtime.NumGoroutine")=false) {args:List SV} {fk:List (Nat×aF)} {c:SV} {new upd:List (Nat×aF)} (hs:fE args fk c new upd) (hnt:Nat.ble args.length fn'.ntmps=true) (hσ:bo fk new fun k=>k)
  (h:∀W0 w0 ρ0,Env.OK ⟨P,T,W0,w0,fn'.ntmps,ρ0,az fk,Z,none⟩→A6 ⟨P,T,W0,w0,fn'.ntmps,ρ0,az fk,Z,none⟩ code (IE T fn'.results.toList (Fin c new upd)) (enum 0 args) fk):
  ab P f args fk c new upd:=by
 have:=Y4 hT hm hf hb hn hs hnt (fun k=>k) hσ h
 rwa [jR,pM,BM,pM new,pM upd]at this
theorem bo.id {fk new:List (Nat×aF)} (h:oJ (az fk++az new)=true):bo fk new fun k=>k:=
 ⟨fun _ _ _ _ _ _ h _=>h,fun _ _ _ _ h=>h,fun m q hm hq e=>(List.nodup_append.1 (l9 h)).2.2 q hq m hm e.symm⟩
end Go.Sx
namespace Go.Proofs.YtfpagioknjjacaaGreatDoor
open Go.Sx
set_option linter.unusedSimpArgs false
set_option linter.unusedVariables false
set_option maxRecDepth 100000
set_option maxHeartbeats 40000000
theorem o0 {w:Mx} {k:Nat}:∀{m i j:Nat},i≤j→j<i+m→(∀a,i≤a→a<j→w a k=0)→w j k≠0→iH w k m i=some j
 |0,i,j,h1,h2,_,_=>aa
 |m+1,i,j,h1,h2,h3,h4=>by
  rw[iH]
  by_cases e:i=j
  ·rw[e,if_neg h4]
  ·rw[if_pos (h3 i (Nat.le_refl _) aa)]
   exact o0 aa aa (fun a ha hb=>h3 a aa hb) h4
theorem qQ {w:Mx} {k:Nat}:∀{m i:Nat},(∀a,i≤a→a<i+m→w a k=0)→iH w k m i=none
 |0,i,_=>rfl
 |m+1,i,h=>by
  rw[iH,if_pos (h i (Nat.le_refl _) aa)]
  exact qQ fun a ha hb=>h a aa aa
def gp (r:Nat) (s:St) (k:Nat):St:=
 match iH s.w k (r - s.aH.length) s.aH.length with
 |none=>s
 |some i=>⟨sH (aP s.w i s.aH.length) s.aH.length k r,s.aH++[k],(if i=s.aH.length then s.d else - s.d)*aP s.w i s.aH.length s.aH.length k⟩
def lg (r c:Nat) (s:St):St:=(List.range c).foldl (gp r) s
theorem nS (r c:Nat) (s:St):lg r (c+1) s=gp r (lg r c s) c:=by
 rw[lg,List.range_succ,List.foldl_append];rfl
theorem Fu {r i p:Nat} {w v:Mx} (h:∀a,a<r→w a=v a) (hi:i<r) (hp:p<r):∀a,a<r→aP w i p a=aP v i p a:=by
 intro a ha
 unfold aP
 by_cases e:a=i
 ·rw[if_pos e,if_pos e];exact h p hp
 ·rw[if_neg e,if_neg e]
  by_cases g:a=p
  ·rw[if_pos g,if_pos g];exact h i hi
  ·rw[if_neg g,if_neg g];exact h a ha
theorem yk {k r:Nat} {w v:Mx} (h:∀a,a<r→w a=v a):∀{m i:Nat},i+m≤r→iH w k m i=iH v k m i
 |0,_,_=>rfl
 |m+1,i,hm=>by
  rw[iH,iH,h i aa,yk h (i:=i+1) aa]
structure GX (r:Nat) (s t:St):Prop where
 aH:s.aH=t.aH
 d:s.d=t.d
 w:∀a,a<r→s.w a=t.w a
 le:s.aH.length≤r
theorem Fv {r k:Nat} {s t:St} (h:GX r s t):GX r (gp r s k) (jT r t k):=by
 obtain⟨sw,sp,sd⟩:=s
 obtain⟨tw,tp,td⟩:=t
 obtain⟨rfl,rfl,hw,hl⟩:=h
 simp only at hw hl
 unfold gp jT
 simp only
 rw[yk hw aa]
 cases hq:iH tw k (r - sp.length) sp.length with
 |none=>exact⟨rfl,rfl,hw,hl⟩
 |some i=>
  have hs:=pO hq
  have hi:i<r:=aa
  have hp:sp.length<r:=aa
  have Y2:=Fu hw hi hp
  refine⟨rfl, ?_,fun a ha=> ?_, ?_⟩
  ·show _*_=_*_
   rw[Y2 _ hp]
  ·show sH (aP sw i sp.length) sp.length k r a=dM (aP tw i sp.length) sp.length k a
   rw[OX _ ha]
   funext q
   unfold dM
   rw[Y2 a ha,Y2 _ hp]
  ·show(sp++[k]).length≤r
   rw[List.length_append];simp;omega
theorem gS (r:Nat) (w:Mx):∀c,GX r (lg r c ⟨w,[],1⟩) (iz r c ⟨w,[],1⟩)
 |0=>⟨rfl,rfl,fun _ _=>rfl,Nat.zero_le _⟩
 |c+1=>by rw[nS,pP];exact Fv (gS r w c)
structure QU (r c A:Nat) (s:St):Prop where
 w:∀a q,a<r→q<c→fs (s.w a q)≤4^s.aH.length*A
 d:fs s.d≤4^s.aH.length*A
theorem Dz {r c i p B:Nat} {w:Mx} (h:∀a q,a<r→q<c→fs (w a q)≤B) (hi:i<r) (hp:p<r):∀a q,a<r→q<c→fs (aP w i p a q)≤B:=by
 intro a q ha hq
 unfold aP
 by_cases e:a=i
 ·rw[if_pos e];exact h p q hp hq
 ·rw[if_neg e]
  by_cases g:a=p
  ·rw[if_pos g];exact h i q hi hq
  ·rw[if_neg g];exact h a q ha hq
theorem QU.step {r c A k i:Nat} {sw:Mx} {sp:List Nat} {sd:Rat} (h:QU r c A ⟨sw,sp,sd⟩) (hk:k<c) (hi:i<r) (hp:sp.length<r):QU r c A ⟨sH (aP sw i sp.length) sp.length k r,sp++[k],(if i=sp.length then sd else - sd)*aP sw i sp.length sp.length k⟩:=by
 obtain⟨h1,h2⟩:=h
 simp only at h1 h2
 have hs:=Dz h1 hi hp
 have hl:(sp++[k]).length=sp.length+1:=by simp
 have h4:4^(sp.length+1)*A=4*(4^sp.length*A):=by rw[Nat.pow_succ,Nat.mul_comm (4^_) 4,Nat.mul_assoc]
 generalize 4^sp.length*A=B at h1 h2 hs h4
 refine⟨fun a q ha hq=> ?_, ?_⟩
 ·simp only
  rw[hl,h4]
  have a1:=hs _ q hp hq
  have a2:=hs _ k hp hk
  have a3:=hs a q ha hq
  have a4:=hs a k ha hk
  unfold sH
  have b1:=qG (aP sw i sp.length sp.length q) (aP sw i sp.length sp.length k)
  by_cases e:a=sp.length
  ·rw[if_pos e];omega
  ·rw[if_neg e,if_pos ha]
   have b2:=eE (aP sw i sp.length a k) (aP sw i sp.length sp.length q/aP sw i sp.length sp.length k)
   have b3:=Kd (aP sw i sp.length a q) (aP sw i sp.length a k*(aP sw i sp.length sp.length q/aP sw i sp.length sp.length k))
   omega
 ·simp only
  rw[hl,h4]
  have a2:=hs _ k hp hk
  have b1:=eE (if i=sp.length then sd else - sd) (aP sw i sp.length sp.length k)
  have b2:fs (if i=sp.length then sd else - sd)=fs sd:=by split<;>simp[qF]
  omega
theorem H2 {r k i:Nat} {sw:Mx} {sp:List Nat} {sd:Rat} (h1:sp.length≤i) (h2:i<r) (h3:∀a,sp.length≤a→a<i→sw a k=0) (h4:sw i k≠0):
  gp r ⟨sw,sp,sd⟩ k=⟨sH (aP sw i sp.length) sp.length k r,sp++[k],(if i=sp.length then sd else - sd)*aP sw i sp.length sp.length k⟩:=by
 unfold gp
 simp only
 rw[o0 h1 aa h3 h4]
theorem H3 {r k:Nat} {sw:Mx} {sp:List Nat} {sd:Rat} (hl:sp.length≤r) (h:∀a,sp.length≤a→a<r→sw a k=0):gp r ⟨sw,sp,sd⟩ k=⟨sw,sp,sd⟩:=by
 unfold gp
 simp only
 rw[qQ fun a ha hb=>h a ha aa]
end Go.Proofs.YtfpagioknjjacaaGreatDoor
