/- The texts Ib. -/
import Derived.Test.YtjofnbpcanhfhabGreatDoorQLVecsKnown11
namespace Go.Proofs.YtjofnbpcanhfhabGreatDoor
open Go.Sx
set_option linter.unusedSimpArgs false
set_option linter.unusedVariables false
set_option maxRecDepth 100000
set_option maxHeartbeats 4000000
theorem callKN {P:Program} {T:List (TypeId×TI)} {Z:List Nat} (hT:TabOK P T) (hm:P.follows .mixedOrders=true) {f:FuncId} {fn':Func} {code:Code} (hf:P.funcs[f]? =some fn') (hb:fn'.body=some code)
  (hn:(fn'.name== "runtime.NumGoroutine")=false) {args:List SV} {fk:List (Nat×Blk)} {c:SV} {new upd:List (Nat×Blk)} (hs:ShapeOK args fk c new upd) (hnt:Nat.ble args.length fn'.ntmps=true)
  (σ:Nat→Nat) (hσ:NamesOK fk new σ) (hu:upd=[])
  (h:∀W0 w0 ρ0,(∀b,¬W0 b)→Env.OK ⟨P,T,W0,w0,fn'.ntmps,ρ0,keysOf fk,Z,none⟩→cwp ⟨P,T,W0,w0,fn'.ntmps,ρ0,keysOf fk,Z,none⟩ code (Ret T fn'.results.toList (Fin c new upd)) (enum 0 args) fk):
  CallOK P f (renL σ args) (renH σ fk) (renS σ c) (renH σ new) (renH σ upd):=by
 have hnt':=Nat.le_of_ble_eq_true hnt
 refine .inl ⟨⟨fn',hf,hn,by rw[hb];rfl⟩,fun ρ w z hz hpw=> ?_⟩
 have hnd:=nodupN_spec hs.nd
 have hndf:(keysOf fk).Nodup:=(List.nodup_append.1 hnd).1
 have hndn:(keysOf new).Nodup:=(List.nodup_append.1 hnd).2.1
 have hdisj:∀m∈keysOf new,m∉keysOf fk:=fun m hm hq=>(List.nodup_append.1 hnd).2.2 m hq m hm rfl
 let ρ1:Rho:=⟨fun q=>if q∈keysOf fk then ρ.key (σ q)else none,ρ.imm,ρ.glob⟩
 have hρ1:∀q∈keysOf fk,ρ.key (σ q)=ρ1.key q:=fun q hq=>by
  show _=if q∈keysOf fk then _ else _
  rw[if_pos hq]
 have hρ1':∀q x,ρ1.key q=some x→q∈keysOf fk:=fun q x hx=>by
  have hx:(if q∈keysOf fk then ρ.key (σ q)else none)=some x:=hx
  by_cases hq:q∈keysOf fk
  ·exact hq
  ·rw[if_neg hq]at hx;cases hx
 let W0:Nat→Prop:=fun b=>∃q blk t,(q,blk)∈upd∧ρ1.key q=some (b,t)
 let E:Env:=⟨P,T,W0,w,fn'.ntmps,ρ1,keysOf fk,Z,none⟩
 have hE:E.OK:=⟨hT,hm,hρ1'⟩
 have hargr:=subN_spec hs.argr
 have hz1:HasZ ρ1 args z:=(renL_iff (ρ:=ρ1) (ρ':=ρ) (σ:=σ) rfl args z (fun k hk=>hρ1 k (hargr k hk))).1 hz
 have hzl:z.length=args.length:=HasZ_length hz1
 have hget:∀(l:List SV) (y:List (List Value)),HasZ ρ1 l y→l.all passable=true→∀(j:Nat) (c:SV),l[j]? =some c→∃v,(List.zipWith mkV l y)[j]? =some v∧Has ρ1 c v:=by
  intro l
  induction l with
  |nil=>intro y _ _ j c h;simp at h
  |cons d l ih=>
   intro y hy hp j c hj
   simp only[HasZ]at hy
   obtain⟨x,r,rfl,g1,g2⟩:=hy
   simp only[List.all_cons,Bool.and_eq_true]at hp
   cases j with
   |zero=>
    simp at hj
    subst hj
    exact⟨mkV d x,by simp,(Has_iff hp.1).2 ⟨x,g1,rfl⟩⟩
   |succ j=>simpa using ih r g2 hp.2 j c (by simpa using hj)
 have hsize:((List.zipWith mkV args z).toArray++Array.replicate (fn'.ntmps - (List.zipWith mkV args z).toArray.size) undef).size=fn'.ntmps:=by
  simp[hzl]
  omega
 have hfkr:=subN_spec hs.fkr
 have hmemf:∀k b,find fk k=some b→(k,b)∈fk:=fun k b hb=>find_mem hb
 have hR:R E.W0 E.w0 E.n ρ1 (fn (enum 0 args) fk) {tmps:=(List.zipWith mkV args z).toArray++Array.replicate (fn'.ntmps - (List.zipWith mkV args z).toArray.size) undef,defers:=[]} w:={
  defers:=.nil
  size:=hsize
  fr:=fun t sv ht=>by
   simp only[fn,LV.sv]at ht
   obtain⟨_,h2⟩:=lk_enum args 0 t sv ht
   obtain⟨v,h3,h4⟩:=hget args z hz1 hs.pass t sv (by simpa using h2)
   have hlt:t<(List.zipWith mkV args z).length:=(List.getElem?_eq_some_iff.1 h3).1
   have:((List.zipWith mkV args z).toArray++Array.replicate (fn'.ntmps - (List.zipWith mkV args z).toArray.size) undef).getD t undef=v:=by
    rw[Array.getD_eq_getD_getElem?,Array.getElem?_append_left (by simpa using hlt)]
    simp[h3]
   rw[this];exact h4
  pres:=.refl _ _
  hp:={
   blk:=fun k b hb=>by
    have hm:=hmemf k b hb
    have:=hpw.hfk (σ k) (renB σ b) (renH_mem.2 ⟨k,b,hm,rfl,rfl⟩)
    exact(renB_iff (ρ:=ρ1) (ρ':=ρ) (σ:=σ) rfl k b (hρ1 k (keysOf_mem.2 ⟨b,hm⟩)) (fun j hj=>hρ1 j (hfkr j (refsB_mem hm j hj)))).1 this
   sep:=fun k k' x x' b b' hx hx' hne he hb hb' hl hl'=>by
    have hm:=hmemf k b hb
    have hm':=hmemf k' b' hb'
    have hkx:ρ.key (σ k)=some x:=by rw[hρ1 k (keysOf_mem.2 ⟨b,hm⟩)];exact hx
    have hkx':ρ.key (σ k')=some x':=by rw[hρ1 k' (keysOf_mem.2 ⟨b',hm'⟩)];exact hx'
    cases hw:b.wr with
    |false=>rfl
    |true=>
     have:=hpw.sep (σ k) (σ k') x x' (renB σ b) (renB σ b') (renH_mem.2 ⟨k,b,hm,rfl,rfl⟩) (renH_mem.2 ⟨k',b',hm',rfl,rfl⟩) hkx hkx' (hσ.inj k k' b b' hm hm' hne hw) he (by rw[renB,renD_live];exact hl) (by rw[renB,renD_live];exact hl')
     rw[renB]at this
     rw[hw]at this;exact this
   own:=fun k b x hb hw hl hx=>by
    have hm:=hmemf k b hb
    obtain⟨b',hu⟩:=hs.updAll k b hm hw hl
    exact .inr ⟨k,b',x.2,hu,hx⟩
   dom:=fun k x hx=>by
    obtain⟨b,hb⟩:=keysOf_mem.1 (hρ1' k x hx)
    exact⟨b,by simp only[fn,LV.blk];exact find_of_mem hndf hb⟩
   imm:=hpw.imm
   immw:=fun k b x hb hw hl hx=>by
    have hm:=hmemf k b hb
    have hkx:ρ.key (σ k)=some x:=by rw[hρ1 k (keysOf_mem.2 ⟨b,hm⟩)];exact hx
    exact hpw.immw (σ k) (renB σ b) x (renH_mem.2 ⟨k,b,hm,rfl,rfl⟩) hw (by rw[renB,renD_live];exact hl) hkx}}
 have hwp:=cwp_sound hE code _ _ _ (h E.W0 w ρ1 (fun b hb=>by obtain⟨q,blk,t,hm,_⟩:=(show ∃q blk t,(q,blk)∈upd∧ρ1.key q=some (b,t)from hb);rw[hu]at hm;cases hm) hE) _ w ⟨ρ1,⟨.refl _,(fun b o hb=>.inl hb),(fun _ _=>rfl)⟩,(fun k hk=>by
  obtain⟨b,hb⟩:=keysOf_mem.1 hk
  simp only[fn,LV.blk,find_of_mem hndf hb]
  simp),hR⟩
 rw[zip_ren]
 refine calls_of_run (E:=E) rfl hf hb (fun _ _ _ h=>h) (fun _ _ h=>h) hwp ?_
 rintro e a' w' hdf ⟨fr',hp',hK,ρ',hext,_,hR'⟩
 have fin:∀ob l,retAll T fr' hp' fn'.results.toList=some (ob,l)→obP ob→Fin c new upd (retSV l) hp'→a'.defers=[]∧∃v,(results fn' a'.tmps).run P w'= .ok v w'∧∃v' ρ'',Ending.returned v= .returned v'∧Post ρ w (renS σ c) (renH σ new) (renH σ upd) v' ρ'' w':=by
  rintro ob l h1 h2 ⟨h3,hnew,hupd⟩
  obtain⟨v,r1,r2⟩:=results_run hE hR' h1 h2
  let ρ2:Rho:=⟨fun k=>match (keysOf new).find? (fun m=>σ m==k)with
   |some m=>ρ'.key m
   |none=>ρ.key k,ρ'.imm,ρ'.glob⟩
  have k2new:∀m∈keysOf new,ρ2.key (σ m)=ρ'.key m:=by
   intro m hm
   show(match (keysOf new).find? (fun j=>σ j==σ m)with|some m=>ρ'.key m|none=>ρ.key (σ m))=ρ'.key m
   cases hfd:(keysOf new).find? (fun j=>σ j==σ m)with
   |none=>have:=List.find?_eq_none.1 hfd m hm;simp at this
   |some j=>
    have hj:=List.mem_of_find?_eq_some hfd
    have hjs:=List.find?_some hfd
    have:j=m:=Classical.byContradiction fun hne=>hσ.newInj j m hj hm hne (by simpa using hjs)
    rw[this]
  have k2old:∀k,(∀m∈keysOf new,σ m≠k)→ρ2.key k=ρ.key k:=by
   intro k hk
   show(match (keysOf new).find? (fun j=>σ j==k)with|some m=>ρ'.key m|none=>ρ.key k)=ρ.key k
   cases hfd:(keysOf new).find? (fun j=>σ j==k)with
   |none=>rfl
   |some j=>exact absurd (by simpa using List.find?_some hfd) (hk j (List.mem_of_find?_eq_some hfd))
  have k2:∀q∈keysOf fk++keysOf new,ρ2.key (σ q)=ρ'.key q:=by
   intro q hq
   rcases List.mem_append.1 hq with hq|hq
   ·rw[k2old (σ q) (fun m hm=>hσ.newOld m q hm hq),hρ1 q hq,hext.fix q hq]
   ·exact k2new q hq
  have hfresh:∀m∈keysOf new,ρ.key (σ m)=none:=by
   intro m hm
   obtain⟨b,hb⟩:=keysOf_mem.1 hm
   exact hpw.fresh (σ m) (renB σ b) (renH_mem.2 ⟨m,b,hb,rfl,rfl⟩)
  have hnewW:=allWr_spec hs.newW
  have hupdW:=allWr_spec hs.updW
  have hnr:=subN_spec hs.nr
  have hur:=subN_spec hs.ur
  have hcr:=subN_spec hs.cr
  have updlive:∀q b,(q,b)∈upd→q∈keysOf fk:=fun q b hq=>by
   obtain⟨b0,h1,_⟩:=hs.updK q b hq
   exact keysOf_mem.2 ⟨b0,h1⟩
  refine⟨hdf,v,r1,v,ρ2,rfl,⟨⟨fun k x hx=> ?_,fun b o hb=>hext.le.imm b o hb⟩, ?_,fun k hk=> ?_, ?_, ?_, ?_, ?_, ?_, ?_⟩⟩
  ·rw[k2old k]
   ·exact hx
   ·rintro m hm rfl
    rw[hfresh m hm]at hx;cases hx
  ·exact(ren_has (ρ:=ρ') (ρ':=ρ2) (σ:=σ) rfl c v (fun k hk=>k2 k (hcr k hk))).2 (h3 ρ' v r2)
  ·refine k2old k fun m hm he=> ?_
   obtain⟨b,hb⟩:=keysOf_mem.1 hm
   exact hk (renB σ b) (renH_mem.2 ⟨m,b,hb,he.symm,rfl⟩)
  ·refine hR'.pres.mono (fun b _ hb=> ?_)
   obtain⟨q,blk,t,hq,hx⟩:=hb
   refine⟨σ q,renB σ blk,t,renH_mem.2 ⟨q,blk,hq,rfl,rfl⟩, ?_⟩
   rw[hρ1 q (updlive q blk hq)];exact hx
  ·intro k b hk
   rcases hk with hk|hk
   ·obtain⟨q,b0,hq,rfl,rfl⟩:=renH_mem.1 hk
    exact(renB_iff (ρ:=ρ') (ρ':=ρ2) (σ:=σ) rfl q b0 (k2 q (List.mem_append.2 (.inl (updlive q b0 hq)))) (fun j hj=>k2 j (hur j (refsB_mem hq j hj)))).2 (hR'.hp.blk q b0 (by simp only[fn,LV.blk];exact hupd q b0 hq))
   ·obtain⟨q,b0,hq,rfl,rfl⟩:=renH_mem.1 hk
    exact(renB_iff (ρ:=ρ') (ρ':=ρ2) (σ:=σ) rfl q b0 (k2 q (List.mem_append.2 (.inr (keysOf_mem.2 ⟨b0,hq⟩)))) (fun j hj=>k2 j (hnr j (refsB_mem hq j hj)))).2 (hR'.hp.blk q b0 (by simp only[fn,LV.blk];exact hnew q b0 hq))
  ·intro k b b' hk _ hl _
   obtain⟨q,b0,hq,rfl,rfl⟩:=renH_mem.1 hk
   rw[renB,renD_live]at hl
   rw[(hupdW q b0 hq).2]at hl;cases hl
  ·intro k b x hk hx
   obtain⟨m,b0,hm,rfl,rfl⟩:=renH_mem.1 hk
   rw[k2new m (keysOf_mem.2 ⟨b0,hm⟩)]at hx
   have hfm:(fn fr' hp' (.k m)).blk=some b0:=by simp only[fn,LV.blk];exact hnew m b0 hm
   rcases hR'.hp.own m b0 x hfm (hnewW m b0 hm).1 (hnewW m b0 hm).2 hx with h4|⟨q,bu,t,hq,hxq⟩
   ·exact .inl h4
   ·exfalso
    have hqf:=updlive q bu hq
    have hne:m≠q:=fun he=>hdisj m (keysOf_mem.2 ⟨b0,hm⟩) (he▸hqf)
    have hxq':ρ'.key q=some (x.1,t):=by rw[hext.fix q hqf];exact hxq
    have:=hR'.hp.sep m q x (x.1,t) b0 bu hx hxq' hne rfl hfm (by simp only[fn,LV.blk];exact hupd q bu hq) (hnewW m b0 hm).2 (hupdW q bu hq).2
    rw[(hnewW m b0 hm).1]at this;cases this
  ·intro k b k' b' x x' hk hk' hne hx hx' he
   obtain⟨m,b0,hm,rfl,rfl⟩:=renH_mem.1 hk
   obtain⟨m',b0',hm',rfl,rfl⟩:=renH_mem.1 hk'
   rw[k2new m (keysOf_mem.2 ⟨b0,hm⟩)]at hx
   rw[k2new m' (keysOf_mem.2 ⟨b0',hm'⟩)]at hx'
   have:=hR'.hp.sep m m' x x' b0 b0' hx hx' (fun h=>hne (by rw[h])) he (by simp only[fn,LV.blk];exact hnew m b0 hm) (by simp only[fn,LV.blk];exact hnew m' b0' hm') (hnewW m b0 hm).2 (hnewW m' b0' hm').2
   rw[(hnewW m b0 hm).1]at this;cases this
  ·intro b o hb
   rcases hext.imm b o hb with h4|h4
   ·exact .inl h4
   ·refine .inr ⟨h4,hR'.hp.imm b o hb,fun k blk x hk hx he=> ?_⟩
    obtain⟨m,b0,hm,rfl,rfl⟩:=renH_mem.1 hk
    rw[k2new m (keysOf_mem.2 ⟨b0,hm⟩)]at hx
    have:=hR'.hp.immw m b0 x (by simp only[fn,LV.blk];exact hnew m b0 hm) (hnewW m b0 hm).1 (hnewW m b0 hm).2 hx
    rw[he]at this
    have hb':ρ'.imm b=some o:=hb
    rw[hb']at this;cases this
 cases e<;>simp only[Ret]at hK<;>simp only[bodyPost]
 ·split at hK
  ·rename_i ob l hl;exact fin ob l hl (req_spec hK).1 (req_spec hK).2
  ·exact hK.elim
 ·split at hK
  ·rename_i ob l hl;exact fin ob l hl (req_spec hK).1 (req_spec hK).2
  ·exact hK.elim
theorem one_all {x:List Rat} {P:List Rat→Prop} (h:P x):∀v∈[x],P v:=fun v hv=>by
 rcases List.mem_cons.1 hv with rfl|hv
 ·exact h
 ·cases hv
abbrev fblk (l:List Rat):Blk:=⟨44,true,.fracs l⟩
theorem v_eachM0 (F:Rat→Rat→Rat) (g:FuncId) (a b:List Rat) (hab:a.length=b.length) (hl:a.length≤2048)
  (hf:∀i,i<a.length→CallOK Tryz.prog g ([]++([.frac (a.getD i 0),.frac (b.getD i 0)]++[])) [] (.frac (F (a.getD i 0) (b.getD i 0))) [] []) (K:Nat):
  CallOK Tryz.prog 53 [fvec a,fvec b,.clo g [] []] [] (.tup [.slc K 5 0 a.length,.val (.int .i64 0)]) [(K,fblk (List.zipWith F a b))] []:=by
 have k1:=v_alike [a,b] (by simp) (by simp;omega)
 rw[alike_two,if_neg (by omega),if_pos hab]at k1
 refine callK (Z:=[13]) tabOK mixedOK Tryz.func53 rfl (by kernel_rfl) (args:=[fvec a,fvec b,.clo g [] []]) (fk:=[]) (c:=.tup [.slc 20 5 0 a.length,.val (.int .i64 0)]) (new:=[(20,fblk (List.zipWith F a b))]) (upd:=[]) (ShapeOK.of rfl rfl rfl rfl rfl rfl rfl rfl rfl rfl rfl) rfl (fun _=>K) NamesOK.one ?_
 intro W0 w0 ρ0 hE
 conv=>whnf
 (repeat((first|refine step_w2 rfl rfl ?_|refine And.intro (by first|decide|omega|(simp only[tl0,dlen,List.length_replicate,List.length_set,List.length_map,List.length_zipWith,List.length_take,List.length_append,List.length_cons,List.length_nil];omega)) ?_|refine g_c (by assumption) ?_|rw[bne_self_eq_false]|refine g_o (op_lenM rfl rfl rfl (ev_ok rfl) (tgt rfl) rfl) ?_|rw[Int.toNat_natCast]);conv=>whnf))
 have hz:=zip_len (f:=F) rfl hab.symm
 refine SW_loopN hE (fun k=>k) [0,1,2,6,7,9,22,23] [20] (fun m fr hp=>∃i,m=a.length - i∧i≤a.length∧fr=[(0,fvec a),(1,fvec b),(2,.clo g [] []),(6,.val (.slice none 0 0)),(7,.val (.int .i64 0)),(9,.slc 20 5 0 a.length),(22,.val (.int .i64 (a.length:Nat))),(23,.val (.int .i64 (i:Nat)))]∧
  hp=[(20,fblk ((List.zipWith F a b).take i++List.replicate (a.length - i) 0))]) a.length ?_ ?_ ?_
 ·kernel_rfl
 ·exact⟨0,rfl,Nat.zero_le _,rfl,rfl⟩
 rintro m _ _ ⟨i,rfl,hi,rfl,rfl⟩
 conv=>whnf
 have hlen:=fill_len (d:=(0:Rat)) hi hz
 by_cases hlt:i<a.length
 ·have t1:=dlt hlt
  have t2:=winc (i:=i) (by omega)
  have k2:=hf i hlt
  rw[←zip_get (f:=F) (d3:=0) hlt (by omega)]at k2
  (repeat((first|refine step_w1 rfl rfl ?_|refine step_i (by kernel_rfl) ?_|refine And.intro (by first|decide|omega|(simp only[tl0,dlen,List.length_replicate,List.length_set,List.length_map,List.length_zipWith,List.length_take,List.length_append,List.length_cons,List.length_nil];omega)) ?_|refine g_c (by assumption) ?_|refine g_o (op_indexN (α:=Rat) (d:=0) rfl (ev_ok rfl) (ev_ok rfl) (tgt rfl) rfl (tgt rfl) rfl (by omega)) ?_|refine g_o (op_loadA rfl (ev_ok rfl) (tgt rfl) rfl (Nat.succ_ne_zero _) rfl) ?_|rw[t1]|rw[t2]|rw[Int.toNat_natCast]|rw[Nat.zero_add]);conv=>whnf))
  refine⟨a.length - (i+1),fun k=>k,[0,1,2,6,7,9,22,23],[20],by omega,by kernel_rfl,i+1,rfl,hlt,rfl, ?_⟩
  rw[←fill_set (e:=0) hlt hz]
  rfl
 ·have t1:=dge hlt
  have hI:i=a.length:=by omega
  subst hI
  rw[fill_all hz]
  (repeat(first|(refine step_w2 rfl rfl ?_;conv=>whnf)|(rw[t1];conv=>whnf)))
  exact⟨Recast.refl _,(fun k b hm=>by simp only[List.mem_singleton,Prod.mk.injEq]at hm;obtain⟨rfl,rfl⟩:=hm;rfl),(fun _ _ h=>by cases h)⟩
theorem v_eachM1 (F:Rat→Rat→Rat) (g:FuncId) (p:Pred) (a b:List Rat) (hab:a.length=b.length) (hl:a.length≤2048)
  (hf:∀i,i<a.length→CallOK Tryz.prog g ([]++([.frac (a.getD i 0),.frac (b.getD i 0)]++[.atom p])) [] (.frac (F (a.getD i 0) (b.getD i 0))) [] []) (K:Nat):
  CallOK Tryz.prog 53 [fvec a,fvec b,.clo g [] [.atom p]] [] (.tup [.slc K 5 0 a.length,.val (.int .i64 0)]) [(K,fblk (List.zipWith F a b))] []:=by
 have k1:=v_alike [a,b] (by simp) (by simp;omega)
 rw[alike_two,if_neg (by omega),if_pos hab]at k1
 refine callK (Z:=[13]) tabOK mixedOK Tryz.func53 rfl (by kernel_rfl) (args:=[fvec a,fvec b,.clo g [] [.atom p]]) (fk:=[]) (c:=.tup [.slc 20 5 0 a.length,.val (.int .i64 0)]) (new:=[(20,fblk (List.zipWith F a b))]) (upd:=[]) (ShapeOK.of rfl rfl rfl rfl rfl rfl rfl rfl rfl rfl rfl) rfl (fun _=>K) NamesOK.one ?_
 intro W0 w0 ρ0 hE
 conv=>whnf
 (repeat((first|refine step_w2 rfl rfl ?_|refine And.intro (by first|decide|omega|(simp only[tl0,dlen,List.length_replicate,List.length_set,List.length_map,List.length_zipWith,List.length_take,List.length_append,List.length_cons,List.length_nil];omega)) ?_|refine g_c (by assumption) ?_|rw[bne_self_eq_false]|refine g_o (op_lenM rfl rfl rfl (ev_ok rfl) (tgt rfl) rfl) ?_|rw[Int.toNat_natCast]);conv=>whnf))
 have hz:=zip_len (f:=F) rfl hab.symm
 refine SW_loopN hE (fun k=>k) [0,1,2,6,7,9,22,23] [20] (fun m fr hp=>∃i,m=a.length - i∧i≤a.length∧fr=[(0,fvec a),(1,fvec b),(2,.clo g [] [.atom p]),(6,.val (.slice none 0 0)),(7,.val (.int .i64 0)),(9,.slc 20 5 0 a.length),(22,.val (.int .i64 (a.length:Nat))),(23,.val (.int .i64 (i:Nat)))]∧
  hp=[(20,fblk ((List.zipWith F a b).take i++List.replicate (a.length - i) 0))]) a.length ?_ ?_ ?_
 ·kernel_rfl
 ·exact⟨0,rfl,Nat.zero_le _,rfl,rfl⟩
 rintro m _ _ ⟨i,rfl,hi,rfl,rfl⟩
 conv=>whnf
 have hlen:=fill_len (d:=(0:Rat)) hi hz
 by_cases hlt:i<a.length
 ·have t1:=dlt hlt
  have t2:=winc (i:=i) (by omega)
  have k2:=hf i hlt
  rw[←zip_get (f:=F) (d3:=0) hlt (by omega)]at k2
  (repeat((first|refine step_w1 rfl rfl ?_|refine step_i (by kernel_rfl) ?_|refine And.intro (by first|decide|omega|(simp only[tl0,dlen,List.length_replicate,List.length_set,List.length_map,List.length_zipWith,List.length_take,List.length_append,List.length_cons,List.length_nil];omega)) ?_|refine g_c (by assumption) ?_|refine g_o (op_indexN (α:=Rat) (d:=0) rfl (ev_ok rfl) (ev_ok rfl) (tgt rfl) rfl (tgt rfl) rfl (by omega)) ?_|refine g_o (op_loadA rfl (ev_ok rfl) (tgt rfl) rfl (Nat.succ_ne_zero _) rfl) ?_|rw[t1]|rw[t2]|rw[Int.toNat_natCast]|rw[Nat.zero_add]);conv=>whnf))
  refine⟨a.length - (i+1),fun k=>k,[0,1,2,6,7,9,22,23],[20],by omega,by kernel_rfl,i+1,rfl,hlt,rfl, ?_⟩
  rw[←fill_set (e:=0) hlt hz]
  rfl
 ·have t1:=dge hlt
  have hI:i=a.length:=by omega
  subst hI
  rw[fill_all hz]
  (repeat(first|(refine step_w2 rfl rfl ?_;conv=>whnf)|(rw[t1];conv=>whnf)))
  exact⟨Recast.refl _,(fun k b hm=>by simp only[List.mem_singleton,Prod.mk.injEq]at hm;obtain⟨rfl,rfl⟩:=hm;rfl),(fun _ _ h=>by cases h)⟩
theorem v_AddM (a b:List Rat) (hab:a.length=b.length) (hl:a.length≤2048) (h:Fit a b) (K:Nat):CallOK Tryz.prog 24 [fvec a,fvec b] [] (.tup [.slc K 5 0 a.length,.val (.int .i64 0)]) [(K,fblk (vadd a b))] []:=by
 have k1:=v_eachM0 (·+·) 41 a b hab hl (fun i hi=>f_Add _ _ (h i hi)) 1001
 refine callK (Z:=[]) tabOK mixedOK Tryz.func24 rfl (by kernel_rfl) (args:=[fvec a,fvec b]) (fk:=[]) (c:=.tup [.slc 1001 5 0 a.length,.val (.int .i64 0)]) (new:=[(1001,fblk (vadd a b))]) (upd:=[]) (ShapeOK.of rfl rfl rfl rfl rfl rfl rfl rfl rfl rfl rfl) rfl (fun _=>K) NamesOK.one ?_
 intro W0 w0 ρ0 hE
 conv=>whnf
 (repeat(first|(refine g_cn (by assumption) rfl ?_;conv=>whnf)))
 exact⟨Recast.refl _,(fun k b hm=>by simp only[List.mem_singleton,Prod.mk.injEq]at hm;obtain⟨rfl,rfl⟩:=hm;rfl),(fun _ _ h=>by cases h)⟩
theorem v_AxpyM (c:Rat) (a b:List Rat) (hab:a.length=b.length) (hl:a.length≤2048) (h:∀i,i<a.length→fs c+fs (a.getD i 0)+fs (b.getD i 0)≤1073741824) (K:Nat):CallOK Tryz.prog 26 [.frac c,fvec a,fvec b] [] (.tup [.slc K 5 0 a.length,.val (.int .i64 0)]) [(K,fblk (vaxpy c a b))] []:=by
 have k1:=v_eachM1 (fun x y=>c*x+y) 60 (ptrP [.frac c]) a b hab hl (fun i hi=>v_Axpy1 _ _ _ (h i hi)) 1001
 refine callK (Z:=[3]) tabOK mixedOK Tryz.func26 rfl (by kernel_rfl) (args:=[.frac c,fvec a,fvec b]) (fk:=[]) (c:=.tup [.slc 1001 5 0 a.length,.val (.int .i64 0)]) (new:=[(1001,fblk (vaxpy c a b))]) (upd:=[]) (ShapeOK.of rfl rfl rfl rfl rfl rfl rfl rfl rfl rfl rfl) rfl (fun _=>K) NamesOK.one ?_
 intro W0 w0 ρ0 hE
 conv=>whnf
 (repeat(first|(refine g_cn (by assumption) rfl ?_;conv=>whnf)|(refine g_o (op_makeFunc rfl rfl rfl) ?_;conv=>whnf)))
 exact⟨Recast.refl _,(fun k b hm=>by simp only[List.mem_singleton,Prod.mk.injEq]at hm;obtain⟨rfl,rfl⟩:=hm;rfl),(fun _ _ h=>by cases h)⟩
theorem v_SumM (x:List Rat) (hl:x.length≤2048) (h:Sm 130 x) (K:Nat):CallOK Tryz.prog 49 [mvec 1 fvec [x]] [] (.tup [.slc K 5 0 x.length,.val (.int .i64 0)]) [(K,fblk x)] []:=by
 have ka:=v_alike [x] (show 1<1099511627776 by decide) (one_all (P:=fun v=>v.length<1099511627776) (by omega))
 rw[alike_zero (n:=x.length) (one_all (P:=fun v=>v.length=x.length) rfl) hl]at ka
 have hz0:(List.replicate x.length (0:Rat)).length=x.length:=List.length_replicate
 have k1:=v_AddM (List.replicate x.length 0) x hz0 (by omega) (fun i hi=>by rw[hz0]at hi;rw[get_zero hi,fs_zero];have:=h i hi;omega) 1002
 have e0:vadd (List.replicate x.length 0) x=x:=vec_ext (zip_len hz0 rfl) rfl fun i hi=>by rw[get_add hz0 rfl hi,get_zero hi];grind
 rw[e0,hz0]at k1
 refine callKN (Z:=[]) tabOK mixedOK Tryz.func49 rfl (by kernel_rfl) (args:=[mvec 1 fvec [x]]) (fk:=[]) (c:=.tup [.slc 1001 5 0 x.length,.val (.int .i64 0)]) (new:=[(1001,fblk x)]) (upd:=[]) (ShapeOK.of rfl rfl rfl rfl rfl rfl rfl rfl rfl rfl rfl) rfl (fun _=>K) NamesOK.one rfl ?_
 intro W0 w0 ρ0 hW0 hE
 conv=>whnf
 have e1:(([x]:List (List Rat)).getD 0 [])=x:=rfl
 (repeat((first|refine step_w1 rfl rfl ?_|refine step_w2 rfl rfl ?_|refine And.intro (by first|decide|omega|(simp only[tl0,dlen,List.length_replicate,List.length_set,List.length_map,List.length_zipWith,List.length_take,List.length_append,List.length_cons,List.length_nil];omega)) ?_|refine g_c (by assumption) ?_|refine g_o (op_pickF rfl (ev_ok rfl) (ev_ok rfl)) ?_|rw[bne_self_eq_false]|refine g_o (op_lenM rfl rfl rfl (ev_ok rfl) (tgt rfl) rfl) ?_|refine g_o (op_loadA rfl (ev_ok rfl) (tgt rfl) rfl (Nat.succ_ne_zero _) rfl) ?_|refine g_o (op_indexA rfl (ev_ok rfl) (ev_ok rfl) (tgt rfl) rfl (tgt rfl) rfl (by omega) (by first|decide|(simp;done)|omega) rfl) ?_|rw[Int.toNat_natCast]);conv=>whnf))
 refine SWx_freezeF 2 21 hW0 rfl rfl (by simp) ?_
 refine SW_loopN hE (fun k=>k) [0,2,3,4,22,23,24] [] (fun m fr hp=>(m=1∧fr=[(0,mvec 1 fvec [x]),(2,fvec (List.replicate x.length 0)),(3,.val (.int .i64 0)),(4,.val (.int .i64 0)),(22,mvec 1 fvec [x]),(23,.val (.int .i64 1)),(24,.val (.int .i64 0))]∧hp=[])∨
  (m=0∧fr=[(0,mvec 1 fvec [x]),(2,.slc 1001 5 0 x.length),(3,.val (.int .i64 0)),(4,.val (.int .i64 0)),(22,mvec 1 fvec [x]),(23,.val (.int .i64 1)),(24,.val (.int .i64 1))]∧hp=[(1001,fblk x)])) 1 ?_ ?_ ?_
 ·kernel_rfl
 ·exact .inl ⟨rfl,rfl,rfl⟩
 rintro m _ _ (⟨rfl,rfl,rfl⟩|⟨rfl,rfl,rfl⟩)
 ·conv=>whnf
  (repeat((first|refine step_w1 rfl rfl ?_|refine g_cn (by assumption) rfl ?_|refine g_o (op_loadA rfl (ev_ok rfl) (tgt rfl) rfl (Nat.succ_ne_zero _) rfl) ?_|refine g_o (op_indexA rfl (ev_ok rfl) (ev_ok rfl) (tgt rfl) rfl (tgt rfl) rfl (by omega) (by first|decide|(simp;done)|omega) rfl) ?_);conv=>whnf))
  exact⟨0,renBy [(1002,1001)],[0,2,3,4,22,23,24],[1002],by omega,by kernel_rfl,.inr ⟨rfl,rfl,rfl⟩⟩
 ·conv=>whnf
  (repeat(first|(refine step_w2 rfl rfl ?_;conv=>whnf)))
  exact⟨Recast.refl _,(fun k b hm=>by simp only[List.mem_singleton,Prod.mk.injEq]at hm;obtain⟨rfl,rfl⟩:=hm;rfl),(fun _ _ h=>by cases h)⟩
theorem v_MixM (c:Rat) (x:List Rat) (hl:x.length≤2048) (hc:fs c≤130) (h:Sm 130 x) (K:Nat):CallOK Tryz.prog 14 [fvec [c],mvec 1 fvec [x]] [] (.tup [.slc K 5 0 x.length,.val (.int .i64 0)]) [(K,fblk (vaxpy c x (List.replicate x.length 0)))] []:=by
 have ka:=v_alike [x] (show 1<1099511627776 by decide) (one_all (P:=fun v=>v.length<1099511627776) (by omega))
 rw[alike_zero (n:=x.length) (one_all (P:=fun v=>v.length=x.length) rfl) hl]at ka
 have hz0:(List.replicate x.length (0:Rat)).length=x.length:=List.length_replicate
 have k1:=v_AxpyM c x (List.replicate x.length 0) hz0.symm hl (fun i hi=>by rw[get_zero hi,fs_zero];have:=h i hi;omega) 1002
 refine callKN (Z:=[]) tabOK mixedOK Tryz.func14 rfl (by kernel_rfl) (args:=[fvec [c],mvec 1 fvec [x]]) (fk:=[]) (c:=.tup [.slc 1001 5 0 x.length,.val (.int .i64 0)]) (new:=[(1001,fblk (vaxpy c x (List.replicate x.length 0)))]) (upd:=[]) (ShapeOK.of rfl rfl rfl rfl rfl rfl rfl rfl rfl rfl rfl) rfl (fun _=>K) NamesOK.one rfl ?_
 intro W0 w0 ρ0 hW0 hE
 conv=>whnf
 have e1:(([x]:List (List Rat)).getD 0 [])=x:=rfl
 have e2:(([c]:List Rat).getD 0 0)=c:=rfl
 (repeat((first|refine step_w1 rfl rfl ?_|refine step_w2 rfl rfl ?_|refine And.intro (by first|decide|omega|(simp only[tl0,dlen,List.length_replicate,List.length_set,List.length_map,List.length_zipWith,List.length_take,List.length_append,List.length_cons,List.length_nil];omega)) ?_|refine g_c (by assumption) ?_|refine g_o (op_pickF rfl (ev_ok rfl) (ev_ok rfl)) ?_|rw[bne_self_eq_false]|refine g_o (op_lenM rfl rfl rfl (ev_ok rfl) (tgt rfl) rfl) ?_|refine g_o (op_loadA rfl (ev_ok rfl) (tgt rfl) rfl (Nat.succ_ne_zero _) rfl) ?_|refine g_o (op_indexA rfl (ev_ok rfl) (ev_ok rfl) (tgt rfl) rfl (tgt rfl) rfl (by omega) (by first|decide|(simp;done)|omega) rfl) ?_|rw[Int.toNat_natCast]);conv=>whnf))
 refine SWx_freezeF 7 34 hW0 rfl rfl (by simp) ?_
 refine SW_loopN hE (fun k=>k) [0,1,4,5,7,36,37] [] (fun m fr hp=>(m=1∧fr=[(0,fvec [c]),(1,mvec 1 fvec [x]),(4,.val (.slice none 0 0)),(5,.val (.int .i64 0)),(7,fvec (List.replicate x.length 0)),(36,.val (.int .i64 1)),(37,.val (.int .i64 0))]∧hp=[])∨
  (m=0∧fr=[(0,fvec [c]),(1,mvec 1 fvec [x]),(4,.val (.slice none 0 0)),(5,.val (.int .i64 0)),(7,.slc 1001 5 0 x.length),(36,.val (.int .i64 1)),(37,.val (.int .i64 1))]∧hp=[(1001,fblk (vaxpy c x (List.replicate x.length 0)))])) 1 ?_ ?_ ?_
 ·kernel_rfl
 ·exact .inl ⟨rfl,rfl,rfl⟩
 rintro m _ _ (⟨rfl,rfl,rfl⟩|⟨rfl,rfl,rfl⟩)
 ·conv=>whnf
  (repeat((first|refine step_w1 rfl rfl ?_|refine step_i (by kernel_rfl) ?_|refine g_cn (by assumption) rfl ?_|refine g_o (op_loadA rfl (ev_ok rfl) (tgt rfl) rfl (Nat.succ_ne_zero _) rfl) ?_|refine g_o (op_indexA rfl (ev_ok rfl) (ev_ok rfl) (tgt rfl) rfl (tgt rfl) rfl (by omega) (by first|decide|(simp;done)|omega) rfl) ?_);conv=>whnf))
  exact⟨0,renBy [(1002,1001)],[0,1,4,5,7,36,37],[1002],by omega,by kernel_rfl,.inr ⟨rfl,rfl,rfl⟩⟩
 ·conv=>whnf
  (repeat(first|(refine step_w2 rfl rfl ?_;conv=>whnf)))
  exact⟨Recast.refl _,(fun k b hm=>by simp only[List.mem_singleton,Prod.mk.injEq]at hm;obtain⟨rfl,rfl⟩:=hm;rfl),(fun _ _ h=>by cases h)⟩
theorem v_PartM (a:List Rat) (p:List Int) (ha:a.length≤2048) (hp:p.length≤2048) (h:∀i,i<p.length→0≤p.getD i 0∧p.getD i 0<a.length) (K:Nat):CallOK Tryz.prog 15 [fvec a,ivec .i64 p] [] (.tup [.slc K 5 0 p.length,.val (.int .i64 0)]) [(K,fblk (vpart a p))] []:=by
 have t0:decide ((if (p.length:Int)>(a.length:Int)then(p.length:Int)else(a.length:Int))>2048)=false:=decide_eq_false (by split<;>omega)
 refine callK (Z:=[]) tabOK mixedOK Tryz.func15 rfl (by kernel_rfl) (args:=[fvec a,ivec .i64 p]) (fk:=[]) (c:=.tup [.slc 17 5 0 p.length,.val (.int .i64 0)]) (new:=[(17,fblk (vpart a p))]) (upd:=[]) (ShapeOK.of rfl rfl rfl rfl rfl rfl rfl rfl rfl rfl rfl) rfl (fun _=>K) NamesOK.one ?_
 intro W0 w0 ρ0 hE
 conv=>whnf
 (repeat((first|refine step_w2 rfl rfl ?_|refine And.intro (by first|decide|omega|(simp only[tl0,dlen,List.length_replicate,List.length_set,List.length_map,List.length_zipWith,List.length_take,List.length_append,List.length_cons,List.length_nil];omega)) ?_|refine g_o (op_lenM rfl rfl rfl (ev_ok rfl) (tgt rfl) rfl) ?_|rw[t0]|rw[Int.toNat_natCast]);conv=>whnf))
 have hz:(vpart a p).length=p.length:=by simp[vpart]
 refine SW_loopN hE (fun k=>k) [0,1,4,5,6,18,19,20] [17] (fun m fr hp=>∃i,m=p.length - i∧i≤p.length∧fr=[(0,fvec a),(1,ivec .i64 p),(4,.val (.slice none 0 0)),(5,.val (.int .i64 0)),(6,.slc 17 5 0 p.length),(18,ivec .i64 p),(19,.val (.int .i64 (p.length:Nat))),(20,.val (.int .i64 (i:Nat)))]∧
  hp=[(17,fblk ((vpart a p).take i++List.replicate (p.length - i) 0))]) p.length ?_ ?_ ?_
 ·kernel_rfl
 ·exact⟨0,rfl,Nat.zero_le _,rfl,rfl⟩
 rintro m _ _ ⟨i,rfl,hi,rfl,rfl⟩
 conv=>whnf
 have hlen:=fill_len (d:=(0:Rat)) hi hz
 by_cases hlt:i<p.length
 ·have t1:=dlt hlt
  have t2:=winc (i:=i) (by omega)
  obtain⟨b1,b2⟩:=h i hlt
  have e1:a.getD (p.getD i 0).toNat 0=(vpart a p).getD i 0:=(map_get (f:=fun(i:Int)=>a.getD i.toNat 0) hlt).symm
  have t3:decide (p.getD i 0<0)=false:=decide_eq_false (by omega)
  have t4:decide (p.getD i 0≥(a.length:Int))=false:=decide_eq_false (by omega)
  (repeat((first|refine step_w1 rfl rfl ?_|refine step_w2 rfl rfl ?_|refine And.intro (by first|decide|omega|(simp only[tl0,dlen,List.length_replicate,List.length_set,List.length_map,List.length_zipWith,List.length_take,List.length_append,List.length_cons,List.length_nil];omega)) ?_|refine g_o (op_pickF rfl (ev_ok rfl) (ev_ok rfl)) ?_|refine g_o (op_lenM rfl rfl rfl (ev_ok rfl) (tgt rfl) rfl) ?_|refine g_o (op_loadA rfl (ev_ok rfl) (tgt rfl) rfl (Nat.succ_ne_zero _) rfl) ?_|refine g_o (op_indexN (α:=Int) (d:=0) rfl (ev_ok rfl) (ev_ok rfl) (tgt rfl) rfl (tgt rfl) rfl (by omega)) ?_|refine g_o (op_indexM (α:=Rat) (d:=0) rfl (ev_ok rfl) (ev_ok rfl) (tgt rfl) rfl (tgt rfl) rfl (by omega)) ?_|rw[t1]|rw[t3]|rw[t4]|rw[e1]|rw[t2]|rw[Int.toNat_natCast]|rw[Nat.zero_add]);conv=>whnf))
  refine⟨p.length - (i+1),fun k=>k,[0,1,4,5,6,18,19,20],[17],by omega,by kernel_rfl,i+1,rfl,hlt,rfl, ?_⟩
  rw[←fill_set (e:=0) hlt hz]
  rfl
 ·have t1:=dge hlt
  have hI:i=p.length:=by omega
  subst hI
  rw[fill_all hz]
  (repeat(first|(refine step_w2 rfl rfl ?_;conv=>whnf)|(rw[t1];conv=>whnf)))
  exact⟨Recast.refl _,(fun k b hm=>by simp only[List.mem_singleton,Prod.mk.injEq]at hm;obtain⟨rfl,rfl⟩:=hm;rfl),(fun _ _ h=>by cases h)⟩
theorem v_EqualM (a:List Rat) (ha:a.length<1099511627776) (K:Nat):CallOK Tryz.prog 76 [.slc K 5 0 a.length,fvec a] [(K,fblk a)] (.val (.bool true)) [] [(K,fblk a)]:=by
 refine callK (Z:=[]) tabOK mixedOK Tryz.func76 rfl (by kernel_rfl) (args:=[.slc 1001 5 0 a.length,fvec a]) (fk:=[(1001,fblk a)]) (c:=.val (.bool true)) (new:=[]) (upd:=[(1001,fblk a)]) (ShapeOK.of rfl rfl rfl rfl rfl rfl rfl rfl rfl rfl rfl) rfl (fun _=>K) NamesOK.upd ?_
 intro W0 w0 ρ0 hE
 conv=>whnf
 have t0:((a.length:Int) != (a.length:Int))=false:=bne_self_eq_false _
 (repeat(first|(refine step_w2 rfl rfl ?_;conv=>whnf)|(rw[bne_self_eq_false];conv=>whnf)|(refine g_o (op_lenM rfl rfl rfl (ev_ok rfl) (tgt rfl) rfl) ?_;conv=>whnf)))
 refine SW_loopN hE (fun k=>k) [0,1,4,11,12,13] [1001] (fun m fr hp=>∃i,m=a.length - i∧i≤a.length∧fr=[(0,.slc 1001 5 0 a.length),(1,fvec a),(4,.val (.bool false)),(11,.slc 1001 5 0 a.length),(12,.val (.int .i64 (a.length:Nat))),(13,.val (.int .i64 (i:Nat)))]∧hp=[(1001,fblk a)]) a.length ?_ ?_ ?_
 ·kernel_rfl
 ·exact⟨0,rfl,Nat.zero_le _,rfl,rfl⟩
 rintro m _ _ ⟨i,rfl,hi,rfl,rfl⟩
 conv=>whnf
 by_cases hlt:i<a.length
 ·have t1:=dlt hlt
  have t2:=winc (i:=i) (by omega)
  have t3:(!decide (a.getD i 0=a.getD i 0))=false:=by rw[decide_eq_true rfl];rfl
  (repeat((first|refine step_w1 rfl rfl ?_|refine step_w2 rfl rfl ?_|refine step_i (by kernel_rfl) ?_|refine And.intro (by first|decide|omega|(simp only[tl0,dlen,List.length_replicate,List.length_set,List.length_map,List.length_zipWith,List.length_take,List.length_append,List.length_cons,List.length_nil];omega)) ?_|refine g_o (op_indexN (α:=Rat) (d:=0) rfl (ev_ok rfl) (ev_ok rfl) (tgt rfl) rfl (tgt rfl) rfl (by omega)) ?_|refine g_o (op_loadA rfl (ev_ok rfl) (tgt rfl) rfl (Nat.succ_ne_zero _) rfl) ?_|refine⟨_,op_neAgg tabOK goodOK rfl (ev_ok rfl) (ev_ok rfl) rfl rfl rfl rfl (q_same _ _) q_guard, ?_⟩|rw[t1]|rw[t3]|rw[t2]|rw[Int.toNat_natCast]|rw[Nat.zero_add]);conv=>whnf))
  exact⟨a.length - (i+1),fun k=>k,[0,1,4,11,12,13],[1001],by omega,by kernel_rfl,i+1,rfl,hlt,rfl,rfl⟩
 ·have t1:=dge hlt
  (repeat(first|(refine step_w2 rfl rfl ?_;conv=>whnf)|(rw[t1];conv=>whnf)))
  exact⟨Recast.refl _,(fun _ _ h=>by cases h),fun k b hm=>by simp only[List.mem_singleton,Prod.mk.injEq]at hm;obtain⟨rfl,rfl⟩:=hm;rfl⟩
theorem v_SameM (a:List Rat) (ha:a.length<1099511627776) (K:Nat):CallOK Tryz.prog 36 [.slc K 5 0 a.length,fvec a] [(K,fblk a)] (.val (.bool true)) [] [(K,fblk a)]:=by
 have k1:=v_EqualM a ha 1001
 refine callK (Z:=[]) tabOK mixedOK Tryz.func36 rfl (by kernel_rfl) (args:=[.slc 1001 5 0 a.length,fvec a]) (fk:=[(1001,fblk a)]) (c:=.val (.bool true)) (new:=[]) (upd:=[(1001,fblk a)]) (ShapeOK.of rfl rfl rfl rfl rfl rfl rfl rfl rfl rfl rfl) rfl (fun _=>K) NamesOK.upd ?_
 intro W0 w0 ρ0 hE
 conv=>whnf
 (repeat(first|(refine g_c1u (by assumption) rfl rfl ?_;conv=>whnf)))
 exact⟨Recast.refl _,(fun _ _ h=>by cases h),fun k b hm=>by simp only[List.mem_singleton,Prod.mk.injEq]at hm;obtain⟨rfl,rfl⟩:=hm;rfl⟩
end Go.Proofs.YtjofnbpcanhfhabGreatDoor
