/- The texts Fv, Fx. -/
import Derived.Test.YthaeohlijigplaaGreatQLTopFound11
import Derived.Test.YthaeohlijigplaaGreatQLTopFound5
namespace Go.Proofs.YthaeohlijigplaaGreat
open Go.Sx
set_option linter.unusedSimpArgs false
set_option linter.unusedVariables false
set_option maxRecDepth 100000
set_option maxHeartbeats 8000000
section
variable {β:Type}
theorem updL_keys (l:List ((Int×Int)×β)) (p:Int×Int) (v:β):(updL l p v).map (·.1)=if (Sx.look l p).isSome then l.map (·.1)else l.map (·.1)++[p]:=by
 cases h:lookI l p 0 with
 |none=>simp[(lookI_none h).2 v,Sx.look,h]
 |some x=>
  have h3:=(lookI_idx h).2.2
  simp only[updL_set h v,Sx.look,h,Option.map_some,Option.isSome_some,if_true,List.map_set]
  apply List.ext_getElem?;intro j
  rw[List.getElem?_set]
  split
  ·rename_i hj
   subst hj
   split
   ·rw[List.getElem?_map,h3];rfl
   ·rename_i hl
    rw[List.length_map]at hl
    exact absurd (lookI_idx h).2.1 hl
  ·rfl
theorem look_none_mem:∀{l:List ((Int×Int)×β)} {p:Int×Int},Sx.look l p=none→p∉l.map (·.1)
 |[],_,_=>by simp
 |e::l,p,h=>by
  simp only[Sx.look,lookI]at h
  by_cases he:p=e.1
  ·rw[if_pos he]at h;cases h
  ·rw[if_neg he,lookI_shift,Option.map_map]at h
   have:Sx.look l p=none:=by
    simp only[Sx.look]
    cases hx:lookI l p 0 with
    |none=>rfl
    |some x=>rw[hx]at h;cases h
   simp only[List.map_cons,List.mem_cons,not_or]
   exact⟨he,look_none_mem this⟩
theorem updL_nodup {l:List ((Int×Int)×β)} (h:(l.map (·.1)).Nodup) (p:Int×Int) (v:β):((updL l p v).map (·.1)).Nodup:=by
 rw[updL_keys]
 split
 ·exact h
 ·rename_i hn
  have hn':Sx.look l p=none:=by cases hx:Sx.look l p with
   |none=>rfl
   |some x=>rw[hx]at hn;exact absurd rfl hn
  rw[List.nodup_append]
  exact⟨h,by simp,fun a ha b hb=>by rintro rfl;exact look_none_mem hn' (List.mem_singleton.1 hb▸ha)⟩
theorem mem_updL {l:List ((Int×Int)×β)} {p:Int×Int} {v:β} {x:(Int×Int)×β} (h:x∈updL l p v):x∈l∨x=(p,v):=by
 cases hx:lookI l p 0 with
 |none=>
  rw[(lookI_none hx).2]at h
  rcases List.mem_append.1 h with h|h
  ·exact .inl h
  ·exact .inr (List.mem_singleton.1 h)
 |some y=>
  rw[updL_set hx]at h
  rcases List.mem_or_eq_of_mem_set h with h|h
  ·exact .inl h
  ·exact .inr h
theorem look_mem {l:List ((Int×Int)×β)} {p:Int×Int} {v:β} (h:Sx.look l p=some v):(p,v)∈l:=by
 simp only[Sx.look,Option.map_eq_some_iff]at h
 obtain⟨x,hx,rfl⟩:=h
 have:=(lookI_idx hx).2.2
 exact List.mem_iff_getElem?.2 ⟨_,this⟩
end
structure KeysOK (l:MapE):Prop where
 nd:(l.map (·.1)).Nodup
 ends:∀x∈l,x.1=(x.2.1,x.2.2.1)
theorem keys_nil:KeysOK []:=⟨.nil,by simp⟩
theorem edgeU_ends (t a b:Int) (e:E4):((edgeU t a b e).1,(edgeU t a b e).2.1)=(e.1,e.2.1):=by
 unfold edgeU;split
 ·rfl
 ·split<;>rfl
theorem keys_put {l:MapE} (h:KeysOK l) (t a b:Int):KeysOK (putE l t a b):=by
 refine⟨updL_nodup h.nd _ _,fun x hx=> ?_⟩
 rcases mem_updL hx with hx|rfl
 ·exact h.ends x hx
 ·show ke a b=((edgeU t a b (edge0 l (ke a b))).1,(edgeU t a b (edge0 l (ke a b))).2.1)
  rw[edgeU_ends]
  unfold edge0
  cases hk:Sx.look l (ke a b)with
  |none=>rfl
  |some e=>exact h.ends _ (look_mem hk)
theorem keys_mapE (ts:List T3):∀i,KeysOK (mapE ts i)
 |0=>keys_nil
 |i+1=>keys_put (keys_put (keys_put (keys_mapE ts i) _ _ _) _ _ _) _ _ _
theorem updL_ne {β:Type} (l:List ((Int×Int)×β)) (p:Int×Int) (v:β):updL l p v≠[]:=by
 cases l with
 |nil=>simp[updL]
 |cons e l=>simp only[updL];split<;>simp
theorem mapE_ne {ts:List T3} (h:ts≠[]):mapE ts ts.length≠[]:=by
 cases hl:ts.length with
 |zero=>exact absurd (List.length_eq_zero_iff.1 hl) h
 |succ n=>exact updL_ne _ _ _
def edgesL (ts:List T3):List E4:=((mapE ts ts.length).map (·.2)).mergeSort fun x y=>decide (cmpE x y≤0)
theorem edgesL_perm (ts:List T3):(edgesL ts).Perm ((mapE ts ts.length).map (·.2)):=List.mergeSort_perm _ _
theorem cmpE_le {x y:E4}:cmpE x y≤0↔(x.1<y.1∨x.1=y.1∧x.2.1≤y.2.1):=by
 unfold cmpE
 have e:∀a b,cmpI a b≤0↔a≤b:=fun a b=>by
  unfold cmpI;split
  ·simp;omega
  ·split<;>simp<;>omega
 by_cases h:cmpI x.1 y.1=0
 ·rw[if_neg (by simpa using h),e]
  have:=cmpI_z.1 h
  omega
 ·rw[if_pos h,e]
  have:x.1≠y.1:=fun e=>h (cmpI_z.2 e)
  omega
theorem edgesL_sorted (ts:List T3):(edgesL ts).Pairwise fun x y=>cmpE x y<0:=by
 have h1:(edgesL ts).Pairwise fun x y=>cmpE x y≤0:=by
  have:=List.pairwise_mergeSort (le:=fun x y:E4=>decide (cmpE x y≤0)) (fun a b c h1 h2=>by simp only[decide_eq_true_eq,cmpE_le]at*;omega) (fun a b=>by simp only[Bool.or_eq_true,decide_eq_true_eq,cmpE_le];omega) ((mapE ts ts.length).map (·.2))
  exact this.imp fun h=>by simpa using h
 have hk:=keys_mapE ts ts.length
 have h2:(edgesL ts).Pairwise fun x y=>(x.1,x.2.1)≠(y.1,y.2.1):=by
  have h3:((edgesL ts).map fun e=>(e.1,e.2.1)).Nodup:=by
   refine((edgesL_perm ts).map (fun e:E4=>(e.1,e.2.1))).nodup_iff.2 ?_
   rw[List.map_map]
   have e:(mapE ts ts.length).map ((fun e:E4=>(e.1,e.2.1))∘(·.2))=(mapE ts ts.length).map (·.1):=List.map_congr_left fun x hx=>(hk.ends x hx).symm
   rw[e];exact hk.nd
  exact List.pairwise_map.1 h3
 refine(h1.and h2).imp fun {x y} h=> ?_
 obtain⟨h1,h2⟩:=h
 rw[cmpE_lt]
 rw[cmpE_le]at h1
 have:¬(x.1=y.1∧x.2.1=y.2.1):=fun e=>h2 (by rw[e.1,e.2])
 omega
theorem edgesL_len (ts:List T3):(edgesL ts).length≤3*ts.length:=by
 rw[(edgesL_perm ts).length_eq,List.length_map];exact mapE_len ts _
theorem m_edgesL (n:Nat) (ts:List T3) (hl:ts.length<274877906944) (h:OkTs n ts) (h0:ts≠[]):CallOK Tryz.prog 112 [mvec 3 triA ts] [] (mvec 4 edA (edgesL ts)) [] []:=
 m_edges n ts hl h (mapE_ne h0) (edgesL_perm ts) (edgesL_sorted ts)
theorem m_Edges (m:Me) (hf:m.Fit) (hl:m.ts.length<274877906944) (h:OkTs m.ps.length m.ts) (h0:m.ts≠[]):CallOK Tryz.prog 78 [meA m] [] (mvec 4 edA (edgesL m.ts)) [] []:=by
 have k1:=m_Numbered m hf h
 have k2:=m_edgesL _ m.ts hl h h0
 refine callV (Z:=[1]) tabOK mixedOK Tryz.func78 rfl (by kernel_rfl) rfl rfl (by kernel_rfl) rfl ?_
 intro W0 w0 ρ0 hE
 conv=>whnf
 (repeat((first|refine step_w2 rfl rfl ?_|refine g_c (by assumption) ?_|refine g_o (op_loadA rfl (ev_ok rfl) (tgt rfl) rfl (Nat.succ_ne_zero _) rfl) ?_|refine g_o (op_fieldA rfl (ev_ok rfl) (tgt rfl) rfl rfl (Nat.succ_ne_zero _) rfl) ?_);conv=>whnf));(first|exact Recast.refl _|exact Frz.recast (Recast.refl _) rfl|(refine Frz.one rfl rfl ?_;skip)|(refine Frz.tup ?_;skip))
end Go.Proofs.YthaeohlijigplaaGreat
namespace Go.Sx
set_option linter.unusedSimpArgs false
set_option linter.unusedVariables false
set_option maxRecDepth 100000
def realS (K g:Nat) (B1:Blk) (s:Loc→LV):Loc→LV
 |.t n=>s (.t n)
 |.k n=>if n=g then .k none else if n=K then(match (s (.k g)).blk with
   |some b=>if b.wr=true then .k (some B1)else s (.k K)
   |none=>s (.k K))else s (.k n)
def StepQ (K g:Nat) (B1:Blk) (E:Env) (ops:Array Oper) (o:Oper) (fr:List (Nat×SV)) (hp:List (Nat×Blk)) (f:Foot) (c:SV) (ks:List (Nat×Blk)):Prop:=
 f.wt=o.dst∧(∀k,k∈f.wk↔∃b,(k,b)∈ks)∧
  ∀s,(∀t,t∈f.rt→s (.t t)=fn fr hp (.t t))→(∀k,k∈f.rk∨k∈f.wk→s (.k k)=fn fr hp (.k k))→∀a w,RR E (realS K g B1 s) a w→
   (if Region.wanted o (yielded ops a.tmps)then goes E.P o a w (fun a' w'=>RR E (realS K g B1 (lay o.dst c ks s)) a' w')else RR E (realS K g B1 (lay o.dst c ks s)) (a.put o.dst undef) w)
def RunsQ (K g:Nat) (B1:Blk) (E:Env) (ops:Array Oper):List Oper→List (Nat×SV)→List (Nat×Blk)→List Rec→List (Nat×SV)→List (Nat×Blk)→Prop
 |[],fr,hp,recs,fr',hp'=>recs=[]∧fr'=fr∧hp'=hp
 |o::l,fr,hp,recs,fr',hp'=>∃rc rest,recs=rc::rest∧rc.o=o∧rc.fr=fr∧rc.hp=hp∧StepQ K g B1 E ops o fr hp rc.f rc.c rc.ks∧RunsQ K g B1 E ops l (layF o.dst rc.c fr) (layH rc.ks hp) rest fr' hp'
theorem RunsQ.append {K g:Nat} {B1:Blk} {E:Env} {ops:Array Oper}:∀{l1 l2:List Oper} {fr:List (Nat×SV)} {hp:List (Nat×Blk)} {r1 r2:List Rec} {fr1:List (Nat×SV)} {hp1:List (Nat×Blk)} {fr2:List (Nat×SV)} {hp2:List (Nat×Blk)},
  RunsQ K g B1 E ops l1 fr hp r1 fr1 hp1→RunsQ K g B1 E ops l2 fr1 hp1 r2 fr2 hp2→RunsQ K g B1 E ops (l1++l2) fr hp (r1++r2) fr2 hp2
 |[],l2,fr,hp,r1,r2,fr1,hp1,fr2,hp2,h1,h2=>by
  obtain⟨rfl,rfl,rfl⟩:=h1
  exact h2
 |o::l,l2,fr,hp,r1,r2,fr1,hp1,fr2,hp2,h1,h2=>by
  obtain⟨rc,rest,rfl,e1,e2,e3,hs,h3⟩:=h1
  exact⟨rc,rest++r2,rfl,e1,e2,e3,hs,RunsQ.append h3 h2⟩
theorem runsQ_get {K g:Nat} {B1:Blk} {E:Env} {ops:Array Oper}:∀{l:List Oper} {fr:List (Nat×SV)} {hp:List (Nat×Blk)} {recs:List Rec} {fr':List (Nat×SV)} {hp':List (Nat×Blk)},RunsQ K g B1 E ops l fr hp recs fr' hp'→
  recs.length=l.length∧(∀i rc,recs[i]? =some rc→l[i]? =some rc.o∧StepQ K g B1 E ops rc.o rc.fr rc.hp rc.f rc.c rc.ks∧fn rc.fr rc.hp=sx (recSteps recs) (fn fr hp) (fun _=>true) i)∧
  fn fr' hp'=sx (recSteps recs) (fn fr hp) (fun _=>true) l.length
 |[],fr,hp,recs,fr',hp',h=>by
  obtain⟨rfl,rfl,rfl⟩:=h
  exact⟨rfl,fun i rc h=>by simp at h,rfl⟩
 |o::l,fr,hp,recs,fr',hp',h=>by
  obtain⟨rc,rest,rfl,rfl,rfl,rfl,hs,h2⟩:=h
  obtain⟨g1,g2,g3⟩:=runsQ_get h2
  have shift:∀n,sx (recSteps (rc::rest)) (fn rc.fr rc.hp) (fun _=>true) (n+1)=
    sx (recSteps rest) (fn (layF rc.o.dst rc.c rc.fr) (layH rc.ks rc.hp)) (fun _=>true) n:=by
   intro n
   induction n with
   |zero=>rw[sx_succ,recSteps_get (r:=rc) (by simp),recStep_ap];exact fn_lay ..
   |succ n ih=>rw[sx_succ,ih,sx_succ];simp[recSteps]
  refine⟨by simp[g1],fun i rc' hi=> ?_, ?_⟩
  ·cases i with
   |zero=>simp at hi;subst hi;exact⟨by simp,hs,rfl⟩
   |succ i=>
    obtain⟨e1,e2,e3⟩:=g2 i rc' (by simpa using hi)
    exact⟨by simpa using e1,e2,by rw[shift];exact e3⟩
  ·rw[List.length_cons,shift];exact g3
theorem runsQ_any {K g:Nat} {B1:Blk} {E:Env} (hm:E.P.follows .mixedOrders=true) {l:List Oper} {Q:Exit→Act→World→Prop} {fr:List (Nat×SV)} {hp:List (Nat×Blk)} {recs:List Rec} {fr':List (Nat×SV)} {hp':List (Nat×Blk)}
  (h:RunsQ K g B1 E l.toArray l fr hp recs fr' hp') (hi:indep l (recs.map (·.f))=true) (hQ:∀a w,RR E (realS K g B1 (fn fr' hp')) a w→Q .normal a w) (id:Nat) (a:Act) (w:World) (hR:RR E (realS K g B1 (fn fr hp)) a w):
  (Code.region id l.toArray true).wpIn (fen E.ro) 0 E.P Q a w:=by
 obtain⟨g1,g2,g3⟩:=runsQ_get h
 simp only[indep,Bool.and_eq_true]at hi
 have hget:∀i,i<l.length→∃rc,recs[i]? =some rc:=fun i hi=>⟨recs[i],by simp[g1,hi]⟩
 refine any_order (Rel:=fun s a w=>RR E (realS K g B1 s) a w) (steps:=recSteps recs) (s0:=fn fr hp) hm ?_ ?_ ?_ ?_ a w ?_
 ·intro i hi s' hs' a w hR
  obtain⟨rc,hrc⟩:=hget i (by simpa using hi)
  obtain⟨e1,⟨e2,e3,e4⟩,e5⟩:=g2 i rc hrc
  rw[recSteps_get hrc]at hs' ⊢
  rw[←e5]at hs'
  have:=e4 s' (fun t ht=>hs' _ (.inl (by simpa [recStep]using ht))) (fun k hk=>hs' _ (by
   rcases hk with hk|hk
   ·exact .inl (by simpa [recStep]using hk)
   ·right
    obtain⟨b,hb⟩:=(e3 k).1 hk
    simp only[recStep]
    cases hf:find rc.ks k with
    |some b'=>rfl
    |none=>exact absurd hb (find_none hf b))) a w hR
  unfold wpOpIn
  have ho:l.toArray[i]? =some rc.o:=by simpa using e1
  rw[ho]
  simp only[recStep_ap]
  split
  ·rename_i hw
   rw[if_pos hw]at this
   exact goes_wpIn this
  ·rename_i hw
   rw[if_neg hw]at this
   exact⟨fun _ _=>trivial,this⟩
 ·intro i j hij hj hc
  have hj':j<l.length:=by simpa using hj
  obtain⟨ri,hri⟩:=hget i (by omega)
  obtain⟨rj,hrj⟩:=hget j hj'
  obtain⟨_,⟨i2,i3,_⟩,_⟩:=g2 i ri hri
  obtain⟨_,⟨j2,j3,_⟩,_⟩:=g2 j rj hrj
  rw[recSteps_get hri,recSteps_get hrj]at hc
  have wki:∀k,(find ri.ks k).isSome=true→k∈ri.f.wk:=fun k hk=>by
   cases hf:find ri.ks k with
   |none=>rw[hf]at hk;cases hk
   |some b=>exact(i3 k).2 ⟨b,find_mem hf⟩
  have wkj:∀k,(find rj.ks k).isSome=true→k∈rj.f.wk:=fun k hk=>by
   cases hf:find rj.ks k with
   |none=>rw[hf]at hk;cases hk
   |some b=>exact(j3 k).2 ⟨b,find_mem hf⟩
  have hconf:confF ri.f rj.f=true:=by
   obtain⟨loc,hc⟩:=hc
   simp only[confF,Bool.or_eq_true,meets_iff]
   cases loc with
   |t n=>
    simp only[recStep,decide_eq_true_eq]at hc
    rcases hc with⟨h1,h2|h2⟩|⟨h1,h2⟩
    ·exact .inl ⟨n,by rw[i2,h1];simp[wtL],h2⟩
    ·exact .inr (.inl ⟨n,by rw[i2,h1];simp[wtL],by rw[j2,h2];simp[wtL]⟩)
    ·exact .inr (.inr (.inl ⟨n,by rw[j2,h2];simp[wtL],h1⟩))
   |k n=>
    simp only[recStep,decide_eq_true_eq]at hc
    rcases hc with⟨h1,h2|h2⟩|⟨h1,h2⟩
    ·exact .inr (.inr (.inr (.inl ⟨n,wki n h1,h2⟩)))
    ·exact .inr (.inr (.inr (.inr (.inl ⟨n,wki n h1,wkj n h2⟩))))
    ·exact .inr (.inr (.inr (.inr (.inr ⟨n,wkj n h2,h1⟩))))
  have hbit:=rowsOK_spec (l:=recs.map (·.f)) (done:=[]) (j0:=0) rfl hi.2 i j ri.f rj.f hij (Nat.zero_le _) (by simp[hri]) (by simp[hrj]) hconf
  cases hmj:(masks l [])[j]? with
  |none=>simp[hmj]at hbit
  |some m=>
   have:(masks l []).getD j 0=m:=by simp[hmj]
   rw[this]at hbit
   exact masks_waits l [] (by simp) (by simp) j m i hmj hbit
 ·intro i o ho e he hb
  have:=allEdges_spec l 0 hi.1 i o (by simpa using ho) e he hb
  omega
 ·intro a w hR
  rw[List.size_toArray,←g3]at hR
  exact hQ a w hR
 ·obtain⟨ρ,h1,h3,h2⟩:=hR
  exact⟨ρ,h1,h3,{h2 with pres:=⟨h2.pres.os,h2.pres.tape,h2.pres.output,h2.pres.size,h2.pres.block,Nat.le_trans h2.pres.drawn (Nat.le_succ _)⟩,hp:=⟨h2.hp.blk,h2.hp.sep,h2.hp.own,h2.hp.dom,h2.hp.imm,h2.hp.immw⟩}⟩
theorem stepQ_of {K g:Nat} {B1:Blk} {E:Env} {ops:Array Oper} {o:Oper} {fr:List (Nat×SV)} {hp hp2:List (Nat×Blk)} {f:Foot} {c:SV} {ks:List (Nat×Blk)} (h:StepOK E ops o fr hp f c ks) (hr:f.rk=[]) (hw:f.wk=[]):ks=[]∧StepQ K g B1 E ops o fr hp2 f c ks:=by
 obtain⟨h1,h2,h3⟩:=h
 have hks:ks=[]:=by
  cases ks with
  |nil=>rfl
  |cons x ks=>obtain⟨k,b⟩:=x;have:=(h2 k).2 ⟨b,List.mem_cons_self ..⟩;rw[hw]at this;cases this
 subst hks
 refine⟨rfl,h1,h2,fun s ht hk a w hR=> ?_⟩
 have e:∀s,realS K g B1 (lay o.dst c [] s)=lay o.dst c [] (realS K g B1 s):=by
  intro s
  funext l
  cases l with
  |t n=>simp only[realS,lay]
  |k n=>simp only[realS,lay,find]
 rw[e]
 exact h3 (realS K g B1 s) (fun t h=>ht t h) (fun k h=>by rw[hr,hw]at h;rcases h with h|h<;>cases h) a w hR
def quietF (fs:List Foot):Bool:=fs.all fun f=>f.rk.isEmpty&&f.wk.isEmpty
theorem runsQ_of {K g:Nat} {B1:Blk} {E:Env} {ops:Array Oper}:∀{l:List Oper} {fr:List (Nat×SV)} {hp hp2:List (Nat×Blk)} {recs:List Rec} {fr':List (Nat×SV)} {hp':List (Nat×Blk)},Runs E ops l fr hp recs fr' hp'→quietF (recs.map (·.f))=true→
  hp'=hp∧∃recs',recs'.map (·.f)=recs.map (·.f)∧RunsQ K g B1 E ops l fr hp2 recs' fr' hp2
 |[],fr,hp,hp2,recs,fr',hp',h,_=>by
  obtain⟨rfl,rfl,rfl⟩:=h
  exact⟨rfl,[],rfl,rfl,rfl,rfl⟩
 |o::l,fr,hp,hp2,recs,fr',hp',h,hq=>by
  obtain⟨rc,rest,rfl,rfl,rfl,rfl,hs,h2⟩:=h
  simp only[quietF,List.map_cons,List.all_cons,Bool.and_eq_true,List.isEmpty_iff]at hq
  obtain⟨⟨q1,q2⟩,q3⟩:=hq
  obtain⟨e,hs'⟩:=stepQ_of (K:=K) (g:=g) (B1:=B1) (hp2:=hp2) hs q1 q2
  rw[e]at h2
  obtain⟨e2,recs',e3,h3⟩:=runsQ_of (K:=K) (g:=g) (B1:=B1) (hp2:=hp2) h2 q3
  refine⟨e2,⟨rc.f,rc.o,rc.c,rc.ks,rc.fr,hp2⟩::recs',by rw[List.map_cons,List.map_cons,e3],⟨rc.f,rc.o,rc.c,rc.ks,rc.fr,hp2⟩,recs',rfl,rfl,rfl,rfl,hs', ?_⟩
  show RunsQ K g B1 E ops l (layF rc.o.dst rc.c rc.fr) (layH rc.ks hp2) recs' fr' hp2
  rw[e];exact h3
section
variable {K g:Nat} {B0 B1 B2:Blk} {E:Env} {ops:Array Oper} {o:Oper} {fr:List (Nat×SV)} {hp:List (Nat×Blk)} {c:SV}
theorem realS_nil (s:Loc→LV) (dst:Option Nat):realS K g B1 (lay dst c [] s)=lay dst c [] (realS K g B1 s):=by
 funext l
 cases l with
 |t n=>simp only[realS,lay]
 |k n=>simp only[realS,lay,find]
theorem find1 {k n:Nat} {b:Blk}:find [(k,b)] n=if n=k then some b else none:=by
 have:=find_setB (k:=k) (b:=b) [] n
 simpa [setB,find]using this
theorem wanted_free (hg:o.guard=none) (f:Nat→Option Bool):Region.wanted o f=true:=by simp[Region.wanted,hg]
theorem stepQ_look (hgK:g≠K) (hg:o.guard=none) (hd:dstOK E.n o.dst=true) (h0:find hp K=some B0) (op0:OpOK E.P o (pick fr (looks o)) [(K,B0)] c [] []) (op1:OpOK E.P o (pick fr (looks o)) [(K,B1)] c [] []):
  StepQ K g B1 E ops o fr hp ⟨looks o,[K],o.dst,[]⟩ c []:=by
 have s0:=step_do (ops:=ops) (rt:=looks o) hd op0 (hp:=hp) (fun j b h=>by simp only[List.mem_singleton,Prod.mk.injEq]at h;obtain⟨rfl,rfl⟩:=h;exact h0) (fun _ _ h=>by cases h) (fun _ _ h=>by cases h) (fun t ht=>ht) (fun s _ a w _=>wanted_free hg _)
 have s1:=step_do (ops:=ops) (rt:=looks o) hd op1 (hp:=setB hp K B1) (fun j b h=>by simp only[List.mem_singleton,Prod.mk.injEq]at h;obtain⟨rfl,rfl⟩:=h;rw[find_setB,if_pos rfl]) (fun _ _ h=>by cases h) (fun _ _ h=>by cases h) (fun t ht=>ht) (fun s _ a w _=>wanted_free hg _)
 refine⟨rfl,fun k=>by simp,fun s ht hk a w hR=> ?_⟩
 rw[realS_nil]
 have hsK:s (.k K)= .k (some B0):=by rw[hk K (.inl (List.mem_cons_self ..))];simp[fn,h0]
 have hKg:K≠g:=fun h=>hgK h.symm
 have hr:realS K g B1 s (.k K)= .k (some B0)∨realS K g B1 s (.k K)= .k (some B1):=by
  simp only[realS,if_neg hKg,if_true]
  split
  ·split
   ·exact .inr rfl
   ·exact .inl hsK
  ·exact .inl hsK
 rcases hr with hr|hr
 ·exact s0.2.2 (realS K g B1 s) (fun t h=>ht t h) (fun k h=>by
   rcases h with h|h
   ·simp only[keysOf,List.mem_singleton]at h;subst h;rw[hr];simp[fn,h0]
   ·cases h) a w hR
 ·exact s1.2.2 (realS K g B1 s) (fun t h=>ht t h) (fun k h=>by
   rcases h with h|h
   ·simp only[keysOf,List.mem_singleton]at h;subst h;rw[hr];simp[fn,find_setB]
   ·cases h) a w hR
def BgA:Blk:=⟨0,true,.dead⟩
def BgE:Blk:=⟨0,false,.dead⟩
theorem stepQ_entry (hgK:g≠K) (hg:o.guard=none) (hd:dstOK E.n o.dst=true) (h0:find hp K=some B0) (hg0:find hp g=none) (hw0:B0.wr=true) (hl0:B0.data.live=true) (hw1:B1.wr=true) (op0:OpOK E.P o (pick fr (looks o)) [(K,B0)] c [] [(K,B1)]):
  StepQ K g B1 E ops o fr hp ⟨looks o,[K,g],o.dst,[g]⟩ c [(g,BgA)]:=by
 have s0:=step_do (ops:=ops) (rt:=looks o) hd op0 (hp:=hp) (fun j b h=>by simp only[List.mem_singleton,Prod.mk.injEq]at h;obtain⟨rfl,rfl⟩:=h;exact h0) (fun _ _ h=>by cases h) (fun j b h=>by simp only[List.mem_singleton,Prod.mk.injEq]at h;obtain⟨rfl,rfl⟩:=h;exact⟨B0,List.mem_cons_self ..,hw0,hl0,hw1⟩) (fun t ht=>ht) (fun s _ a w _=>wanted_free hg _)
 refine⟨rfl,fun k=>by simp,fun s ht hk a w hR=> ?_⟩
 have hKg:K≠g:=fun h=>hgK h.symm
 have hsK:s (.k K)= .k (some B0):=by rw[hk K (.inl (List.mem_cons_self ..))];simp[fn,h0]
 have hsg:s (.k g)= .k none:=by rw[hk g (.inr (List.mem_cons_self ..))];simp[fn,hg0]
 have e:realS K g B1 (lay o.dst c [(g,BgA)] s)=lay o.dst c ([(K,B1)]++[]) (realS K g B1 s):=by
  funext l
  cases l with
  |t n=>simp only[realS,lay]
  |k n=>
   simp only[realS,lay,find1,List.append_nil]
   by_cases hng:n=g
   ·subst hng;simp[hgK]
   ·by_cases hnK:n=K
    ·subst hnK;simp[hng,LV.blk,BgA]
    ·simp[hng,hnK]
 rw[e]
 have hr:realS K g B1 s (.k K)= .k (some B0):=by simp[realS,hKg,hsg,LV.blk,hsK]
 exact s0.2.2 (realS K g B1 s) (fun t h=>ht t h) (fun k h=>by
  have hk':k=K:=by rcases h with h|h<;>simpa [keysOf]using h
  subst hk';rw[hr];simp[fn,h0]) a w hR
theorem stepQ_store (hgK:g≠K) (hg:o.guard=none) (hd:dstOK E.n o.dst=true) (h0:find hp K=some B0) (hg0:find hp g=some BgA) (hw1:B1.wr=true) (hl1:B1.data.live=true) (hw2:B2.wr=true) (op0:OpOK E.P o (pick fr (looks o)) [(K,B1)] c [] [(K,B2)]):
  StepQ K g B1 E ops o fr hp ⟨looks o,[K,g],o.dst,[K,g]⟩ c [(K,B2),(g,BgE)]:=by
 have s0:=step_do (ops:=ops) (rt:=looks o) hd op0 (hp:=setB hp K B1) (fun j b h=>by simp only[List.mem_singleton,Prod.mk.injEq]at h;obtain⟨rfl,rfl⟩:=h;rw[find_setB,if_pos rfl]) (fun _ _ h=>by cases h) (fun j b h=>by simp only[List.mem_singleton,Prod.mk.injEq]at h;obtain⟨rfl,rfl⟩:=h;exact⟨B1,List.mem_cons_self ..,hw1,hl1,hw2⟩) (fun t ht=>ht) (fun s _ a w _=>wanted_free hg _)
 refine⟨rfl,fun k=>by
  simp only[List.mem_cons,List.not_mem_nil,or_false,Prod.mk.injEq]
  constructor
  ·rintro(rfl|rfl)
   ·exact⟨_,.inl ⟨rfl,rfl⟩⟩
   ·exact⟨_,.inr ⟨rfl,rfl⟩⟩
  ·rintro⟨b,⟨rfl,_⟩|⟨rfl,_⟩⟩
   ·exact .inl rfl
   ·exact .inr rfl,fun s ht hk a w hR=> ?_⟩
 have hKg:K≠g:=fun h=>hgK h.symm
 have hsg:s (.k g)= .k (some BgA):=by rw[hk g (.inr (List.mem_cons_of_mem _ (List.mem_cons_self ..)))];simp[fn,hg0]
 have e:realS K g B1 (lay o.dst c [(K,B2),(g,BgE)] s)=lay o.dst c ([(K,B2)]++[]) (realS K g B1 s):=by
  funext l
  cases l with
  |t n=>simp only[realS,lay]
  |k n=>
   have hf:∀m,find [(K,B2),(g,BgE)] m=if m=K then some B2 else if m=g then some BgE else none:=by
    intro m
    simp only[find]
    by_cases h1:m=K
    ·subst h1;simp
    ·have:Nat.beq K m=false:=by
      cases h:Nat.beq K m with
      |false=>rfl
      |true=>exact absurd (Nat.eq_of_beq_eq_true h).symm h1
     rw[this,if_neg h1]
     by_cases h2:m=g
     ·subst h2;simp
     ·have:Nat.beq g m=false:=by
       cases h:Nat.beq g m with
       |false=>rfl
       |true=>exact absurd (Nat.eq_of_beq_eq_true h).symm h2
      simp[this,h2]
   simp only[realS,lay,hf,find1,List.append_nil]
   by_cases hng:n=g
   ·subst hng;simp[hgK]
   ·by_cases hnK:n=K
    ·subst hnK;simp[hng,hgK,LV.blk,BgE]
    ·simp[hng,hnK]
 rw[e]
 have hr:realS K g B1 s (.k K)= .k (some B1):=by simp[realS,hKg,hsg,LV.blk,BgA]
 exact s0.2.2 (realS K g B1 s) (fun t h=>ht t h) (fun k h=>by
  have hk':k=K:=by rcases h with h|h<;>simpa [keysOf]using h
  subst hk';rw[hr];simp[fn,find_setB]) a w hR
end
theorem SWx_inc {E:Env} (hE:E.OK) (hm:E.P.follows .mixedOrders=true) {id:Nat} {ops pre:List Oper} {oL oA oM oX oS:Oper} (hops:ops=pre++[oL,oA,oM,oX,oS]) {Kp:Post'} {fr:List (Nat×SV)} {hp:List (Nat×Blk)} {K:Nat} (g:Nat) {B0 B1 B2:Blk} (cL cM cS:SV)
  (hgK:g≠K) (h0:find hp K=some B0) (hg0:find hp g=none) (hw:B0.wr=true∧B0.data.live=true∧B1.wr=true∧B1.data.live=true∧B2.wr=true)
  (hgd:oL.guard=none∧oM.guard=none∧oS.guard=none) (hd:dstOK E.n oL.dst=true∧dstOK E.n oM.dst=true∧dstOK E.n oS.dst=true)
  (h:lex E ops pre fr hp [] fun fr1 _ fs1=>quietF fs1=true∧OpOK E.P oL (pick fr1 (looks oL)) [(K,B0)] cL [] []∧OpOK E.P oL (pick fr1 (looks oL)) [(K,B1)] cL [] []∧
   lex E ops [oA] (layF oL.dst cL fr1) hp [] fun fr3 _ fs3=>quietF fs3=true∧OpOK E.P oM (pick fr3 (looks oM)) [(K,B0)] cM [] [(K,B1)]∧
    lex E ops [oX] (layF oM.dst cM fr3) hp [] fun fr5 _ fs5=>quietF fs5=true∧OpOK E.P oS (pick fr5 (looks oS)) [(K,B1)] cS [] [(K,B2)]∧
     indep ops (fs1.reverse++(⟨looks oL,[K],oL.dst,[]⟩::(fs3.reverse++(⟨looks oM,[K,g],oM.dst,[g]⟩::(fs5.reverse++[⟨looks oS,[K,g],oS.dst,[K,g]⟩])))))=true∧
     Kp .normal (layF oS.dst cS fr5) (layH [(K,B2)] hp)):SWx E (.region id ops.toArray true) Kp fr hp:=by
 refine⟨fun a w hR=> ?_⟩
 obtain⟨recs1,fr1,hp1,r1,q1,a1,a2,h⟩:=lex_runs hE.tab pre _ _ _ h
 obtain⟨recs3,fr3,hp3,r3,q3,a3,h⟩:=lex_runs hE.tab [oA] _ _ _ h
 obtain⟨recs5,fr5,hp5,r5,q5,a4,hi,hK⟩:=lex_runs hE.tab [oX] _ _ _ h
 simp only[List.append_nil,List.reverse_reverse]at q1 q3 q5 hi
 have qr:∀l:List Foot,quietF l.reverse=true→quietF l=true:=fun l h=>by simpa [quietF]using h
 have hpg:find (setB hp g BgA) K=some B0:=by rw[find_setB,if_neg (fun h=>hgK h.symm)];exact h0
 obtain⟨_,recs1',m1,t1⟩:=runsQ_of (K:=K) (g:=g) (B1:=B1) (hp2:=hp) r1 (qr _ q1)
 obtain⟨_,recs3',m3,t3⟩:=runsQ_of (K:=K) (g:=g) (B1:=B1) (hp2:=hp) r3 (qr _ q3)
 obtain⟨_,recs5',m5,t5⟩:=runsQ_of (K:=K) (g:=g) (B1:=B1) (hp2:=setB hp g BgA) r5 (qr _ q5)
 have sL:=stepQ_look (ops:=ops.toArray) (B1:=B1) hgK hgd.1 hd.1 h0 a1 a2
 have sM:=stepQ_entry (ops:=ops.toArray) hgK hgd.2.1 hd.2.1 h0 hg0 hw.1 hw.2.1 hw.2.2.1 a3
 have sS:=stepQ_store (ops:=ops.toArray) hgK hgd.2.2 hd.2.2 hpg (by rw[find_setB,if_pos rfl]) hw.2.2.1 hw.2.2.2.1 hw.2.2.2.2 a4
 have t6:RunsQ K g B1 E ops.toArray [oS] fr5 (setB hp g BgA) [⟨⟨looks oS,[K,g],oS.dst,[K,g]⟩,oS,cS,[(K,B2),(g,BgE)],fr5,setB hp g BgA⟩] (layF oS.dst cS fr5) (layH [(K,B2),(g,BgE)] (setB hp g BgA)):=⟨_,[],rfl,rfl,rfl,rfl,sS,rfl,rfl,rfl⟩
 have t4:RunsQ K g B1 E ops.toArray (oM::([oX]++[oS])) fr3 hp (⟨⟨looks oM,[K,g],oM.dst,[g]⟩,oM,cM,[(g,BgA)],fr3,hp⟩::(recs5'++_)) _ _:=⟨_,_,rfl,rfl,rfl,rfl,sM,t5.append t6⟩
 have t2:RunsQ K g B1 E ops.toArray (oL::([oA]++_)) fr1 hp (⟨⟨looks oL,[K],oL.dst,[]⟩,oL,cL,[],fr1,hp⟩::(recs3'++_)) _ _:=⟨_,_,rfl,rfl,rfl,rfl,sL,t3.append t4⟩
 have t0:=t1.append t2
 have hops':pre++oL::([oA]++oM::([oX]++[oS]))=ops:=by rw[hops];rfl
 rw[hops']at t0
 refine runsQ_any hm t0 (by
  rw[←hi]
  congr 1
  simp[m1,m3,m5]) (fun a' w' hR'=> ?_) id a w ?_
 ·refine⟨_,_,hK, ?_⟩
  have e:realS K g B1 (fn (layF oS.dst cS fr5) (layH [(K,B2),(g,BgE)] (setB hp g BgA)))=fn (layF oS.dst cS fr5) (layH [(K,B2)] hp):=by
   funext l
   cases l with
   |t n=>rfl
   |k n=>
    simp only[realS,fn,layH,find_setB]
    by_cases hng:n=g
    ·subst hng;simp[hgK,hg0]
    ·by_cases hnK:n=K
     ·subst hnK;simp[hng,hgK,LV.blk,BgE]
     ·simp[hng,hnK]
  rw[←e];exact hR'
 ·have e:realS K g B1 (fn fr hp)=fn fr hp:=by
   funext l
   cases l with
   |t n=>rfl
   |k n=>
    simp only[realS,fn]
    by_cases hng:n=g
    ·subst hng;simp[hg0]
    ·by_cases hnK:n=K
     ·subst hnK;simp[hng,hg0,LV.blk]
     ·simp[hng,hnK]
  rw[e];exact hR
end Go.Sx
