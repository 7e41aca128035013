/- The texts Qe. -/
import Derived.Test.YtbopchpncgdaaaaGreatDoorQsA8
namespace Go.Sx
set_option linter.unusedSimpArgs false
set_option linter.unusedVariables false
set_option maxRecDepth 100000
set_option maxHeartbeats 4000000
structure R1 (ρ:Rho) (s:Nat) (cs:List SV) (z:List (List Value)):Prop where
 has:HasZ ρ cs z
 wid:∀c∈cs,c.width=s
theorem HasZ.each {ρ:Rho} {s:Nat}:∀{cs:List SV} {z:List (List Value)},HasZ ρ cs z→(∀c∈cs,c.width=s)→∀u∈z,u.length=s∧∀v∈u,v.oneCell'=true
 |[],z,h,_,u,hu=>by simp only[HasZ]at h;subst h;cases hu
 |c::l,z,h,hw,u,hu=>by
  simp only[HasZ]at h
  obtain⟨x,r,rfl,h1,h2⟩:=h
  rcases List.mem_cons.1 hu with rfl|hu
  ·have:=HasC.len c _ h1
   rw[hw c (List.mem_cons_self ..)]at this
   exact this
  ·exact HasZ.each h2 (fun d hd=>hw d (List.mem_cons_of_mem _ hd)) u hu
theorem R1.len {ρ:Rho} {s:Nat} {cs:List SV} {z:List (List Value)} (h:R1 ρ s cs z):z.length=cs.length∧∀u∈z,u.length=s:=⟨HasZ_length h.has,fun u hu=>(h.has.each h.wid u hu).1⟩
theorem R1.one' {ρ:Rho} {s:Nat} {cs:List SV} {z:List (List Value)} (h:R1 ρ s cs z):∀u∈z,∀v∈u,v.oneCell'=true:=fun u hu=>(h.has.each h.wid u hu).2
theorem R1.data {ρ:Rho} {s:Nat} {cs:List SV} {z:List (List Value)} (h:R1 ρ s cs z):DataC ρ (.one cs) z.flatten:=⟨z,h.has,rfl⟩
theorem R1.notLoop {ρ:Rho} {s:Nat} {cs:List SV} {z:List (List Value)} (_:R1 ρ s cs z):(Data.one cs).isLoop=false:=rfl
theorem R1.app {ρ:Rho} {s n i m:Nat} {cs cs2:List SV} {z z2:List (List Value)} (h:R1 ρ s cs z) (h2:R1 ρ s cs2 z2) (hn:n=cs.length) (hi:i=0) (hm:m=cs2.length):R1 ρ s (cs++cs2) (z.take n++(z2.drop i).take m):=by
 rw[hn,←h.len.1,List.take_length,hi,List.drop_zero,hm,←h2.len.1,List.take_length]
 exact⟨HasZ_append h.has h2.has,fun c hc=>(List.mem_append.1 hc).elim (h.wid c) (h2.wid c)⟩
theorem blk_rows1 {ρ:Rho} {w:World} {k s:Nat} {ty:TypeId} {wr:Bool} {cs:List SV} (hb:BlkOK ρ w k ⟨ty,wr,.one cs⟩) (hw:allW s cs=true):
  ∃z,R1 ρ s cs z∧((∃b t ex,ρ.key k=some (b,t)∧w.heap[b]? =some (.cells (z.flatten++ex).toArray ty (0,0))∧(z.flatten++ex).length=t∧(∀v∈ex,v.oneCell'=true))∨(ρ.key k=none∧z=[])):=by
 rcases hb with h0|⟨b,t,vs,ex,h1,h2,h3,h4,h5⟩|⟨_,h2⟩
 ·cases h0
 ·obtain⟨z,hz,rfl⟩:=h3
  exact⟨z,⟨hz,allW_spec hw⟩,.inl ⟨b,t,ex,h1,by rw[h2,Data.obj_cells rfl],h4,h5⟩⟩
 ·exact h2.elim
theorem run_first1 {P:Program} {cs:List SV} {ty:TypeId} {wr:Bool} {ρ:Rho} {w:World} {k s i n:Nat} {v:Value} (hv:Has ρ (.slc k s i n) v) (hb:BlkOK ρ w k ⟨ty,wr,.one cs⟩) (hw:allW s cs=true) (hin:i+n≤cs.length):
  ∃z,R1 ρ s cs z∧(∀w',(∀b,b<w.heap.size→w'.heap[b]? =w.heap[b]?)→(Builtin.firstCells s n v).run P w'= .ok (((z.drop i).take n).flatten).toArray w')∧Builtin.lenOf v=Pure.pure n:=by
 obtain⟨z,hz,hcase⟩:=blk_rows1 hb hw
 obtain⟨zl,zw⟩:=hz.len
 refine⟨z,hz, ?_⟩
 rcases has_slc hv with⟨b,t,cap,e1,e2,e3,rfl⟩|⟨rfl,a,rfl⟩
 ·rcases hcase with⟨b',t',ex,h1,h2,h3,h4⟩|⟨h1,_⟩
  ·rw[e1]at h1
   cases h1
   refine⟨fun w' hw'=> ?_,rfl⟩
   have hblt:b<w.heap.size:=by
    rcases Nat.lt_or_ge b w.heap.size with h'|h'
    ·exact h'
    ·simp[Array.getElem?_eq_none h']at h2
   have hh:w'.heap[b]? =some (.cells (z.flatten++ex).toArray ty (0,0)):=by rw[hw' b hblt];exact h2
   have hseg:((z.drop i).take n).flatten=(z.flatten.drop (i*s)).take (n*s):=by
    rw[flatten_take (s:=s) _ _ (fun u hu=>zw u (List.mem_of_mem_drop hu)),flatten_drop (s:=s) _ _ zw]
   have hlen:(((z.drop i).take n).flatten).length=n*s:=by
    rw[flatten_len (s:=s) _ (fun u hu=>zw u (List.mem_of_mem_drop (List.mem_of_mem_take hu))),List.length_take,List.length_drop]
    congr 1
    omega
   refine run_firstCells_some (P:=P) w' s n _ n cap _ hlen ?_
   intro j u hj
   have hadd:(⟨b,i*s,none⟩:Addr).add j=⟨b,i*s+j,none⟩:=by unfold Addr.add;split<;>simp_all
   rw[hadd,cell_of_row w' b (i*s+j) _ ty (0,0) hh]
   have h6:=take_eq_get hseg j u hj
   have hlt:i*s+j<z.flatten.length:=(List.getElem?_eq_some_iff.1 h6).1
   simp only[List.getElem?_toArray]
   rw[List.getElem?_append_left hlt]
   exact h6
  ·rw[e1]at h1;cases h1
 ·refine⟨fun w' _=> ?_,rfl⟩
  cases a with
  |none=>simp[Builtin.firstCells]
  |some a=>simp[Builtin.firstCells,loadCells,loadCellsFrom]
theorem op_append1 {P:Program} {o:Oper} {fr:List (Nat×SV)} {fk:List (Nat×Blk)} {t t2 e:TypeId} {x y:Operand} {xs:Array Operand} {ts:Array TypeId} {ti ti2 te:TI} {k k2 kn n i2 m:Nat} {cs cs2:List SV} {ty2:TypeId} {wr2:Bool} (ho:o.op= .call ⟨.builtin .append,xs,ts⟩) (hxs:xs= #[x,y]) (hts:ts= #[t,t2])
  (hx:EvOK fr x (.slc k te.size 0 n)) (hy:EvOK fr y (.slc k2 te.size i2 m)) (ht:TOK P t ti) (hk:ti.kind= .slc e) (ht2:TOK P t2 ti2) (hk2:ti2.kind= .slc e) (he:TOK P e te)
  (hf:(k,⟨e,true,.one cs⟩)∈fk) (hf2:(k2,⟨ty2,wr2,.one cs2⟩)∈fk) (hw1:allW te.size cs=true) (hw2:allW te.size cs2=true) (hpos:0<m) (hi2:i2=0)
  (hn:n=cs.length) (hm:m=cs2.length) (hbytes:(n+m)*te.bytes≤140737488355328) (h63:n+m≤9223372036854775807):
  OpOK P o fr fk (.slc kn te.size 0 (n+m)) [(kn,⟨e,true,.one (cs++cs2)⟩)] [(k,⟨e,true,.dead⟩)]:=
 ok_value fun ρ a w hp=>by
  have hvx:=hx ρ a hp.hft
  have hvy:=hy ρ a hp.hft
  obtain⟨i,zv,i1,i2',i3,i4,i5,i6,i7,_⟩:=he.info
  have hu:=ht.kind;rw[hk]at hu
  have hu2:=ht2.kind;rw[hk2]at hu2
  obtain⟨z,hz,hzc⟩:=blk_rows1 (hp.hfk k _ hf) hw1
  obtain⟨z2,hz2,hrun2,hlen2⟩:=run_first1 (P:=P) hvy (hp.hfk k2 _ hf2) hw2 (by omega)
  obtain⟨zl,zw⟩:=hz.len
  obtain⟨zl2,zw2⟩:=hz2.len
  have hrows:=hz.app hz2 hn hi2 hm
  have hfresh:=hp.fresh kn _ (List.mem_cons_self ..)
  have hsegw:∀u∈(z2.drop i2).take m,u.length=te.size:=fun u hu=>zw2 u (List.mem_of_mem_drop (List.mem_of_mem_take hu))
  have hsegl:((z2.drop i2).take m).length=m:=by rw[List.length_take,List.length_drop];omega
  have hnews:(((z2.drop i2).take m).flatten).length=m*te.size:=by rw[flatten_len _ hsegw,hsegl]
  have hnone:∀u∈(((z2.drop i2).take m).flatten),u.oneCell'=true:=fun u hu=>by
   obtain⟨q,hq,hu⟩:=List.mem_flatten.1 hu
   exact hz2.one' q (List.mem_of_mem_drop (List.mem_of_mem_take hq)) u hu
  have hcall:∀v w',(Builtin.append_ ts o.type #[a.eval x,a.eval y]).run P w= .ok v w'→(execOp a.eval o).run P w= .ok (.value v) w':=by
   intro v w' h
   simp only[execOp,ho,resolve,invoke,builtin,hxs,Sem.run_bind,Sem.run_pure,Result.andThen_ok,List.map_toArray,List.map_cons,List.map_nil]
   rw[h]
   rfl
  have zone:∀v∈zv.cells.toList,v.oneCell'=true:=by
   have h1:=(HasZ.len (ρ:=ρ) te.zero _ (zero_has i6)).2
   rw[i5,List.flatMap_def];exact h1
  have h63':¬((n+m:Nat):Int)>IntKind.i64.max:=by
   have:IntKind.i64.max=9223372036854775807:=by decide
   omega
  have grow:∀(base:Option Addr) (cap:Nat),a.eval x= .slice base n cap→cap<n+m→(∀w',(∀b,b<w.heap.size→w'.heap[b]? =w.heap[b]?)→(Builtin.firstCells te.size n (.slice base n cap)).run P w'= .ok ((z.take n).flatten).toArray w')→
    ∃v w' ρ',(execOp a.eval o).run P w= .ok (.value v) w'∧Post ρ w (.slc kn te.size 0 (n+m)) [(kn,⟨e,true,.one (cs++cs2)⟩)] [(k,⟨e,true,.dead⟩)] v ρ' w':=by
   intro base cap hbx hcap hfirst
   have hfit:¬Builtin.nextslicecap (n+m) cap*i.bytes>2^48:=by
    have:=growslice_fits (bytes:=te.bytes) hcap hbytes
    rw[i3];simpa using this
   have hgc:n+m≤grownCap w (n+m) cap e:=by
    simp only[grownCap,Question.cut]
    omega
   have hpost:=post_row (hL:=hrows.notLoop) (ρ:=ρ) (w:=w.drew) (k:=kn) (s:=te.size) (n:=n+m) (cap:=grownCap w (n+m) cap e) (ty:=e) (d:=.one (cs++cs2)) (vs:=(z.take n++(z2.drop i2).take m).flatten) (ex:=(Builtin.zeroCells zv.cells (grownCap w (n+m) cap e - (n+m))).toList) hfresh hrows.data hgc
    (by
     have h1:((z.take n++(z2.drop i2).take m).flatten).length=(n+m)*te.size:=by
      rw[flatten_len (s:=te.size) _ (fun u hu=>(List.mem_append.1 hu).elim (fun h=>zw u (List.mem_of_mem_take h)) (hsegw u)),List.length_append,hsegl,List.length_take]
      congr 1
      omega
     rw[List.length_append,h1,Array.length_toList]
     have h2:(Builtin.zeroCells zv.cells (grownCap w (n+m) cap e - (n+m))).size=(grownCap w (n+m) cap e - (n+m))*te.size:=by simp[Builtin.zeroCells,i7]
     rw[h2,←Nat.add_mul,show n+m+(grownCap w (n+m) cap e - (n+m))=grownCap w (n+m) cap e from by omega]
     exact Nat.le_refl _) (zeroCells_one zone _)
   refine⟨_,_,_,hcall _ _ ?_,{hpost with
    pres:=⟨hpost.pres.os,hpost.pres.tape,hpost.pres.output,hpost.pres.size,fun b hb hn=>hpost.pres.block b hb (fun hh=>by obtain⟨_,_,_,hh,_⟩:=hh;cases hh)⟩
    blk:=fun j b hj=>by
     rcases hj with hj|hj
     ·simp only[List.mem_singleton,Prod.mk.injEq]at hj
      obtain⟨rfl,rfl⟩:=hj
      exact .inl rfl
     ·exact hpost.blk j b (.inr hj)
    once:=fun j b b' h1 h2 h3 h4=>by
     simp only[List.mem_singleton,Prod.mk.injEq]at h1 h2
     rw[h2.2]at h4
     cases h4
    newb:=fun j b q hj hq=>.inl ((hpost.newb j b q hj hq).elim id (fun hh=>by obtain⟨_,_,_,hh,_⟩:=hh;cases hh))}⟩
   have hz0:(if false=true then(Pure.pure 0:Sem Nat)else Builtin.lenOf (a.eval y)).run P w= .ok m w:=by rw[hlen2];rfl
   have hcap':¬n+m≤cap:=by omega
   have hnb:(w.drew).heap=w.heap:=rfl
   have hr1:=hfirst w.drew (fun b _=>rfl)
   have hr2:=hrun2 w.drew (fun b _=>rfl)
   simp only[Builtin.append_,hts,hbx,List.getElem?_toArray,List.getElem?_cons_zero,List.getElem?_cons_succ,Sem.run_bind,run_underlying hu,run_underlying hu2,Result.andThen_ok,he.sizeOf,Sem.run_pure,Bool.false_eq_true,if_false,hlen2]
   have hti:∀w',(typeInfo e).run P w'= .ok i w':=fun w'=>by simp[typeInfo,i1]
   have hzv:∀w',(Go.zeroValue e).run P w'= .ok zv w':=fun w'=>by simp[Go.zeroValue,typeInfo,i1,i4]
   have hcond:¬(((n+m:Nat):Int)>IntKind.i64.max∧(False∨i.bytes=0)):=fun h=>h63' h.1
   have hforced:(Question.appendCap (n+m) cap e).forced=false:=rfl
   simp only[hcap',if_false,Sem.run_bind,hti,Result.andThen_ok,hcond,hfit,run_choose,hforced,Bool.false_eq_true,World.drew_eq,run_askRoom,hr1,Bool.not_false,if_true,hr2,hzv,newRow,run_newObj,Sem.run_pure,World.alloc_eq]
   have harr:((z.take n).flatten.toArray++((z2.drop i2).take m).flatten.toArray++Builtin.zeroCells zv.cells (grownCap w (n+m) cap e - (n+m)))=((z.take n++(z2.drop i2).take m).flatten++(Builtin.zeroCells zv.cells (grownCap w (n+m) cap e - (n+m))).toList).toArray:=by
    apply Array.ext'
    simp
   show Result.ok (Value.slice (some ⟨w.drew.heap.size,0,none⟩) (n+m) (grownCap w (n+m) cap e)) (w.drew.alloc (.cells ((z.take n).flatten.toArray++((z2.drop i2).take m).flatten.toArray++Builtin.zeroCells zv.cells (grownCap w (n+m) cap e - (n+m))) e))=_
   rw[harr]
  rcases has_slc hvx with⟨b,tt,cap,e1,e2,e3,e4⟩|⟨rfl,ad,e4⟩
  ·rcases hzc with⟨b',tt',ex,c1,c2,c3,c4⟩|⟨c1,_⟩
   ·rw[e1]at c1
    cases c1
    rcases Nat.lt_or_ge cap (n+m)with hlt|hge
    ·refine grow _ cap e4 hlt ?_
     obtain⟨z3,hz3,hrun3,_⟩:=run_first1 (P:=P) hvx (hp.hfk k _ hf) hw1 (by omega)
     intro w' hw'
     have h0:=run_firstCells_some (P:=P) w' te.size n ⟨b,0*te.size,none⟩ n cap ((z.take n).flatten) (by
      rw[flatten_len (s:=te.size) _ (fun u hu=>zw u (List.mem_of_mem_take hu)),List.length_take];congr 1;omega) (by
      intro j u hj
      have hblt:b<w.heap.size:=by
       rcases Nat.lt_or_ge b w.heap.size with h'|h'
       ·exact h'
       ·simp[Array.getElem?_eq_none h']at c2
      have hh:w'.heap[b]? =some (.cells (z.flatten++ex).toArray e (0,0)):=by rw[hw' b hblt];exact c2
      have hadd:(⟨b,0*te.size,none⟩:Addr).add j=⟨b,j,none⟩:=addr_add0 b te.size j
      rw[hadd,cell_of_row w' b j _ e (0,0) hh]
      rw[flatten_take (s:=te.size) _ _ zw]at hj
      have h6:z.flatten[j]? =some u:=by
       rw[List.getElem?_take]at hj
       split at hj
       ·exact hj
       ·cases hj
      have hlt2:j<z.flatten.length:=(List.getElem?_eq_some_iff.1 h6).1
      simp only[List.getElem?_toArray]
      rw[List.getElem?_append_left hlt2]
      exact h6)
     exact h0
    ·-- in place
     have hblt:b<w.heap.size:=by
      rcases Nat.lt_or_ge b w.heap.size with h'|h'
      ·exact h'
      ·simp[Array.getElem?_eq_none h']at c2
     have hr2:=hrun2 w (fun b _=>rfl)
     have hfitc:0*te.size+n*te.size+(((z2.drop i2).take m).flatten).length≤(z.flatten++ex).length:=by
      rw[hnews,c3,Nat.zero_mul,Nat.zero_add,←Nat.add_mul]
      exact Nat.le_trans (Nat.mul_le_mul_right _ hge) (by simpa using e3)
     have hsc:=run_storeCells_at (P:=P) b (n*te.size) e (((z2.drop i2).take m).flatten) 0 (z.flatten++ex).toArray w c2 (by simp only[List.size_toArray];simpa using hfitc) hnone
     have hadd:(⟨b,0*te.size,none⟩:Addr).add (n*te.size)=⟨b,n*te.size,none⟩:=addr_add0 b te.size _
     have hcells:((z.flatten++ex).take (n*te.size+0)++(((z2.drop i2).take m).flatten)++(z.flatten++ex).drop (n*te.size+0+(((z2.drop i2).take m).flatten).length))=
       (z.take n++(z2.drop i2).take m).flatten++(z.flatten++ex).drop (n*te.size+m*te.size):=by
      rw[Nat.add_zero,hnews,List.flatten_append,flatten_take (s:=te.size) _ _ zw,List.take_append_of_le_length (by rw[flatten_len (s:=te.size) _ zw];exact Nat.mul_le_mul_right _ (by omega))]
     rw[hcells]at hsc
     let ρ':Rho:=⟨fun j=>if j=kn then some (b,tt)else ρ.key j,ρ.imm,ρ.glob⟩
     have hle:ρ.Le ρ':=⟨fun j q hq=>by
      show(if j=kn then _ else _)=_
      by_cases hj:j=kn
      ·subst hj;rw[hfresh]at hq;cases hq
      ·rw[if_neg hj];exact hq,fun b o hb=>hb⟩
     refine⟨.slice (some ⟨b,0*te.size,none⟩) (n+m) cap,w.setRow b ((z.take n++(z2.drop i2).take m).flatten++(z.flatten++ex).drop (n*te.size+m*te.size)).toArray,ρ',hcall _ _ ?_, ?_⟩
     ·simp only[Builtin.append_,hts,e4,List.getElem?_toArray,List.getElem?_cons_zero,List.getElem?_cons_succ,Sem.run_bind,run_underlying hu,run_underlying hu2,Result.andThen_ok,he.sizeOf,Sem.run_pure,Bool.false_eq_true,if_false,hlen2,hge,if_true,Bool.not_false,hr2,hadd,hsc]
     ·refine⟨hle,slc_has (.inl ⟨b,tt,cap, ?_,hge,e3,rfl⟩), ?_,⟨rfl,rfl,rfl,by simp[World.setRow], ?_⟩, ?_, ?_, ?_, ?_,fun b o hb=>.inl hb⟩
      ·show(if kn=kn then _ else _)=_
       rw[if_pos rfl]
      ·intro j hj
       show(if j=kn then _ else _)=_
       rw[if_neg]
       rintro rfl
       exact hj _ (List.mem_cons_self ..)
      ·intro q hq hnq
       refine heap_setRow_other fun hqb=>hnq ⟨k,_,tt,List.mem_cons_self .., ?_⟩
       rw[hqb];exact e1
      ·intro j bj hj
       rcases hj with hj|hj
       ·simp only[List.mem_singleton,Prod.mk.injEq]at hj
        obtain⟨rfl,rfl⟩:=hj
        exact .inl rfl
       ·simp only[List.mem_singleton,Prod.mk.injEq]at hj
        obtain⟨rfl,rfl⟩:=hj
        refine .inr (.inl ⟨b,tt,_,(z.flatten++ex).drop (n*te.size+m*te.size), ?_,by rw[Data.obj_cells hrows.notLoop];exact heap_setRow_same c2,hrows.data.mono hle, ?_, ?_⟩)
        ·show(if j=j then _ else _)=_
         rw[if_pos rfl]
        ·have h1:((z.take n++(z2.drop i2).take m).flatten).length=(n+m)*te.size:=by
          rw[flatten_len (s:=te.size) _ (fun u hu=>(List.mem_append.1 hu).elim (fun h=>zw u (List.mem_of_mem_take h)) (hsegw u)),List.length_append,hsegl,List.length_take]
          congr 1
          omega
         rw[List.length_append,h1,List.length_drop,c3,Nat.add_mul]
         rw[hnews,c3]at hfitc
         omega
        ·intro u hu
         have:=List.mem_of_mem_drop hu
         rcases List.mem_append.1 this with h|h
         ·obtain⟨q,hq,hu'⟩:=List.mem_flatten.1 h
          exact hz.one' q hq u hu'
         ·exact c4 u h
      ·intro j c c' h1 h2 h3 h4
       simp only[List.mem_singleton,Prod.mk.injEq]at h1 h2
       rw[h2.2]at h4
       cases h4
      ·intro j bj q hj hq
       simp only[List.mem_singleton,Prod.mk.injEq]at hj
       obtain⟨rfl,rfl⟩:=hj
       have hq':(if j=j then some (b,tt)else ρ.key j)=some q:=hq
       rw[if_pos rfl]at hq'
       cases hq'
       exact .inr ⟨k,_,tt,List.mem_cons_self ..,rfl,e1⟩
      ·intro j bj j' bj' q q' hj hj' hne
       simp only[List.mem_singleton,Prod.mk.injEq]at hj hj'
       exact absurd (hj.1.trans hj'.1.symm) hne
   ·rw[e1]at c1;cases c1
  ·rcases Nat.eq_zero_or_pos m with rfl|hm0
   ·exact absurd hpos (Nat.lt_irrefl 0)
   ·refine grow ad 0 e4 (by omega) ?_
    intro w' _
    cases ad with
    |none=>simp[Builtin.firstCells]
    |some q=>simp[Builtin.firstCells,loadCells,loadCellsFrom]
theorem op_append1n {P:Program} {o:Oper} {fr:List (Nat×SV)} {fk:List (Nat×Blk)} {t t2 e:TypeId} {x y:Operand} {xs:Array Operand} {ts:Array TypeId} {ti ti2 te:TI} {k2 kn i2 m:Nat} {cs2:List SV} {ty2:TypeId} {wr2:Bool} (ho:o.op= .call ⟨.builtin .append,xs,ts⟩) (hxs:xs= #[x,y]) (hts:ts= #[t,t2])
  (hx:EvOK fr x (.val (.slice none 0 0))) (hy:EvOK fr y (.slc k2 te.size i2 m)) (ht:TOK P t ti) (hk:ti.kind= .slc e) (ht2:TOK P t2 ti2) (hk2:ti2.kind= .slc e) (he:TOK P e te)
  (hf2:(k2,⟨ty2,wr2,.one cs2⟩)∈fk) (hw2:allW te.size cs2=true) (hpos:0<m) (hi2:i2=0)
  (hm:m=cs2.length) (hbytes:m*te.bytes≤140737488355328) (h63:m≤9223372036854775807):
  OpOK P o fr fk (.slc kn te.size 0 m) [(kn,⟨e,true,.one cs2⟩)] []:=
 ok_value fun ρ a w hp=>by
  have hvx:=of_has_val (hx ρ a hp.hft)
  have hvy:=hy ρ a hp.hft
  obtain⟨i,zv,i1,i2',i3,i4,i5,i6,i7,_⟩:=he.info
  have hu:=ht.kind;rw[hk]at hu
  have hu2:=ht2.kind;rw[hk2]at hu2
  obtain⟨z2,hz2,hrun2,hlen2⟩:=run_first1 (P:=P) hvy (hp.hfk k2 _ hf2) hw2 (by omega)
  obtain⟨zl2,zw2⟩:=hz2.len
  have hrows:R1 ρ te.size cs2 ((z2.drop i2).take m):=by
   rw[hi2,List.drop_zero,hm,←hz2.len.1,List.take_length];exact hz2
  have hfresh:=hp.fresh kn _ (List.mem_cons_self ..)
  have hsegw:∀u∈(z2.drop i2).take m,u.length=te.size:=fun u hu=>zw2 u (List.mem_of_mem_drop (List.mem_of_mem_take hu))
  have hsegl:((z2.drop i2).take m).length=m:=by rw[List.length_take,List.length_drop];omega
  have hcall:∀v w',(Builtin.append_ ts o.type #[a.eval x,a.eval y]).run P w= .ok v w'→(execOp a.eval o).run P w= .ok (.value v) w':=by
   intro v w' h
   simp only[execOp,ho,resolve,invoke,builtin,hxs,Sem.run_bind,Sem.run_pure,Result.andThen_ok,List.map_toArray,List.map_cons,List.map_nil]
   rw[h]
   rfl
  have zone:∀v∈zv.cells.toList,v.oneCell'=true:=by
   have h1:=(HasZ.len (ρ:=ρ) te.zero _ (zero_has i6)).2
   rw[i5,List.flatMap_def];exact h1
  rcases Nat.eq_zero_or_pos m with rfl|hm0
  ·exact absurd hpos (Nat.lt_irrefl 0)
  ·have h63':¬((0+m:Nat):Int)>IntKind.i64.max:=by
    have:IntKind.i64.max=9223372036854775807:=by decide
    omega
   have hfit:¬Builtin.nextslicecap (0+m) 0*i.bytes>2^48:=by
    have:=growslice_fits (bytes:=te.bytes) (show 0<0+m by omega) (by rw[Nat.zero_add];exact hbytes)
    rw[i3];simpa using this
   have hgc:m≤grownCap w (0+m) 0 e:=by
    simp only[grownCap,Question.cut]
    omega
   have hpost:=post_row (hL:=hrows.notLoop) (ρ:=ρ) (w:=w.drew) (k:=kn) (s:=te.size) (n:=m) (cap:=grownCap w (0+m) 0 e) (ty:=e) (d:=.one cs2) (vs:=((z2.drop i2).take m).flatten) (ex:=(Builtin.zeroCells zv.cells (grownCap w (0+m) 0 e - (0+m))).toList) hfresh hrows.data hgc
    (by
     have h1:(((z2.drop i2).take m).flatten).length=m*te.size:=by rw[flatten_len (s:=te.size) _ hsegw,hsegl]
     rw[List.length_append,h1,Array.length_toList]
     have h2:(Builtin.zeroCells zv.cells (grownCap w (0+m) 0 e - (0+m))).size=(grownCap w (0+m) 0 e - (0+m))*te.size:=by simp[Builtin.zeroCells,i7]
     rw[h2,←Nat.add_mul,show m+(grownCap w (0+m) 0 e - (0+m))=grownCap w (0+m) 0 e from by omega]
     exact Nat.le_refl _) (zeroCells_one zone _)
   refine⟨_,_,_,hcall _ _ ?_,{hpost with pres:=⟨hpost.pres.os,hpost.pres.tape,hpost.pres.output,hpost.pres.size,hpost.pres.block⟩}⟩
   have hcap':¬0+m≤0:=by omega
   have hr2:=hrun2 w.drew (fun b _=>rfl)
   have hti:∀w',(typeInfo e).run P w'= .ok i w':=fun w'=>by simp[typeInfo,i1]
   have hzv:∀w',(Go.zeroValue e).run P w'= .ok zv w':=fun w'=>by simp[Go.zeroValue,typeInfo,i1,i4]
   have hcond:¬(((0+m:Nat):Int)>IntKind.i64.max∧(False∨i.bytes=0)):=fun h=>h63' h.1
   have hforced:(Question.appendCap (0+m) 0 e).forced=false:=rfl
   have hr1:∀w',(Builtin.firstCells te.size 0 (.slice none 0 0)).run P w'= .ok #[] w':=fun w'=>by simp[Builtin.firstCells]
   simp only[Builtin.append_,hts,hvx,List.getElem?_toArray,List.getElem?_cons_zero,List.getElem?_cons_succ,Sem.run_bind,run_underlying hu,run_underlying hu2,Result.andThen_ok,he.sizeOf,Sem.run_pure,Bool.false_eq_true,if_false,hlen2]
   simp only[hcap',if_false,Sem.run_bind,hti,Result.andThen_ok,hcond,hfit,run_choose,hforced,Bool.false_eq_true,World.drew_eq,run_askRoom,hr1,Bool.not_false,if_true,hr2,hzv,newRow,run_newObj,Sem.run_pure,World.alloc_eq]
   have harr:((#[]:Array Value)++((z2.drop i2).take m).flatten.toArray++Builtin.zeroCells zv.cells (grownCap w (0+m) 0 e - (0+m)))=(((z2.drop i2).take m).flatten++(Builtin.zeroCells zv.cells (grownCap w (0+m) 0 e - (0+m))).toList).toArray:=by
    apply Array.ext'
    simp
   show Result.ok (Value.slice (some ⟨w.drew.heap.size,0,none⟩) (0+m) (grownCap w (0+m) 0 e)) (w.drew.alloc (.cells ((#[]:Array Value)++((z2.drop i2).take m).flatten.toArray++Builtin.zeroCells zv.cells (grownCap w (0+m) 0 e - (0+m))) e))=_
   rw[harr,Nat.zero_add]
theorem op_buildSlice1 {P:Program} {o:Oper} {fr:List (Nat×SV)} {fk:List (Nat×Blk)} {t e:TypeId} {len k:Nat} {parts:Array (Nat×Operand)} {ti te:TI} {ps:List (Nat×List SV)} {l:List SV} (ho:o.op= .buildSlice t len parts) (ht:TOK P t ti) (hk:ti.kind= .slc e) (he:TOK P e te)
  (hps:evParts fr parts.toList=some ps) (hb:buildC 64 (fun i=>some (i*te.size,te.size)) (repN len te.zero) ps=some l) (hw:allW te.size l=true) (hln:l.length=len) (hsz:len*te.size≤16777216):
  OpOK P o fr fk (.slc k te.size 0 len) [(k,⟨e,true,.one l⟩)] []:=
 ok_value fun ρ a w hp=>by
  obtain⟨i,z,i1,i2,i3,i4,i5,i6,i7,_⟩:=he.info
  have hu:=ht.kind;rw[hk]at hu
  obtain⟨p1,p2⟩:=evParts_ok hps ρ a hp.hft
  have hz0:=repN_has (zero_has (ρ:=ρ) i6) len
  have hmade:(madeCells z.cells (len*te.size)).toList=((List.replicate len (te.zero.map zcell)).flatten).flatten:=by
   rw[madeCells_flat z.cells te.size i7 len,i5]
   have:∀n,(List.replicate n (te.zero.flatMap zcell)).flatten=((List.replicate n (te.zero.map zcell)).flatten).flatten:=by
    intro n
    induction n with
    |zero=>rfl
    |succ n ih=>rw[List.replicate_succ,List.replicate_succ,List.flatten_cons,List.flatten_cons,List.flatten_append,←ih,List.flatMap_def]
   exact this len
  obtain⟨L',z',e1,e2,e3⟩:=fill_has (ρ:=ρ) ps _ l (parts.toList.map fun p=>(p.1,Act.eval a p.2)) (madeCells z.cells (len*te.size)) _ hb hz0 hmade p1 p2
  have hrows:R1 ρ te.size l z':=⟨e2,allW_spec hw⟩
  have hlen:=hrows.len
  have hmap:(parts.map fun(i,x)=>(i,Act.eval a x)).toList=parts.toList.map fun p=>(p.1,Act.eval a p.2):=by simp
  have hLl:L'=(z'.flatten++[]).toArray:=by rw[List.append_nil,←e3]
  refine⟨_,_,_, ?_,post_row (hL:=hrows.notLoop) (ty:=e) (d:=.one l) (s:=te.size) (n:=len) (cap:=len) (vs:=z'.flatten) (ex:=[]) (hp.fresh k _ (List.mem_cons_self ..)) hrows.data (Nat.le_refl _) ?_ (by simp)⟩
  ·have hsz':¬len*te.size>16777216:=by omega
   by_cases h0:len*te.size=0
   ·have hm:(Array.range 0).map (fun x=>(#[]:Array Value)[x % (#[]:Array Value).size]!)=madeCells z.cells (len*te.size):=by simp[h0,madeCells]
    simp only[execOp,ho,Instr.buildSlice,Sem.run_bind,run_underlying hu,Result.andThen_ok,he.sizeOf,h0,hmap]
    rw[h0]at hm
    simp only[Nat.reducePow,Nat.not_lt_zero,gt_iff_lt,if_false,if_true,Sem.run_bind,Sem.run_pure,Result.andThen_ok,hm]
    rw[h0]at e1
    simp only[e1,Sem.run_bind,newRow,run_newObj,Sem.run_pure,Result.andThen_ok,hLl,World.alloc_eq]
   ·have hm:(Array.range (len*te.size)).map (fun x=>z.cells[x % z.cells.size]!)=madeCells z.cells (len*te.size):=rfl
    have hzv:(Go.zeroValue e).run P w= .ok z w:=by simp[Go.zeroValue,typeInfo,i1,i4]
    simp only[execOp,ho,Instr.buildSlice,Sem.run_bind,run_underlying hu,Result.andThen_ok,he.sizeOf,h0,hmap,Nat.reducePow,hsz',if_false,hzv,Sem.run_pure,hm,e1,newRow,run_newObj,hLl,World.alloc_eq]
  ·rw[List.append_nil,flatten_len _ hlen.2,HasZ_length e2,hln]
   exact Nat.le_refl _
theorem run_firstCV {P:Program} {ρ:Rho} {w:World} {s n:Nat} {vs:List SV} {d:Data} {v:Value} (hv:Has ρ (vecA s vs) v) (himm:∀b o,ρ.imm b=some o→w.heap[b]? =some o)
  (hr:∀z,HasZ (bareR ρ.imm ρ.glob) vs z→(∀x∈vs,x.width=s)→Rows ρ s d z) (hn:n=vs.length):
  ∃z,Rows ρ s d z∧(∀c,c≤n→(Builtin.firstCells s c v).run P w= .ok (((z.drop 0).take c).flatten).toArray w)∧Builtin.lenOf v=Pure.pure n:=by
 subst hn
 rcases has_vec hv with⟨rfl,a,rfl⟩|⟨b,cap,z,pre,ex,ty,fz,h1,h2,h3,h4,h5,h6⟩
 ·refine⟨[],hr [] (by simp only[HasZ]) (fun x hx=>by cases hx),fun c hc=> ?_,rfl⟩
  obtain rfl:c=0:=by simpa using hc
  cases a with
  |none=>simp[Builtin.firstCells]
  |some a=>simp[Builtin.firstCells,loadCells,loadCellsFrom]
 ·have hzr:=hr z h2 h3
  obtain⟨zl,zw⟩:=hzr.len
  have hzl:z.length=vs.length:=HasZ_length h2
  subst h6
  refine⟨z,hzr,fun c hc=> ?_,rfl⟩
  have hh:=himm _ _ h1
  rw[List.drop_zero]
  have hseg:(z.take c).flatten=z.flatten.take (c*s):=flatten_take (s:=s) _ _ zw
  have hlen:(z.take c).flatten.length=c*s:=by
   rw[flatten_len (s:=s) _ (fun u hu=>zw u (List.mem_of_mem_take hu)),List.length_take]
   congr 1
   omega
  refine run_firstCells_some (P:=P) w s c _ vs.length cap _ hlen ?_
  intro j u hj
  have hadd:(⟨b,pre.length,none⟩:Addr).add j=⟨b,pre.length+j,none⟩:=by unfold Addr.add;split<;>simp_all
  rw[hadd,cell_of_row w b (pre.length+j) _ ty fz hh]
  rw[hseg,List.getElem?_take]at hj
  split at hj
  ·have hlt:j<z.flatten.length:=(List.getElem?_eq_some_iff.1 hj).1
   simp only[List.getElem?_toArray]
   rw[List.getElem?_append_right (by omega),Nat.add_sub_cancel_left,List.getElem?_append_left hlt]
   exact hj
  ·cases hj
theorem op_copyV {P:Program} {o:Oper} {fr:List (Nat×SV)} {fk:List (Nat×Blk)} {t t2 e ty:TypeId} {x y:Operand} {xs:Array Operand} {ts:Array TypeId} {ti te:TI} {k i n m c:Nat} {d d' d2:Data} {vs:List SV} (ho:o.op= .call ⟨.builtin .copy,xs,ts⟩) (hxs:xs= #[x,y]) (hts:ts= #[t,t2])
  (hx:EvOK fr x (.slc k te.size i n)) (hy:EvOK fr y (vecA te.size vs)) (hr2:∀(ρ:Rho) z,HasZ (bareR ρ.imm ρ.glob) vs z→(∀x∈vs,x.width=te.size)→Rows ρ te.size d2 z) (ht:TOK P t ti) (hk:ti.kind= .slc e) (he:TOK P e te)
  (hf:(k,⟨ty,true,d⟩)∈fk) (hl:d.live=true) (hw:dwidth d=some te.size)
  (hn:i+n≤dlen d) (hmv:m=vs.length) (hm:0+m≤dlen d2) (hc:c=Nat.min m n) (hd:dcopy d i d2 0 c=some d'):
  OpOK P o fr fk (.val (.int .i64 (c:Nat))) [] [(k,⟨ty,true,d'⟩)]:=
 ok_value fun ρ a w hp=>by
  have hvx:=hx ρ a hp.hft
  have hvy:=hy ρ a hp.hft
  have hu:=ht.kind;rw[hk]at hu
  have hcm:c≤m:=hc▸Nat.min_le_left _ _
  have hcn:c≤n:=hc▸Nat.min_le_right _ _
  obtain⟨z2,hz2,hrun2,hlen2⟩:=run_firstCV (P:=P) (d:=d2) hvy hp.imm (hr2 ρ) hmv
  have hload:=hrun2 c hcm
  obtain⟨zl2,zw2⟩:=hz2.len
  have hsegw:∀u∈(z2.drop 0).take c,u.length=te.size:=fun u hu=>zw2 u (List.mem_of_mem_drop (List.mem_of_mem_take hu))
  have hsegl:((z2.drop 0).take c).length=c:=by rw[List.length_take,List.length_drop];omega
  have hcall:∀v w',(Builtin.copy_ ts o.type #[a.eval x,a.eval y]).run P w= .ok v w'→(execOp a.eval o).run P w= .ok (.value v) w':=by
   intro v w' h
   simp only[execOp,ho,resolve,invoke,builtin,hxs,Sem.run_bind,Sem.run_pure,Result.andThen_ok,List.map_toArray,List.map_cons,List.map_nil]
   rw[h]
   rfl
  have hone:∀v∈(((z2.drop 0).take c).flatten),v.oneCell'=true:=fun u hu=>by
   obtain⟨q,hq,hu⟩:=List.mem_flatten.1 hu
   exact hz2.one' q (List.mem_of_mem_drop (List.mem_of_mem_take hq)) u hu
  rcases has_slc hvx with⟨b,t',cap,e1,e2,e3,hv⟩|⟨rfl,a',hv⟩
  ·obtain⟨z,ex,hz,g1,g2,g3⟩:=rows_at (hp.hfk k _ hf) hl hw e1
   obtain⟨zl,zw⟩:=hz.len
   simp only at zl
   have hrows:=(dcopy_rows hd hz hz2).1
   have hcl:(((z2.drop 0).take c).flatten).length=c*te.size:=by rw[flatten_len _ hsegw,hsegl]
   have hfit:i*te.size+c*te.size≤(z.flatten++ex).length:=by
    have:=Nat.mul_le_mul_right te.size (show i+c≤i+cap by omega)
    rw[Nat.add_mul]at this
    omega
   have hst:=run_storeCells_at (P:=P) b (i*te.size) ty (((z2.drop 0).take c).flatten) 0 (z.flatten++ex).toArray w g1 (by simp only[List.size_toArray];omega) hone
   have hzl:z.flatten.length=z.length*te.size:=flatten_len _ zw
   have hicz:(i+c)*te.size≤z.flatten.length:=by
    rw[hzl];exact Nat.mul_le_mul_right _ (by omega)
   have hiz:i*te.size≤z.flatten.length:=by
    rw[hzl];exact Nat.mul_le_mul_right _ (by omega)
   have hL:(z.flatten++ex).take (i*te.size)++((z2.drop 0).take c).flatten++(z.flatten++ex).drop (i*te.size+(((z2.drop 0).take c).flatten).length)=(z.take i++((z2.drop 0).take c++z.drop (i+c))).flatten++ex:=by
    rw[hcl,←Nat.add_mul,List.take_append_of_le_length hiz,List.drop_append_of_le_length hicz,List.flatten_append,List.flatten_append,flatten_take _ _ zw,flatten_drop _ _ zw]
    simp only[List.append_assoc]
   simp only[Nat.add_zero,hL]at hst
   refine⟨goInt c,w.setRow b ((z.take i++((z2.drop 0).take c++z.drop (i+c))).flatten++ex).toArray,ρ,hcall _ _ ?_, ?_⟩
   ·simp only[Builtin.copy_,hts,hv,List.getElem?_toArray,List.getElem?_cons_zero,List.getElem?_cons_succ,Sem.run_bind,run_underlying hu,Result.andThen_ok,hlen2,Sem.run_pure,he.sizeOf]
    rw[←hc,hload]
    simp only[Result.andThen_ok,hst]
   ·refine⟨.refl ρ,has_val rfl,fun _ _=>rfl,⟨rfl,rfl,rfl,by simp[World.setRow],fun j hj hnj=> ?_⟩,fun j bj hj=> ?_,(fun j c1 c2 h1 h2 h3 h4=> ?_),(fun _ _ _ h=>by cases h),(fun _ _ _ _ _ _ h=>by cases h),fun b o h=>.inl h⟩
    ·refine heap_setRow_other fun hib=>hnj ⟨k,_,t',List.mem_cons_self .., ?_⟩
     rw[hib];exact e1
    ·rcases hj with hj|hj
     ·simp only[List.mem_singleton,Prod.mk.injEq]at hj
      obtain⟨rfl,rfl⟩:=hj
      refine .inr (.inl ⟨b,t',_,ex,e1,by rw[Data.obj_cells hrows.notLoop];exact heap_setRow_same g1,hrows.data, ?_,g3⟩)
      rw[←g2,List.length_append,List.length_append,flatten_len _ hrows.len.2,hzl]
      congr 2
      rw[List.length_append,List.length_append,List.length_take,List.length_drop,hsegl]
      omega
     ·cases hj
    ·simp only[List.mem_singleton,Prod.mk.injEq]at h1 h2
     obtain⟨_,rfl⟩:=h1
     obtain⟨_,rfl⟩:=h2
     rw[h3]at h4;cases h4
  ·obtain rfl:c=0:=by omega
   obtain⟨z,hz,hcase⟩:=blk_rows (hp.hfk k _ hf) hl hw
   have hrows:=(dcopy_rows hd hz hz2).1
   have hsame:z.take i++((z2.drop 0).take 0++z.drop (i+0))=z:=by simp
   rw[hsame]at hrows
   refine⟨goInt 0,w,ρ,hcall _ _ ?_, ?_⟩
   ·simp only[Builtin.copy_,hts,hv,List.getElem?_toArray,List.getElem?_cons_zero,List.getElem?_cons_succ,Sem.run_bind,run_underlying hu,Result.andThen_ok,hlen2,Sem.run_pure,he.sizeOf]
    rw[←hc,hload]
    cases a' with
    |none=>simp[goInt]
    |some a'=>simp[goInt,storeCells]
   ·refine⟨.refl ρ,has_val rfl,fun _ _=>rfl,.refl _ _,fun j bj hj=> ?_,(fun j c1 c2 h1 h2 h3 h4=> ?_),(fun _ _ _ h=>by cases h),(fun _ _ _ _ _ _ h=>by cases h),fun b o h=>.inl h⟩
    ·rcases hj with hj|hj
     ·simp only[List.mem_singleton,Prod.mk.injEq]at hj
      obtain⟨rfl,rfl⟩:=hj
      rcases hcase with⟨b',t',ex,h1,h2,h3,h4⟩|⟨h1,h2⟩
      ·exact .inr (.inl ⟨b',t',_,ex,h1,by rw[Data.obj_cells hrows.notLoop];exact h2,hrows.data,h3,h4⟩)
      ·refine .inr (.inr ⟨h1, ?_⟩)
       exact empty_of hrows (by rw[h2];rfl)
     ·cases hj
    ·simp only[List.mem_singleton,Prod.mk.injEq]at h1 h2
     obtain⟨_,rfl⟩:=h1
     obtain⟨_,rfl⟩:=h2
     rw[h3]at h4;cases h4
end Go.Sx
