/- The texts Fz2. -/
import Derived.Test.YthaeohlijigplaaGreatQLTopFound18
namespace Go.Proofs.YthaeohlijigplaaGreat
open Go.Sx
set_option linter.unusedSimpArgs false
set_option linter.unusedVariables false
set_option maxRecDepth 100000
set_option maxHeartbeats 32000000
def bas (t:T3):Int×Int:=ke t.2.1 t.2.2
def mkA (ts:List T3) (mk:List Int):Nat→MapI
 |0=>[]
 |i+1=>updL (mkA ts mk i) (bas (gt ts (mk.getD i 0).toNat)) 1
def duty (l:MapI) (t:T3):Bool:=decide (getI l (bas t)=0)&&decide (IntKind.i64.wrap (getI l (ke t.1 t.2.1)+getI l (ke t.2.2 t.1))>0)
def firstD (l:MapI) (ts:List T3):Option T3:=ts.find? (duty l)
def cntZ (ts:List T3) (l:MapI):Nat:=(ts.filter fun t=>decide (getI l (bas t)=0)).length
def closeN (ts:List T3):Nat→MapI→MapI
 |0,l=>l
 |f+1,l=>match firstD l ts with
  |none=>l
  |some t=>closeN ts f (updL l (bas t) 1)
theorem getI_upd (l:MapI) (p q:Int×Int) (v:Int):getI (updL l p v) q=if q=p then v else getI l q:=by
 unfold getI;rw[look_updL];split<;>rfl
theorem cntZ_lt {ts:List T3} {l:MapI} {t:T3} (ht:t∈ts) (h:getI l (bas t)=0):cntZ ts (updL l (bas t) 1)<cntZ ts l:=by
 have e:∀u,getI (updL l (bas t) 1) (bas u)=0↔(bas u≠bas t∧getI l (bas u)=0):=fun u=>by
  rw[getI_upd]
  by_cases hu:bas u=bas t
  ·simp[hu]
  ·simp[hu]
 have hle:∀ts:List T3,(ts.filter fun u=>decide (getI (updL l (bas t) 1) (bas u)=0)).length≤(ts.filter fun u=>decide (getI l (bas u)=0)).length:=by
  intro ts
  induction ts with
  |nil=>exact Nat.le_refl _
  |cons u ts ih=>
   rw[List.filter_cons,List.filter_cons]
   by_cases h1:getI l (bas u)=0
   ·rw[if_pos (decide_eq_true h1)]
    split
    ·rw[List.length_cons,List.length_cons];omega
    ·rw[List.length_cons];omega
   ·rw[if_neg (by simpa using fun h2=>h1 ((e u).1 h2).2),if_neg (by simpa using h1)]
    exact ih
 unfold cntZ
 induction ts with
 |nil=>cases ht
 |cons u ts ih=>
  have h2:=hle ts
  rw[List.filter_cons,List.filter_cons]
  by_cases hu:bas u=bas t
  ·rw[if_neg (by simpa using fun h3=>((e u).1 h3).1 hu),if_pos (by rw[hu];exact decide_eq_true h),List.length_cons];omega
  ·have hm:t∈ts:=by
    rcases List.mem_cons.1 ht with rfl|ht
    ·exact absurd rfl hu
    ·exact ht
   have h3:=ih hm
   by_cases h1:getI l (bas u)=0
   ·rw[if_pos (decide_eq_true h1),if_pos (decide_eq_true ((e u).2 ⟨hu,h1⟩)),List.length_cons,List.length_cons];omega
   ·rw[if_neg (by simpa using fun h2=>h1 ((e u).1 h2).2),if_neg (by simpa using h1)];exact h3
theorem closeN_fuel {ts:List T3}:∀(f g:Nat) (l:MapI),cntZ ts l<f→cntZ ts l<g→closeN ts f l=closeN ts g l
 |0,_,_,h,_=>by omega
 |_+1,0,_,_,h=>by omega
 |f+1,g+1,l,hf,hg=>by
  simp only[closeN]
  cases h:firstD l ts with
  |none=>rfl
  |some t=>
   have hm:t∈ts:=List.mem_of_find?_eq_some h
   have hd:duty l t=true:=List.find?_some h
   simp only[duty,Bool.and_eq_true,decide_eq_true_eq]at hd
   have:=cntZ_lt hm hd.1
   exact closeN_fuel f g _ (by omega) (by omega)
def closeL (ts:List T3) (mk:List Int):MapI:=closeN ts (cntZ ts (mkA ts mk mk.length)+1) (mkA ts mk mk.length)
theorem firstD_at {l:MapI} {ts:List T3}:∀{j:Nat},(∀i,i<j→duty l (gt ts i)=false)→j<ts.length→duty l (gt ts j)=true→firstD l ts=some (gt ts j):=by
 intro j h hj hd
 unfold firstD
 rw[List.find?_eq_some_iff_append]
 refine⟨hd,ts.take j,ts.drop (j+1), ?_, ?_⟩
 ·have:gt ts j=ts[j]:=by rw[gt,List.getD_eq_getElem?_getD,List.getElem?_eq_getElem hj];rfl
  rw[this,←List.drop_eq_getElem_cons hj,List.take_append_drop]
 ·intro a ha
  obtain⟨i,hi,rfl⟩:=List.getElem_of_mem ha
  rw[List.getElem_take]
  have hij:i<j:=by rw[List.length_take]at hi;omega
  have:=h i hij
  rw[gt,List.getD_eq_getElem?_getD,List.getElem?_eq_getElem (by omega)]at this
  simpa using this
theorem firstD_none {l:MapI} {ts:List T3} (h:∀i,i<ts.length→duty l (gt ts i)=false):firstD l ts=none:=by
 unfold firstD
 rw[List.find?_eq_none]
 intro a ha
 obtain⟨i,hi,rfl⟩:=List.getElem_of_mem ha
 have:=h i hi
 rw[gt,List.getD_eq_getElem?_getD,List.getElem?_eq_getElem hi]at this
 simpa using this
theorem b_closure (m:Me) (mk:List Int) (hl:m.ts.length<274877906944) (hk:mk.length<274877906944) (hmk:∀i,i<mk.length→0≤mk.getD i 0∧mk.getD i 0<(m.ts.length:Nat)):
  CallOK Tryz.prog 84 [meA m,ivec .i64 mk] [] (.mp 2001) [(2001,⟨0,true,.mp (mE eI (closeL m.ts mk))⟩)] []:=by
 obtain⟨ps,ts,ss⟩:=m
 simp only at*
 refine callK (Z:=[2]) tabOK mixedOK Tryz.func84 rfl (by kernel_rfl) (args:=[meA ⟨ps,ts,ss⟩,ivec .i64 mk]) (fk:=[]) (c:=.mp 11) (new:=[(11,⟨0,true,.mp (mE eI (closeL ts mk))⟩)]) (upd:=[]) (ShapeOK.of rfl rfl rfl rfl rfl rfl rfl rfl rfl rfl rfl) rfl (renBy [(11,2001)]) NamesOK.one ?_
 intro W0 w0 ρ0 hE
 conv=>whnf
 (repeat(first|(refine g_o (op_lenM rfl rfl rfl (ev_ok rfl) (tgt rfl) rfl) ?_;conv=>whnf)|(refine⟨_,[],_,[],op_makeMap (k:=11) rfl,nil_fk,one_new rfl,nil_upd, ?_⟩;conv=>whnf)))
 refine SW_loopN hE (fun k=>k) [2,5,12,13,14] [11] (fun M fr hp=>∃i,M=mk.length - i∧i≤mk.length∧fr=[(2,ptrA [mvec 10 ptA ps,mvec 3 triA ts,mvec 3 triA ss]),(5,.mp 11),(12,ivec .i64 mk),(13,iv (mk.length:Nat)),(14,iv (i:Nat))]∧hp=[(11,⟨0,true,.mp (mE eI (mkA ts mk i))⟩)]) mk.length ?_ ?_ ?_
 ·kernel_rfl
 ·exact⟨0,rfl,by omega,rfl,rfl⟩
 rintro m _ _ ⟨i,rfl,hi,rfl,rfl⟩
 by_cases hlt:i<mk.length
 ·have s1:=dlt hlt
  have wk:=winc (i:=i) (by omega)
  obtain⟨q,hq⟩:∃q,mk.getD i 0=q:=⟨_,rfl⟩
  have hqb:=hmk i hlt
  rw[hq]at hqb
  have t1:decide (q≥0)=true:=decide_eq_true hqb.1
  have t2:decide (q<(ts.length:Nat))=true:=decide_eq_true hqb.2
  obtain⟨a,b,c,hgn⟩:∃a b c,gt ts q.toNat=(a,b,c):=⟨_,_,_,rfl⟩
  have hg:ts.getD q.toNat (0,0,0)=(a,b,c):=hgn
  have kf:=b_of b c
  have hm1:mkA ts mk (i+1)=updL (mkA ts mk i) (ke b c) 1:=by simp only[mkA,hq,hgn,bas]
  conv=>whnf
  (repeat((first|refine step_w1 rfl rfl ?_|refine step_i (by kernel_rfl) ?_|refine g_c (by assumption) ?_|refine g_o (op_pickT rfl (ev_ok rfl) (ev_ok rfl)) ?_|refine g_o (op_lenM rfl rfl rfl (ev_ok rfl) (tgt rfl) rfl) ?_|refine g_o (op_loadA rfl (ev_ok rfl) (tgt rfl) rfl (Nat.succ_ne_zero _) rfl) ?_|refine g_o (op_indexN (α:=Int) (d:=0) rfl (ev_ok rfl) (ev_ok rfl) (tgt rfl) rfl (tgt rfl) rfl (by omega)) ?_|refine g_o (op_fieldA rfl (ev_ok rfl) (tgt rfl) rfl rfl (Nat.succ_ne_zero _) rfl) ?_|refine g_o (op_indexArrA rfl (ev_ok rfl) (ev_ok rfl) (tgt rfl) rfl (tgt rfl) (by omega) (by omega) (Nat.succ_ne_zero _) rfl) ?_|refine g_o (op_indexM (α:=T3) (d:=(0,0,0)) rfl (ev_ok rfl) (ev_ok rfl) (tgt rfl) rfl (tgt rfl) rfl (by omega)) ?_|refine⟨_,[(11,_)],[],[(11,_)],op_mapUpdate eI (p:=ke b c) (v:=1) rfl (ev_ok rfl) (ev_ok rfl) (ev_ok rfl) rfl um_b key_b (List.mem_cons_self ..),one_fk rfl,nil_new,one_upd (List.mem_cons_self ..) rfl rfl rfl, ?_⟩|rw[s1]|rw[hq]|rw[t1]|rw[t2]|rw[hg]|rw[wk]);conv=>whnf))
  exact⟨mk.length - (i+1),fun k=>k,[2,5,12,13,14],[11],by omega,by kernel_rfl,i+1,rfl,by omega,rfl,by rw[hm1];rfl⟩
 ·have s1:=dge hlt
  obtain rfl:i=mk.length:=by omega
  have hfin:closeL ts mk=closeN ts (cntZ ts (mkA ts mk mk.length)+1) (mkA ts mk mk.length):=rfl
  generalize mkA ts mk mk.length=l0 at*
  conv=>whnf
  (repeat(first|(refine step_w2 rfl rfl ?_;conv=>whnf)|(rw[s1];conv=>whnf)))
  refine SW_loopN hE (fun k=>k) [2,5] [11] (fun M fr hp=>∃l,M=cntZ ts l∧closeL ts mk=closeN ts (cntZ ts l+1) l∧fr=[(2,ptrA [mvec 10 ptA ps,mvec 3 triA ts,mvec 3 triA ss]),(5,.mp 11)]∧hp=[(11,⟨0,true,.mp (mE eI l)⟩)]) (cntZ ts l0) ?_ ?_ ?_
  ·kernel_rfl
  ·exact⟨l0,rfl,hfin,rfl,rfl⟩
  rintro m _ _ ⟨l,rfl,hcl,rfl,rfl⟩
  conv=>whnf
  (repeat(first|(refine g_o (op_lenM rfl rfl rfl (ev_ok rfl) (tgt rfl) rfl) ?_;conv=>whnf)|(refine g_o (op_loadA rfl (ev_ok rfl) (tgt rfl) rfl (Nat.succ_ne_zero _) rfl) ?_;conv=>whnf)|(refine g_o (op_fieldA rfl (ev_ok rfl) (tgt rfl) rfl rfl (Nat.succ_ne_zero _) rfl) ?_;conv=>whnf)))
  refine SW_loopN hE (fun k=>k) [2,5,43,44,45] [11] (fun M fr hp=>∃j,M=ts.length - j∧j≤ts.length∧(∀i,i<j→duty l (gt ts i)=false)∧fr=[(2,ptrA [mvec 10 ptA ps,mvec 3 triA ts,mvec 3 triA ss]),(5,.mp 11),(43,mvec 3 triA ts),(44,iv (ts.length:Nat)),(45,iv (j:Nat))]∧hp=[(11,⟨0,true,.mp (mE eI l)⟩)]) ts.length ?_ ?_ ?_
  ·kernel_rfl
  ·exact⟨0,rfl,by omega,by omega,rfl,rfl⟩
  rintro m _ _ ⟨j,rfl,hj,hbe,rfl,rfl⟩
  by_cases hje:j<ts.length
  ·have s2:=dlt hje
   have wk:=winc (i:=j) (by omega)
   obtain⟨a,b,c,hgn⟩:∃a b c,gt ts j=(a,b,c):=⟨_,_,_,rfl⟩
   have hg:ts.getD j (0,0,0)=(a,b,c):=hgn
   have kf1:=b_of b c
   have kf2:=b_of a b
   have kf3:=b_of c a
   have hd:duty l (gt ts j)=(decide (getI l (ke b c)=0)&&decide (IntKind.i64.wrap (getI l (ke a b)+getI l (ke c a))>0)):=by rw[hgn];rfl
   by_cases h1:getI l (ke b c)=0
   ·have u1:((Sx.look l (ke b c)).getD 0==0)=true:=by simpa [getI]using h1
    by_cases h2:IntKind.i64.wrap (getI l (ke a b)+getI l (ke c a))>0
    ·have u2:decide (IntKind.i64.wrap ((Sx.look l (ke a b)).getD 0+(Sx.look l (ke c a)).getD 0)>0)=true:=decide_eq_true h2
     have hd1:duty l (gt ts j)=true:=by rw[hd,decide_eq_true h1,decide_eq_true h2];rfl
     have hdt:getI l (bas (gt ts j))=0:=by rw[hgn];exact h1
     have hmem:gt ts j∈ts:=by rw[gt,List.getD_eq_getElem?_getD,List.getElem?_eq_getElem hje];exact List.getElem_mem hje
     have hcnt:=cntZ_lt hmem hdt
     have hb:bas (gt ts j)=ke b c:=by rw[hgn];rfl
     rw[hb]at hcnt
     have hcl2:closeL ts mk=closeN ts (cntZ ts (updL l (ke b c) 1)+1) (updL l (ke b c) 1):=by
      rw[hcl,closeN,firstD_at hbe hje hd1]
      show closeN ts (cntZ ts l) (updL l (bas (gt ts j)) 1)=_
      rw[hb]
      exact closeN_fuel _ _ _ hcnt (by omega)
     conv=>whnf
     (repeat((first|refine step_w1 rfl rfl ?_|refine step_i (by kernel_rfl) ?_|refine step_oA (by first|omega|decide|(simp only[tl0,dlen,List.length_replicate,List.length_set,List.length_map,List.length_zipWith,List.length_take,List.length_append,List.length_cons,List.length_nil];omega)) ?_|refine g_c (by assumption) ?_|refine g_o (op_pickT rfl (ev_ok rfl) (ev_ok rfl)) ?_|refine g_o (op_loadA rfl (ev_ok rfl) (tgt rfl) rfl (Nat.succ_ne_zero _) rfl) ?_|refine g_o (op_indexM (α:=T3) (d:=(0,0,0)) rfl (ev_ok rfl) (ev_ok rfl) (tgt rfl) rfl (tgt rfl) rfl (by omega)) ?_|refine⟨_,[(11,_)],[],[],op_lookup eI 0 (p:=ke b c) rfl (ev_ok rfl) (ev_ok rfl) rfl um_b key_b zI (List.mem_cons_self ..),one_fk rfl,nil_new,nil_upd, ?_⟩|refine⟨_,[(11,_)],[],[],op_lookup eI 0 (p:=ke a b) rfl (ev_ok rfl) (ev_ok rfl) rfl um_b key_b zI (List.mem_cons_self ..),one_fk rfl,nil_new,nil_upd, ?_⟩|refine⟨_,[(11,_)],[],[],op_lookup eI 0 (p:=ke c a) rfl (ev_ok rfl) (ev_ok rfl) rfl um_b key_b zI (List.mem_cons_self ..),one_fk rfl,nil_new,nil_upd, ?_⟩|refine⟨_,[(11,_)],[],[(11,_)],op_mapUpdate eI (p:=ke b c) (v:=1) rfl (ev_ok rfl) (ev_ok rfl) (ev_ok rfl) rfl um_b key_b (List.mem_cons_self ..),one_fk rfl,nil_new,one_upd (List.mem_cons_self ..) rfl rfl rfl, ?_⟩|rw[s2]|rw[hg]|rw[u1]|rw[u2]|rw[Int.toNat_natCast]|rw[Nat.zero_add]);conv=>whnf))
     exact⟨_,fun k=>k,[2,5],[11],hcnt,by kernel_rfl,_,rfl,hcl2,rfl,rfl⟩
    ·have u2:decide (IntKind.i64.wrap ((Sx.look l (ke a b)).getD 0+(Sx.look l (ke c a)).getD 0)>0)=false:=decide_eq_false h2
     have hd1:duty l (gt ts j)=false:=by rw[hd,decide_eq_false h2,Bool.and_false]
     conv=>whnf
     (repeat((first|refine step_w1 rfl rfl ?_|refine step_w2 rfl rfl ?_|refine step_i (by kernel_rfl) ?_|refine step_oA (by first|omega|decide|(simp only[tl0,dlen,List.length_replicate,List.length_set,List.length_map,List.length_zipWith,List.length_take,List.length_append,List.length_cons,List.length_nil];omega)) ?_|refine g_c (by assumption) ?_|refine g_o (op_pickT rfl (ev_ok rfl) (ev_ok rfl)) ?_|refine g_o (op_loadA rfl (ev_ok rfl) (tgt rfl) rfl (Nat.succ_ne_zero _) rfl) ?_|refine g_o (op_indexM (α:=T3) (d:=(0,0,0)) rfl (ev_ok rfl) (ev_ok rfl) (tgt rfl) rfl (tgt rfl) rfl (by omega)) ?_|refine⟨_,[(11,_)],[],[],op_lookup eI 0 (p:=ke b c) rfl (ev_ok rfl) (ev_ok rfl) rfl um_b key_b zI (List.mem_cons_self ..),one_fk rfl,nil_new,nil_upd, ?_⟩|refine⟨_,[(11,_)],[],[],op_lookup eI 0 (p:=ke a b) rfl (ev_ok rfl) (ev_ok rfl) rfl um_b key_b zI (List.mem_cons_self ..),one_fk rfl,nil_new,nil_upd, ?_⟩|refine⟨_,[(11,_)],[],[],op_lookup eI 0 (p:=ke c a) rfl (ev_ok rfl) (ev_ok rfl) rfl um_b key_b zI (List.mem_cons_self ..),one_fk rfl,nil_new,nil_upd, ?_⟩|rw[s2]|rw[hg]|rw[wk]|rw[u1]|rw[u2]|rw[Int.toNat_natCast]|rw[Nat.zero_add]);conv=>whnf))
     exact⟨ts.length - (j+1),fun k=>k,[2,5,43,44,45],[11],by omega,by kernel_rfl,j+1,rfl,by omega,(fun i hi=>by rcases Nat.lt_succ_iff_lt_or_eq.1 hi with h|rfl;exact hbe i h;exact hd1),rfl,rfl⟩
   ·have u1:((Sx.look l (ke b c)).getD 0==0)=false:=by simpa [getI]using h1
    have hd1:duty l (gt ts j)=false:=by rw[hd,decide_eq_false h1];rfl
    conv=>whnf
    (repeat((first|refine step_w1 rfl rfl ?_|refine step_w2 rfl rfl ?_|refine step_i (by kernel_rfl) ?_|refine step_oA (by first|omega|decide|(simp only[tl0,dlen,List.length_replicate,List.length_set,List.length_map,List.length_zipWith,List.length_take,List.length_append,List.length_cons,List.length_nil];omega)) ?_|refine g_c (by assumption) ?_|refine g_o (op_pickF rfl (ev_ok rfl) (ev_ok rfl)) ?_|refine g_o (op_loadA rfl (ev_ok rfl) (tgt rfl) rfl (Nat.succ_ne_zero _) rfl) ?_|refine g_o (op_indexM (α:=T3) (d:=(0,0,0)) rfl (ev_ok rfl) (ev_ok rfl) (tgt rfl) rfl (tgt rfl) rfl (by omega)) ?_|refine⟨_,[(11,_)],[],[],op_lookup eI 0 (p:=ke b c) rfl (ev_ok rfl) (ev_ok rfl) rfl um_b key_b zI (List.mem_cons_self ..),one_fk rfl,nil_new,nil_upd, ?_⟩|rw[s2]|rw[hg]|rw[wk]|rw[u1]|rw[Int.toNat_natCast]|rw[Nat.zero_add]);conv=>whnf))
    exact⟨ts.length - (j+1),fun k=>k,[2,5,43,44,45],[11],by omega,by kernel_rfl,j+1,rfl,by omega,(fun i hi=>by rcases Nat.lt_succ_iff_lt_or_eq.1 hi with h|rfl;exact hbe i h;exact hd1),rfl,rfl⟩
  ·have s2:=dge hje
   obtain rfl:j=ts.length:=by omega
   have hn:=firstD_none hbe
   have hr:closeL ts mk=l:=by rw[hcl,closeN,hn]
   rw[hr]
   conv=>whnf
   (repeat(first|(refine step_w2 rfl rfl ?_;conv=>whnf)|(rw[s2];conv=>whnf)))
   exact⟨Recast.refl _,(fun q b h=>by simp only[List.mem_singleton,Prod.mk.injEq]at h;obtain⟨rfl,rfl⟩:=h;rfl),(fun _ _ h=>by cases h)⟩
end Go.Proofs.YthaeohlijigplaaGreat
