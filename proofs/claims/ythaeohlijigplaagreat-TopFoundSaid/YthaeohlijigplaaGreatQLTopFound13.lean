/- The texts Fw. -/
import Derived.Test.YthaeohlijigplaaGreatQLTopFound12
import Derived.Test.YthaeohlijigplaaGreatQLTopFound7
namespace Go.Proofs.YthaeohlijigplaaGreat
open Go.Sx
set_option linter.unusedSimpArgs false
set_option linter.unusedVariables false
set_option maxRecDepth 100000
set_option maxHeartbeats 32000000
abbrev MapI:=List ((Int×Int)×Int)
def getI (l:MapI) (p:Int×Int):Int:=(Sx.look l p).getD 0
def cntU (l:MapI) (a b:Int):MapI:=updL l (ke a b) (IntKind.i64.wrap (getI l (ke a b)+1))
def triC (l:MapI) (n:T3):Nat→MapI
 |0=>l
 |1=>cntU l n.1 n.2.1
 |2=>cntU (cntU l n.1 n.2.1) n.2.1 n.2.2
 |_=>cntU (cntU (cntU l n.1 n.2.1) n.2.1 n.2.2) n.2.2 n.1
def mapC (ts:List T3):Nat→MapI
 |0=>[]
 |i+1=>triC (mapC ts i) (gt ts i) 3
def ge (es:List E4) (i:Nat):E4:=es.getD i (0,0,0,0)
def rimA (mc:MapI) (es:List E4):Nat→List T3
 |0=>[]
 |k+1=>if getI mc ((ge es k).1,(ge es k).2.1)=1 then rimA mc es k++[((ge es k).1,(ge es k).2.1,0)]else rimA mc es k
def rimL (ts:List T3):List T3:=rimA (mapC ts ts.length) (edgesL ts) (edgesL ts).length
theorem passI (b:Int):passable (eI.s b)=true:=rfl
theorem rimA_len (mc:MapI) (es:List E4):∀k,(rimA mc es k).length≤k
 |0=>by simp[rimA]
 |k+1=>by
  have:=rimA_len mc es k
  simp only[rimA];split
  ·simp;omega
  ·omega
theorem g_ClipS3 (K n:Nat) (r:List T3):CallOK Tryz.prog 70 [.slc K 3 0 n] [(K,⟨112,true,.seq 3 (r.map triA)⟩)] (.slc K 3 0 n) [] []:=by
 refine CallOK.anyWr ?_
 refine callK (Z:=[]) tabOK mixedOK Tryz.func70 rfl (by kernel_rfl) (args:=[.slc 0 3 0 n]) (fk:=[(0,⟨112,false,.seq 3 (r.map triA)⟩)]) (c:=.slc 0 3 0 n) (new:=[]) (upd:=[]) (ShapeOK.of rfl rfl rfl rfl rfl rfl rfl rfl rfl rfl rfl) rfl (fun _=>K) (NamesOK.ro rfl) ?_
 intro W0 w0 ρ0 hE
 conv=>whnf
 (repeat(first|(refine g_o (op_clip rfl (ev_ok rfl) (ev_ok rfl) (ev_ok rfl) (tgt rfl) rfl (tgt rfl) rfl) ?_;conv=>whnf)))
 exact⟨Recast.refl _,(fun _ _ h=>by cases h),(fun _ _ h=>by cases h)⟩
theorem lookU {t:TypeId} {o:Oper} {ft:List (Nat×SV)} {x y:Operand} {ky:SV} {k:Nat} {ty:TypeId} {wr:Bool} {p:Int×Int} {l:MapI} {v:Int} (ho:o.op= .lookup t x y false) (hx:EvOK ft x (.mp k)) (hy:EvOK ft y ky) (hl:flatC ky=some [.int .i64 p.1,.int .i64 p.2])
  {Kt:TypeId} (hu:Tryz.prog.underlying t=some (.map Kt 3)) (hK:PairKey Tryz.prog Kt):OpOK Tryz.prog o ft [(k,⟨ty,wr,.mp (mE eI (updL l p v))⟩)] (iv v) [] []:=by
 have h:=op_lookup (P:=Tryz.prog) (fk:=[(k,⟨ty,wr,.mp (mE eI (updL l p v))⟩)]) eI 0 ho hx hy hl hu hK zI (List.mem_cons_self ..)
 rw[look_updL,if_pos rfl]at h
 exact h
theorem m_Rim (ps:List Pt) (ts:List T3) (hl:ts.length<274877906944) (hp:ps.length<1099511627776) (h:OkTs ps.length ts) (h0:ts≠[]) (hr:rimL ts≠[]):CallOK Tryz.prog 109 [mvec 10 ptA ps,mvec 3 triA ts] []
  (.slc 2001 3 0 (rimL ts).length) [(2001,⟨112,true,.seq 3 ((rimL ts).map triA)⟩)] []:=by
 have k1:=m_numbered ps.length ts (by omega) h
 have k2:=m_edgesL _ ts hl h h0
 have hel:=edgesL_len ts
 refine callK (Z:=[100011]) tabOK mixedOK Tryz.func109 rfl (by kernel_rfl) (args:=[mvec 10 ptA ps,mvec 3 triA ts]) (fk:=[]) (c:=.slc 2001 3 0 (rimL ts).length) (new:=[(2001,⟨112,true,.seq 3 ((rimL ts).map triA)⟩)]) (upd:=[]) (ShapeOK.of rfl rfl rfl rfl rfl rfl rfl rfl rfl rfl rfl) rfl (fun k=>k) NamesOK.one ?_
 intro W0 w0 ρ0 hE
 conv=>whnf
 (repeat((first|refine step_w2 rfl rfl ?_|refine g_c (by assumption) ?_|refine g_o (op_lenM rfl rfl rfl (ev_ok rfl) (tgt rfl) rfl) ?_|refine⟨_,[],_,[],op_makeMap (k:=19) rfl,nil_fk,one_new rfl,nil_upd, ?_⟩);conv=>whnf))
 refine SW_loopN hE (fun k=>k) [0,1,5,20,21,22] [19] (fun M fr hp=>∃i,M=ts.length - i∧i≤ts.length∧fr=[(0,mvec 10 ptA ps),(1,mvec 3 triA ts),(5,.mp 19),(20,mvec 3 triA ts),(21,iv (ts.length:Nat)),(22,iv (i:Nat))]∧hp=[(19,⟨0,true,.mp (mE eI (mapC ts i))⟩)]) ts.length ?_ ?_ ?_
 ·kernel_rfl
 ·exact⟨0,rfl,by omega,rfl,rfl⟩
 rintro m _ _ ⟨i,rfl,hi,rfl,rfl⟩
 by_cases hlt:i<ts.length
 ·have t1:decide ((i:Int)<(ts.length:Int))=true:=decide_eq_true (by omega)
  obtain⟨a,b,c,hgn⟩:∃a b c,gt ts i=(a,b,c):=⟨_,_,_,rfl⟩
  have hg:ts.getD i (0,0,0)=(a,b,c):=hgn
  conv=>whnf
  (repeat((first|refine step_w1 rfl rfl ?_|refine g_o (op_loadA rfl (ev_ok rfl) (tgt rfl) rfl (Nat.succ_ne_zero _) rfl) ?_|refine g_o (op_indexM (α:=T3) (d:=(0,0,0)) rfl (ev_ok rfl) (ev_ok rfl) (tgt rfl) rfl (tgt rfl) rfl (by omega)) ?_|rw[t1]|rw[hg]|rw[Int.toNat_natCast]);conv=>whnf))
  refine SW_loopN hE (fun k=>k) [0,1,5,7,20,21,22,26] [19,7] (fun M fr hp=>∃j,M=3 - j∧j≤3∧fr=[(0,mvec 10 ptA ps),(1,mvec 3 triA ts),(5,.mp 19),(7,.ptr 7 0 0 0),(20,mvec 3 triA ts),(21,iv (ts.length:Nat)),(22,iv (i:Nat)),(26,iv (j:Nat))]∧
   hp=[(19,⟨0,true,.mp (mE eI (triC (mapC ts i) (a,b,c) j))⟩),(7,⟨84,true,.one [iv a,iv b,iv c]⟩)]) 3 ?_ ?_ ?_
  ·kernel_rfl
  ·exact⟨0,rfl,by decide,rfl,rfl⟩
  rintro m _ _ ⟨j,rfl,hj,rfl,rfl⟩
  obtain rfl|rfl|rfl|rfl:j=0∨j=1∨j=2∨j=3:=by omega
  ·obtain⟨l,hL⟩:∃l,triC (mapC ts i) (a,b,c) 0=l:=⟨_,rfl⟩
   have hE1:triC (mapC ts i) (a,b,c) 1=cntU l a b:=by rw[←hL];rfl
   rw[hL]
   obtain⟨k1,hk1⟩:∃k1,(if b<a then b else a)=k1:=⟨_,rfl⟩
   obtain⟨k2,hk2⟩:∃k2,(if b>a then b else a)=k2:=⟨_,rfl⟩
   have hke:ke a b=(k1,k2):=by rw[←hk1,←hk2];rfl
   unfold cntU at hE1
   rw[hke]at hE1
   conv=>whnf
   (repeat((first|refine step_w1 rfl rfl ?_|refine step_i (by kernel_rfl) ?_|refine step_oA (by first|omega|decide|(simp only[tl0,dlen,List.length_replicate,List.length_set,List.length_map,List.length_zipWith,List.length_take,List.length_append,List.length_cons,List.length_nil];omega)) ?_|refine step_oN (by first|omega|decide|(simp only[tl0,dlen,List.length_replicate,List.length_set,List.length_map,List.length_zipWith,List.length_take,List.length_append,List.length_cons,List.length_nil];omega)) ?_|rw[Int.toNat_natCast]|rw[Nat.zero_add]);conv=>whnf))
   refine SWx_inc hE mixedOK (pre:=[_,_,_,_,_,_,_,_]) rfl (K:=19) 999 (B0:=⟨0,true,.mp (mE eI l)⟩) (B1:=⟨0,true,.mp (mE eI (updL l (k1,k2) (getI l (k1,k2))))⟩) (B2:=⟨0,true,.mp (mE eI (updL l (k1,k2) (IntKind.i64.wrap (getI l (k1,k2)+1))))⟩) (iv (getI l (k1,k2))) (.tup [iv (getI l (k1,k2)),.val (.int .i64 (idxL l (k1,k2):Int))]) .any (by decide) rfl rfl ⟨rfl,rfl,rfl,rfl,rfl⟩ ⟨rfl,rfl,rfl⟩ ⟨rfl,rfl,rfl⟩ ?_
   conv=>whnf
   (repeat(first|(refine step_oE (by first|omega|decide|(simp only[tl0,dlen,List.length_replicate,List.length_set,List.length_map,List.length_zipWith,List.length_take,List.length_append,List.length_cons,List.length_nil];omega)) ?_;conv=>whnf)|(rw[hk1];conv=>whnf)|(rw[hk2];conv=>whnf)))
   refine⟨op_lookup eI 0 (p:=(k1,k2)) rfl (ev_ok rfl) (ev_ok rfl) rfl um_e1 key_e1 zI (List.mem_cons_self ..),lookU (p:=(k1,k2)) rfl (ev_ok rfl) (ev_ok rfl) rfl um_e1 key_e1, ?_⟩
   conv=>whnf
   (repeat(first|(refine step_oE (by first|omega|decide|(simp only[tl0,dlen,List.length_replicate,List.length_set,List.length_map,List.length_zipWith,List.length_take,List.length_append,List.length_cons,List.length_nil];omega)) ?_;conv=>whnf)))
   refine⟨op_mapEntry eI 0 (p:=(k1,k2)) rfl (ev_ok rfl) (ev_ok rfl) rfl um_e1 key_e1 zI passI (List.mem_cons_self ..), ?_⟩
   conv=>whnf
   (repeat(first|(refine step_oE (by first|omega|decide|(simp only[tl0,dlen,List.length_replicate,List.length_set,List.length_map,List.length_zipWith,List.length_take,List.length_append,List.length_cons,List.length_nil];omega)) ?_;conv=>whnf)))
   refine⟨op_entryStore eI (p:=(k1,k2)) (v:=IntKind.i64.wrap (getI l (k1,k2)+1)) rfl (ev_ok rfl) (ev_ok rfl) (ev_ok rfl) (List.mem_cons_self ..), ?_⟩
   conv=>whnf
   (repeat(first|(refine step_i (by kernel_rfl) ?_;conv=>whnf)))
   exact⟨2,fun k=>k,[0,1,5,7,20,21,22,26],[19,7],by omega,by kernel_rfl,1,rfl,by decide,rfl,by rw[hE1];rfl⟩
  ·obtain⟨l,hL⟩:∃l,triC (mapC ts i) (a,b,c) 1=l:=⟨_,rfl⟩
   have hE1:triC (mapC ts i) (a,b,c) 2=cntU l b c:=by rw[←hL];rfl
   rw[hL]
   obtain⟨k1,hk1⟩:∃k1,(if c<b then c else b)=k1:=⟨_,rfl⟩
   obtain⟨k2,hk2⟩:∃k2,(if c>b then c else b)=k2:=⟨_,rfl⟩
   have hke:ke b c=(k1,k2):=by rw[←hk1,←hk2];rfl
   unfold cntU at hE1
   rw[hke]at hE1
   conv=>whnf
   (repeat((first|refine step_w1 rfl rfl ?_|refine step_i (by kernel_rfl) ?_|refine step_oA (by first|omega|decide|(simp only[tl0,dlen,List.length_replicate,List.length_set,List.length_map,List.length_zipWith,List.length_take,List.length_append,List.length_cons,List.length_nil];omega)) ?_|refine step_oN (by first|omega|decide|(simp only[tl0,dlen,List.length_replicate,List.length_set,List.length_map,List.length_zipWith,List.length_take,List.length_append,List.length_cons,List.length_nil];omega)) ?_|rw[Int.toNat_natCast]|rw[Nat.zero_add]);conv=>whnf))
   refine SWx_inc hE mixedOK (pre:=[_,_,_,_,_,_,_,_]) rfl (K:=19) 999 (B0:=⟨0,true,.mp (mE eI l)⟩) (B1:=⟨0,true,.mp (mE eI (updL l (k1,k2) (getI l (k1,k2))))⟩) (B2:=⟨0,true,.mp (mE eI (updL l (k1,k2) (IntKind.i64.wrap (getI l (k1,k2)+1))))⟩) (iv (getI l (k1,k2))) (.tup [iv (getI l (k1,k2)),.val (.int .i64 (idxL l (k1,k2):Int))]) .any (by decide) rfl rfl ⟨rfl,rfl,rfl,rfl,rfl⟩ ⟨rfl,rfl,rfl⟩ ⟨rfl,rfl,rfl⟩ ?_
   conv=>whnf
   (repeat(first|(refine step_oE (by first|omega|decide|(simp only[tl0,dlen,List.length_replicate,List.length_set,List.length_map,List.length_zipWith,List.length_take,List.length_append,List.length_cons,List.length_nil];omega)) ?_;conv=>whnf)|(rw[hk1];conv=>whnf)|(rw[hk2];conv=>whnf)))
   refine⟨op_lookup eI 0 (p:=(k1,k2)) rfl (ev_ok rfl) (ev_ok rfl) rfl um_e1 key_e1 zI (List.mem_cons_self ..),lookU (p:=(k1,k2)) rfl (ev_ok rfl) (ev_ok rfl) rfl um_e1 key_e1, ?_⟩
   conv=>whnf
   (repeat(first|(refine step_oE (by first|omega|decide|(simp only[tl0,dlen,List.length_replicate,List.length_set,List.length_map,List.length_zipWith,List.length_take,List.length_append,List.length_cons,List.length_nil];omega)) ?_;conv=>whnf)))
   refine⟨op_mapEntry eI 0 (p:=(k1,k2)) rfl (ev_ok rfl) (ev_ok rfl) rfl um_e1 key_e1 zI passI (List.mem_cons_self ..), ?_⟩
   conv=>whnf
   (repeat(first|(refine step_oE (by first|omega|decide|(simp only[tl0,dlen,List.length_replicate,List.length_set,List.length_map,List.length_zipWith,List.length_take,List.length_append,List.length_cons,List.length_nil];omega)) ?_;conv=>whnf)))
   refine⟨op_entryStore eI (p:=(k1,k2)) (v:=IntKind.i64.wrap (getI l (k1,k2)+1)) rfl (ev_ok rfl) (ev_ok rfl) (ev_ok rfl) (List.mem_cons_self ..), ?_⟩
   conv=>whnf
   (repeat(first|(refine step_i (by kernel_rfl) ?_;conv=>whnf)))
   exact⟨1,fun k=>k,[0,1,5,7,20,21,22,26],[19,7],by omega,by kernel_rfl,2,rfl,by decide,rfl,by rw[hE1];rfl⟩
  ·obtain⟨l,hL⟩:∃l,triC (mapC ts i) (a,b,c) 2=l:=⟨_,rfl⟩
   have hE1:triC (mapC ts i) (a,b,c) 3=cntU l c a:=by rw[←hL];rfl
   rw[hL]
   obtain⟨k1,hk1⟩:∃k1,(if a<c then a else c)=k1:=⟨_,rfl⟩
   obtain⟨k2,hk2⟩:∃k2,(if a>c then a else c)=k2:=⟨_,rfl⟩
   have hke:ke c a=(k1,k2):=by rw[←hk1,←hk2];rfl
   unfold cntU at hE1
   rw[hke]at hE1
   conv=>whnf
   (repeat((first|refine step_w1 rfl rfl ?_|refine step_i (by kernel_rfl) ?_|refine step_oA (by first|omega|decide|(simp only[tl0,dlen,List.length_replicate,List.length_set,List.length_map,List.length_zipWith,List.length_take,List.length_append,List.length_cons,List.length_nil];omega)) ?_|refine step_oN (by first|omega|decide|(simp only[tl0,dlen,List.length_replicate,List.length_set,List.length_map,List.length_zipWith,List.length_take,List.length_append,List.length_cons,List.length_nil];omega)) ?_|rw[Int.toNat_natCast]|rw[Nat.zero_add]);conv=>whnf))
   refine SWx_inc hE mixedOK (pre:=[_,_,_,_,_,_,_,_]) rfl (K:=19) 999 (B0:=⟨0,true,.mp (mE eI l)⟩) (B1:=⟨0,true,.mp (mE eI (updL l (k1,k2) (getI l (k1,k2))))⟩) (B2:=⟨0,true,.mp (mE eI (updL l (k1,k2) (IntKind.i64.wrap (getI l (k1,k2)+1))))⟩) (iv (getI l (k1,k2))) (.tup [iv (getI l (k1,k2)),.val (.int .i64 (idxL l (k1,k2):Int))]) .any (by decide) rfl rfl ⟨rfl,rfl,rfl,rfl,rfl⟩ ⟨rfl,rfl,rfl⟩ ⟨rfl,rfl,rfl⟩ ?_
   conv=>whnf
   (repeat(first|(refine step_oE (by first|omega|decide|(simp only[tl0,dlen,List.length_replicate,List.length_set,List.length_map,List.length_zipWith,List.length_take,List.length_append,List.length_cons,List.length_nil];omega)) ?_;conv=>whnf)|(rw[hk1];conv=>whnf)|(rw[hk2];conv=>whnf)))
   refine⟨op_lookup eI 0 (p:=(k1,k2)) rfl (ev_ok rfl) (ev_ok rfl) rfl um_e1 key_e1 zI (List.mem_cons_self ..),lookU (p:=(k1,k2)) rfl (ev_ok rfl) (ev_ok rfl) rfl um_e1 key_e1, ?_⟩
   conv=>whnf
   (repeat(first|(refine step_oE (by first|omega|decide|(simp only[tl0,dlen,List.length_replicate,List.length_set,List.length_map,List.length_zipWith,List.length_take,List.length_append,List.length_cons,List.length_nil];omega)) ?_;conv=>whnf)))
   refine⟨op_mapEntry eI 0 (p:=(k1,k2)) rfl (ev_ok rfl) (ev_ok rfl) rfl um_e1 key_e1 zI passI (List.mem_cons_self ..), ?_⟩
   conv=>whnf
   (repeat(first|(refine step_oE (by first|omega|decide|(simp only[tl0,dlen,List.length_replicate,List.length_set,List.length_map,List.length_zipWith,List.length_take,List.length_append,List.length_cons,List.length_nil];omega)) ?_;conv=>whnf)))
   refine⟨op_entryStore eI (p:=(k1,k2)) (v:=IntKind.i64.wrap (getI l (k1,k2)+1)) rfl (ev_ok rfl) (ev_ok rfl) (ev_ok rfl) (List.mem_cons_self ..), ?_⟩
   conv=>whnf
   (repeat(first|(refine step_i (by kernel_rfl) ?_;conv=>whnf)))
   exact⟨0,fun k=>k,[0,1,5,7,20,21,22,26],[19,7],by omega,by kernel_rfl,3,rfl,by decide,rfl,by rw[hE1];rfl⟩
  ·have wi:=winc (i:=i) (by omega)
   conv=>whnf
   (repeat(first|(refine step_w2 rfl rfl ?_;conv=>whnf)|(rw[wi];conv=>whnf)))
   exact⟨ts.length - (i+1),fun k=>k,[0,1,5,20,21,22],[19],by omega,by kernel_rfl,i+1,rfl,by omega,rfl,by simp only[mapC,hgn];rfl⟩
 ·obtain rfl:i=ts.length:=by omega
  have t1:decide ((ts.length:Int)<(ts.length:Int))=false:=decide_eq_false (by omega)
  obtain⟨es,hes⟩:∃es,edgesL ts=es:=⟨_,rfl⟩
  obtain⟨mc,hmc⟩:∃mc,mapC ts ts.length=mc:=⟨_,rfl⟩
  have hrl:rimL ts=rimA mc es es.length:=by rw[←hmc,←hes];rfl
  rw[hrl]at hr ⊢
  rw[hes]at k2 hel
  rw[hmc]
  conv=>whnf
  (repeat((first|refine step_w2 rfl rfl ?_|refine g_c (by assumption) ?_|refine g_o (op_lenM rfl rfl rfl (ev_ok rfl) (tgt rfl) rfl) ?_|rw[t1]);conv=>whnf))
  refine SW_loopN hE (fun k=>k) [5,11,52,53,54] [19] (fun M fr hp=>∃k,M=es.length - k∧k≤es.length∧((rimA mc es k=[]∧fr=[(5,.mp 19),(11,.val (.slice none 0 0)),(52,mvec 4 edA es),(53,iv (es.length:Nat)),(54,iv (k:Nat))]∧hp=[(19,⟨0,true,.mp (mE eI mc)⟩)])∨
   (rimA mc es k≠[]∧fr=[(5,.mp 19),(11,.slc 2001 3 0 (rimA mc es k).length),(52,mvec 4 edA es),(53,iv (es.length:Nat)),(54,iv (k:Nat))]∧hp=[(19,⟨0,true,.mp (mE eI mc)⟩),(2001,⟨112,true,.seq 3 ((rimA mc es k).map triA)⟩)]))) es.length ?_ ?_ ?_
  ·kernel_rfl
  ·exact⟨0,rfl,by omega,.inl ⟨rfl,rfl,rfl⟩⟩
  rintro m _ _ ⟨k,rfl,hk,hst⟩
  by_cases hke:k<es.length
  ·have s1:=dlt hke
   have wk:=winc (i:=k) (by omega)
   obtain⟨x,y,u,v,hgn⟩:∃x y u v,ge es k=(x,y,u,v):=⟨_,_,_,_,rfl⟩
   have hg:es.getD k (0,0,0,0)=(x,y,u,v):=hgn
   have hrk:=rimA_len mc es k
   by_cases hc:getI mc (x,y)=1
   ·have hn:rimA mc es (k+1)=rimA mc es k++[(x,y,0)]:=by simp only[rimA,hgn,hc,if_true]
    have t2:((Sx.look mc (x,y)).getD 0==1)=true:=by simpa [getI]using hc
    rcases hst with⟨hr0,rfl,rfl⟩|⟨hr0,rfl,rfl⟩
    ·conv=>whnf
     (repeat(first|(refine step_w1 rfl rfl ?_;conv=>whnf)|(refine g_o (op_loadA rfl (ev_ok rfl) (tgt rfl) rfl (Nat.succ_ne_zero _) rfl) ?_;conv=>whnf)|(refine g_o (op_indexM (α:=E4) (d:=(0,0,0,0)) rfl (ev_ok rfl) (ev_ok rfl) (tgt rfl) rfl (tgt rfl) rfl (by omega)) ?_;conv=>whnf)|(refine⟨_,[(19,_)],[],[],op_lookup eI 0 (p:=(x,y)) rfl (ev_ok rfl) (ev_ok rfl) rfl um_e1 key_e1 zI (List.mem_cons_self ..),one_fk rfl,nil_new,nil_upd, ?_⟩;conv=>whnf)|(refine⟨⟨by simp[dlen],by simp only[tiB112];omega,by omega⟩, ?_⟩;conv=>whnf)|(rw[s1];conv=>whnf)|(rw[hg];conv=>whnf)|(rw[t2];conv=>whnf)|(rw[wk];conv=>whnf)|(rw[Int.toNat_natCast];conv=>whnf)|(rw[Nat.zero_add];conv=>whnf)))
     exact⟨es.length - (k+1),renBy [(73,2001)],[5,11,52,53,54],[19,73],by omega,by kernel_rfl,k+1,rfl,by omega,.inr ⟨by rw[hn];simp,by rw[hn,hr0];rfl,by rw[hn,hr0];rfl⟩⟩
    ·conv=>whnf
     (repeat(first|(refine step_w1 rfl rfl ?_;conv=>whnf)|(refine g_o (op_loadA rfl (ev_ok rfl) (tgt rfl) rfl (Nat.succ_ne_zero _) rfl) ?_;conv=>whnf)|(refine g_o (op_indexM (α:=E4) (d:=(0,0,0,0)) rfl (ev_ok rfl) (ev_ok rfl) (tgt rfl) rfl (tgt rfl) rfl (by omega)) ?_;conv=>whnf)|(refine⟨_,[(19,_)],[],[],op_lookup eI 0 (p:=(x,y)) rfl (ev_ok rfl) (ev_ok rfl) rfl um_e1 key_e1 zI (List.mem_cons_self ..),one_fk rfl,nil_new,nil_upd, ?_⟩;conv=>whnf)|(refine⟨⟨by simp[dlen],by simp[dlen],by simp only[tiB112];omega,by omega⟩, ?_⟩;conv=>whnf)|(rw[s1];conv=>whnf)|(rw[hg];conv=>whnf)|(rw[t2];conv=>whnf)|(rw[wk];conv=>whnf)|(rw[Int.toNat_natCast];conv=>whnf)|(rw[Nat.zero_add];conv=>whnf)))
     have e:List.take (rimA mc es k).length (List.map triA (rimA mc es k))=List.map triA (rimA mc es k):=List.take_of_length_le (by simp)
     refine⟨es.length - (k+1),renBy [(73,2001)],[5,11,52,53,54],[19,73],by omega,by kernel_rfl,k+1,rfl,by omega,.inr ⟨by rw[hn];simp,by rw[hn,List.length_append];rfl, ?_⟩⟩
     rw[hn,List.map_append]
     conv=>rhs;rw[←e]
     rfl
   ·have hn:rimA mc es (k+1)=rimA mc es k:=by simp only[rimA,hgn,hc,if_false]
    have t2:((Sx.look mc (x,y)).getD 0==1)=false:=by simpa [getI]using hc
    rcases hst with⟨hr0,rfl,rfl⟩|⟨hr0,rfl,rfl⟩
    ·conv=>whnf
     (repeat((first|refine step_w1 rfl rfl ?_|refine step_w2 rfl rfl ?_|refine g_o (op_loadA rfl (ev_ok rfl) (tgt rfl) rfl (Nat.succ_ne_zero _) rfl) ?_|refine g_o (op_indexM (α:=E4) (d:=(0,0,0,0)) rfl (ev_ok rfl) (ev_ok rfl) (tgt rfl) rfl (tgt rfl) rfl (by omega)) ?_|refine⟨_,[(19,_)],[],[],op_lookup eI 0 (p:=(x,y)) rfl (ev_ok rfl) (ev_ok rfl) rfl um_e1 key_e1 zI (List.mem_cons_self ..),one_fk rfl,nil_new,nil_upd, ?_⟩|rw[s1]|rw[hg]|rw[t2]|rw[wk]|rw[Int.toNat_natCast]|rw[Nat.zero_add]);conv=>whnf))
     exact⟨es.length - (k+1),fun k=>k,[5,11,52,53,54],[19],by omega,by kernel_rfl,k+1,rfl,by omega,.inl ⟨by rw[hn];exact hr0,rfl,rfl⟩⟩
    ·conv=>whnf
     (repeat((first|refine step_w1 rfl rfl ?_|refine step_w2 rfl rfl ?_|refine g_o (op_loadA rfl (ev_ok rfl) (tgt rfl) rfl (Nat.succ_ne_zero _) rfl) ?_|refine g_o (op_indexM (α:=E4) (d:=(0,0,0,0)) rfl (ev_ok rfl) (ev_ok rfl) (tgt rfl) rfl (tgt rfl) rfl (by omega)) ?_|refine⟨_,[(19,_)],[],[],op_lookup eI 0 (p:=(x,y)) rfl (ev_ok rfl) (ev_ok rfl) rfl um_e1 key_e1 zI (List.mem_cons_self ..),one_fk rfl,nil_new,nil_upd, ?_⟩|rw[s1]|rw[hg]|rw[t2]|rw[wk]|rw[Int.toNat_natCast]|rw[Nat.zero_add]);conv=>whnf))
     exact⟨es.length - (k+1),fun k=>k,[5,11,52,53,54],[19,2001],by omega,by kernel_rfl,k+1,rfl,by omega,.inr ⟨by rw[hn];exact hr0,by rw[hn];rfl,by rw[hn];rfl⟩⟩
  ·have s1:=dge hke
   obtain rfl:k=es.length:=by omega
   rcases hst with⟨hr0,_⟩|⟨hr0,rfl,rfl⟩
   ·exact absurd hr0 hr
   ·have kc:=g_ClipS3 2001 (rimA mc es es.length).length (rimA mc es es.length)
    conv=>whnf
    (repeat(first|(refine step_w2 rfl rfl ?_;conv=>whnf)|(refine g_c1 (by assumption) rfl ?_;conv=>whnf)|(rw[s1];conv=>whnf)))
    exact⟨Recast.refl _,(fun q b h=>by simp only[List.mem_singleton,Prod.mk.injEq]at h;obtain⟨rfl,rfl⟩:=h;rfl),(fun _ _ h=>by cases h)⟩
end Go.Proofs.YthaeohlijigplaaGreat
