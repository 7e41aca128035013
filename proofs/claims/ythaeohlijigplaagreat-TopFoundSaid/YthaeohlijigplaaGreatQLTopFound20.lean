/- The texts Fz3, Fi5. -/
import Derived.Test.YthaeohlijigplaaGreatQLTopFound19
import Derived.Test.YthaeohlijigplaaGreatQLTopFound7
namespace Go.Proofs.YthaeohlijigplaaGreat
open Go.Sx
set_option linter.unusedSimpArgs false
set_option linter.unusedVariables false
set_option maxRecDepth 100000
set_option maxHeartbeats 32000000
def cutA (hm:MapI) (es:List E4):Nat→List E4
 |0=>[]
 |k+1=>if getI hm ((ge es k).1,(ge es k).2.1)>0 then cutA hm es k++[ge es k]else cutA hm es k
theorem cutA_len (hm:MapI) (es:List E4):∀k,(cutA hm es k).length≤k
 |0=>by simp[cutA]
 |k+1=>by
  have:=cutA_len hm es k
  simp only[cutA];split
  ·simp;omega
  ·omega
theorem g_ClipE3 (K n:Nat) (r:List E4):CallOK Tryz.prog 116 [.slc K 4 0 n] [(K,⟨154,true,.seq 4 (r.map edA)⟩)] (.slc K 4 0 n) [] []:=by
 refine CallOK.anyWr ?_
 refine callK (Z:=[]) tabOK mixedOK Tryz.func116 rfl (by kernel_rfl) (args:=[.slc 0 4 0 n]) (fk:=[(0,⟨154,false,.seq 4 (r.map edA)⟩)]) (c:=.slc 0 4 0 n) (new:=[]) (upd:=[]) (ShapeOK.of rfl rfl rfl rfl rfl rfl rfl rfl rfl rfl rfl) rfl (fun _=>K) (NamesOK.ro rfl) ?_
 intro W0 w0 ρ0 hE
 conv=>whnf
 (repeat(first|(refine g_o (op_clip rfl (ev_ok rfl) (ev_ok rfl) (ev_ok rfl) (tgt rfl) rfl (tgt rfl) rfl) ?_;conv=>whnf)))
 exact⟨Recast.refl _,(fun _ _ h=>by cases h),(fun _ _ h=>by cases h)⟩
theorem b_edges (m:Me) (hm:MapI) (hf:m.Fit) (hl:m.ts.length<274877906944) (h:OkTs m.ps.length m.ts) (h0:m.ts≠[]) (hr:cutA hm (edgesL m.ts) (edgesL m.ts).length≠[]):
  CallOK Tryz.prog 83 [meA m,.mp 2001] [(2001,⟨0,true,.mp (mE eI hm)⟩)] (.slc 2002 4 0 (cutA hm (edgesL m.ts) (edgesL m.ts).length).length) [(2002,⟨154,true,.seq 4 ((cutA hm (edgesL m.ts) (edgesL m.ts).length).map edA)⟩)] []:=by
 refine CallOK.anyWr ?_
 have ke1:=m_Edges m hf hl h h0
 have hel:=edgesL_len m.ts
 refine callK (Z:=[2]) tabOK mixedOK Tryz.func83 rfl (by kernel_rfl) (args:=[meA m,.mp 2001]) (fk:=[(2001,⟨0,false,.mp (mE eI hm)⟩)]) (c:=.slc 2002 4 0 (cutA hm (edgesL m.ts) (edgesL m.ts).length).length) (new:=[(2002,⟨154,true,.seq 4 ((cutA hm (edgesL m.ts) (edgesL m.ts).length).map edA)⟩)]) (upd:=[]) (ShapeOK.of rfl rfl rfl rfl rfl rfl rfl rfl rfl rfl rfl) rfl (fun k=>k) (NamesOK.roNew rfl (by simp[keysOf])) ?_
 generalize edgesL m.ts=es at*
 obtain⟨ps,ts,ss⟩:=m
 simp only at hel hl
 intro W0 w0 ρ0 hE
 conv=>whnf
 (repeat(first|(refine g_c (by assumption) ?_;conv=>whnf)|(refine g_o (op_lenM rfl rfl rfl (ev_ok rfl) (tgt rfl) rfl) ?_;conv=>whnf)|(refine g_o (op_loadA rfl (ev_ok rfl) (tgt rfl) rfl (Nat.succ_ne_zero _) rfl) ?_;conv=>whnf)))
 refine SW_loopN hE (fun k=>k) [1,5,9,10,11] [2001] (fun M fr hp=>∃k,M=es.length - k∧k≤es.length∧((cutA hm es k=[]∧fr=[(1,.mp 2001),(5,.val (.slice none 0 0)),(9,mvec 4 edA es),(10,iv (es.length:Nat)),(11,iv (k:Nat))]∧hp=[(2001,⟨0,false,.mp (mE eI hm)⟩)])∨
   (cutA hm es k≠[]∧fr=[(1,.mp 2001),(5,.slc 2002 4 0 (cutA hm es k).length),(9,mvec 4 edA es),(10,iv (es.length:Nat)),(11,iv (k:Nat))]∧hp=[(2001,⟨0,false,.mp (mE eI hm)⟩),(2002,⟨154,true,.seq 4 ((cutA hm es k).map edA)⟩)]))) es.length ?_ ?_ ?_
 ·kernel_rfl
 ·exact⟨0,rfl,by omega,.inl ⟨rfl,rfl,rfl⟩⟩
 rintro M _ _ ⟨k,rfl,hk,hst⟩
 by_cases hke:k<es.length
 ·have s1:=dlt hke
  have wk:=winc (i:=k) (by omega)
  obtain⟨x,y,u,v,hgn⟩:∃x y u v,ge es k=(x,y,u,v):=⟨_,_,_,_,rfl⟩
  have hg:es.getD k (0,0,0,0)=(x,y,u,v):=hgn
  have hrk:=cutA_len hm es k
  by_cases hc:getI hm (x,y)>0
  ·have hn:cutA hm es (k+1)=cutA hm es k++[(x,y,u,v)]:=by simp only[cutA,hgn,hc,if_true]
   have t2:decide ((Sx.look hm (x,y)).getD 0>0)=true:=decide_eq_true hc
   rcases hst with⟨hr0,rfl,rfl⟩|⟨hr0,rfl,rfl⟩
   ·conv=>whnf
    (repeat(first|(refine step_w1 rfl rfl ?_;conv=>whnf)|(refine g_o (op_loadA rfl (ev_ok rfl) (tgt rfl) rfl (Nat.succ_ne_zero _) rfl) ?_;conv=>whnf)|(refine g_o (op_indexM (α:=E4) (d:=(0,0,0,0)) rfl (ev_ok rfl) (ev_ok rfl) (tgt rfl) rfl (tgt rfl) rfl (by omega)) ?_;conv=>whnf)|(refine⟨_,[(2001,_)],[],[],op_lookup eI 0 (p:=(x,y)) rfl (ev_ok rfl) (ev_ok rfl) rfl um_b key_b zI (List.mem_cons_self ..),one_fk rfl,nil_new,nil_upd, ?_⟩;conv=>whnf)|(refine⟨⟨by simp[dlen],by simp only[tiB154];omega,by omega⟩, ?_⟩;conv=>whnf)|(rw[s1];conv=>whnf)|(rw[hg];conv=>whnf)|(rw[t2];conv=>whnf)|(rw[wk];conv=>whnf)|(rw[Int.toNat_natCast];conv=>whnf)|(rw[Nat.zero_add];conv=>whnf)))
    exact⟨es.length - (k+1),renBy [(26,2002)],[1,5,9,10,11],[2001,26],by omega,by kernel_rfl,k+1,rfl,by omega,.inr ⟨by rw[hn];simp,by rw[hn,hr0];rfl,by rw[hn,hr0];rfl⟩⟩
   ·conv=>whnf
    (repeat(first|(refine step_w1 rfl rfl ?_;conv=>whnf)|(refine g_o (op_loadA rfl (ev_ok rfl) (tgt rfl) rfl (Nat.succ_ne_zero _) rfl) ?_;conv=>whnf)|(refine g_o (op_indexM (α:=E4) (d:=(0,0,0,0)) rfl (ev_ok rfl) (ev_ok rfl) (tgt rfl) rfl (tgt rfl) rfl (by omega)) ?_;conv=>whnf)|(refine⟨_,[(2001,_)],[],[],op_lookup eI 0 (p:=(x,y)) rfl (ev_ok rfl) (ev_ok rfl) rfl um_b key_b zI (List.mem_cons_self ..),one_fk rfl,nil_new,nil_upd, ?_⟩;conv=>whnf)|(refine⟨⟨by simp[dlen],by simp[dlen],by simp only[tiB154];omega,by omega⟩, ?_⟩;conv=>whnf)|(rw[s1];conv=>whnf)|(rw[hg];conv=>whnf)|(rw[t2];conv=>whnf)|(rw[wk];conv=>whnf)|(rw[Int.toNat_natCast];conv=>whnf)|(rw[Nat.zero_add];conv=>whnf)))
    have e:List.take (cutA hm es k).length (List.map edA (cutA hm es k))=List.map edA (cutA hm es k):=List.take_of_length_le (by simp)
    refine⟨es.length - (k+1),renBy [(26,2002)],[1,5,9,10,11],[2001,26],by omega,by kernel_rfl,k+1,rfl,by omega,.inr ⟨by rw[hn];simp,by rw[hn,List.length_append];rfl, ?_⟩⟩
    rw[hn,List.map_append]
    conv=>rhs;rw[←e]
    rfl
  ·have hn:cutA hm es (k+1)=cutA hm es k:=by simp only[cutA,hgn,hc,if_false]
   have t2:decide ((Sx.look hm (x,y)).getD 0>0)=false:=decide_eq_false hc
   rcases hst with⟨hr0,rfl,rfl⟩|⟨hr0,rfl,rfl⟩
   ·conv=>whnf
    (repeat((first|refine step_w1 rfl rfl ?_|refine step_w2 rfl rfl ?_|refine g_o (op_loadA rfl (ev_ok rfl) (tgt rfl) rfl (Nat.succ_ne_zero _) rfl) ?_|refine g_o (op_indexM (α:=E4) (d:=(0,0,0,0)) rfl (ev_ok rfl) (ev_ok rfl) (tgt rfl) rfl (tgt rfl) rfl (by omega)) ?_|refine⟨_,[(2001,_)],[],[],op_lookup eI 0 (p:=(x,y)) rfl (ev_ok rfl) (ev_ok rfl) rfl um_b key_b zI (List.mem_cons_self ..),one_fk rfl,nil_new,nil_upd, ?_⟩|rw[s1]|rw[hg]|rw[t2]|rw[wk]|rw[Int.toNat_natCast]|rw[Nat.zero_add]);conv=>whnf))
    exact⟨es.length - (k+1),fun k=>k,[1,5,9,10,11],[2001],by omega,by kernel_rfl,k+1,rfl,by omega,.inl ⟨by rw[hn];exact hr0,rfl,rfl⟩⟩
   ·conv=>whnf
    (repeat((first|refine step_w1 rfl rfl ?_|refine step_w2 rfl rfl ?_|refine g_o (op_loadA rfl (ev_ok rfl) (tgt rfl) rfl (Nat.succ_ne_zero _) rfl) ?_|refine g_o (op_indexM (α:=E4) (d:=(0,0,0,0)) rfl (ev_ok rfl) (ev_ok rfl) (tgt rfl) rfl (tgt rfl) rfl (by omega)) ?_|refine⟨_,[(2001,_)],[],[],op_lookup eI 0 (p:=(x,y)) rfl (ev_ok rfl) (ev_ok rfl) rfl um_b key_b zI (List.mem_cons_self ..),one_fk rfl,nil_new,nil_upd, ?_⟩|rw[s1]|rw[hg]|rw[t2]|rw[wk]|rw[Int.toNat_natCast]|rw[Nat.zero_add]);conv=>whnf))
    exact⟨es.length - (k+1),fun k=>k,[1,5,9,10,11],[2001,2002],by omega,by kernel_rfl,k+1,rfl,by omega,.inr ⟨by rw[hn];exact hr0,by rw[hn];rfl,by rw[hn];rfl⟩⟩
 ·have s1:=dge hke
  obtain rfl:k=es.length:=by omega
  rcases hst with⟨hr0,_⟩|⟨hr0,rfl,rfl⟩
  ·exact absurd hr0 hr
  ·have kc:=g_ClipE3 2002 (cutA hm es es.length).length (cutA hm es es.length)
   conv=>whnf
   (repeat(first|(refine step_w2 rfl rfl ?_;conv=>whnf)|(refine g_c1 (by assumption) rfl ?_;conv=>whnf)|(rw[s1];conv=>whnf)))
   exact⟨Recast.refl _,(fun q b h=>by simp only[List.mem_singleton,Prod.mk.injEq]at h;obtain⟨rfl,rfl⟩:=h;rfl),(fun _ _ h=>by cases h)⟩
theorem b_edges0 (m:Me) (hm:MapI) (hf:m.Fit) (hl:m.ts.length<274877906944) (h:OkTs m.ps.length m.ts) (h0:m.ts≠[]) (hr:cutA hm (edgesL m.ts) (edgesL m.ts).length=[]):
  CallOK Tryz.prog 83 [meA m,.mp 2001] [(2001,⟨0,true,.mp (mE eI hm)⟩)] (mvec 4 edA []) [] []:=by
 refine CallOK.anyWr ?_
 have ke1:=m_Edges m hf hl h h0
 have hel:=edgesL_len m.ts
 refine callK (Z:=[2]) tabOK mixedOK Tryz.func83 rfl (by kernel_rfl) (args:=[meA m,.mp 2001]) (fk:=[(2001,⟨0,false,.mp (mE eI hm)⟩)]) (c:=mvec 4 edA []) (new:=[]) (upd:=[]) (ShapeOK.of rfl rfl rfl rfl rfl rfl rfl rfl rfl rfl rfl) rfl (fun k=>k) (NamesOK.ro rfl) ?_
 generalize edgesL m.ts=es at*
 obtain⟨ps,ts,ss⟩:=m
 simp only at hel hl
 intro W0 w0 ρ0 hE
 conv=>whnf
 (repeat(first|(refine g_c (by assumption) ?_;conv=>whnf)|(refine g_o (op_lenM rfl rfl rfl (ev_ok rfl) (tgt rfl) rfl) ?_;conv=>whnf)|(refine g_o (op_loadA rfl (ev_ok rfl) (tgt rfl) rfl (Nat.succ_ne_zero _) rfl) ?_;conv=>whnf)))
 refine SW_loopN hE (fun k=>k) [1,5,9,10,11] [2001] (fun M fr hp=>∃k,M=es.length - k∧k≤es.length∧((cutA hm es k=[]∧fr=[(1,.mp 2001),(5,.val (.slice none 0 0)),(9,mvec 4 edA es),(10,iv (es.length:Nat)),(11,iv (k:Nat))]∧hp=[(2001,⟨0,false,.mp (mE eI hm)⟩)])∨
   (cutA hm es k≠[]∧fr=[(1,.mp 2001),(5,.slc 2002 4 0 (cutA hm es k).length),(9,mvec 4 edA es),(10,iv (es.length:Nat)),(11,iv (k:Nat))]∧hp=[(2001,⟨0,false,.mp (mE eI hm)⟩),(2002,⟨154,true,.seq 4 ((cutA hm es k).map edA)⟩)]))) es.length ?_ ?_ ?_
 ·kernel_rfl
 ·exact⟨0,rfl,by omega,.inl ⟨rfl,rfl,rfl⟩⟩
 rintro M _ _ ⟨k,rfl,hk,hst⟩
 by_cases hke:k<es.length
 ·have s1:=dlt hke
  have wk:=winc (i:=k) (by omega)
  obtain⟨x,y,u,v,hgn⟩:∃x y u v,ge es k=(x,y,u,v):=⟨_,_,_,_,rfl⟩
  have hg:es.getD k (0,0,0,0)=(x,y,u,v):=hgn
  have hrk:=cutA_len hm es k
  by_cases hc:getI hm (x,y)>0
  ·have hn:cutA hm es (k+1)=cutA hm es k++[(x,y,u,v)]:=by simp only[cutA,hgn,hc,if_true]
   have t2:decide ((Sx.look hm (x,y)).getD 0>0)=true:=decide_eq_true hc
   rcases hst with⟨hr0,rfl,rfl⟩|⟨hr0,rfl,rfl⟩
   ·conv=>whnf
    (repeat(first|(refine step_w1 rfl rfl ?_;conv=>whnf)|(refine g_o (op_loadA rfl (ev_ok rfl) (tgt rfl) rfl (Nat.succ_ne_zero _) rfl) ?_;conv=>whnf)|(refine g_o (op_indexM (α:=E4) (d:=(0,0,0,0)) rfl (ev_ok rfl) (ev_ok rfl) (tgt rfl) rfl (tgt rfl) rfl (by omega)) ?_;conv=>whnf)|(refine⟨_,[(2001,_)],[],[],op_lookup eI 0 (p:=(x,y)) rfl (ev_ok rfl) (ev_ok rfl) rfl um_b key_b zI (List.mem_cons_self ..),one_fk rfl,nil_new,nil_upd, ?_⟩;conv=>whnf)|(refine⟨⟨by simp[dlen],by simp only[tiB154];omega,by omega⟩, ?_⟩;conv=>whnf)|(rw[s1];conv=>whnf)|(rw[hg];conv=>whnf)|(rw[t2];conv=>whnf)|(rw[wk];conv=>whnf)|(rw[Int.toNat_natCast];conv=>whnf)|(rw[Nat.zero_add];conv=>whnf)))
    exact⟨es.length - (k+1),renBy [(26,2002)],[1,5,9,10,11],[2001,26],by omega,by kernel_rfl,k+1,rfl,by omega,.inr ⟨by rw[hn];simp,by rw[hn,hr0];rfl,by rw[hn,hr0];rfl⟩⟩
   ·conv=>whnf
    (repeat(first|(refine step_w1 rfl rfl ?_;conv=>whnf)|(refine g_o (op_loadA rfl (ev_ok rfl) (tgt rfl) rfl (Nat.succ_ne_zero _) rfl) ?_;conv=>whnf)|(refine g_o (op_indexM (α:=E4) (d:=(0,0,0,0)) rfl (ev_ok rfl) (ev_ok rfl) (tgt rfl) rfl (tgt rfl) rfl (by omega)) ?_;conv=>whnf)|(refine⟨_,[(2001,_)],[],[],op_lookup eI 0 (p:=(x,y)) rfl (ev_ok rfl) (ev_ok rfl) rfl um_b key_b zI (List.mem_cons_self ..),one_fk rfl,nil_new,nil_upd, ?_⟩;conv=>whnf)|(refine⟨⟨by simp[dlen],by simp[dlen],by simp only[tiB154];omega,by omega⟩, ?_⟩;conv=>whnf)|(rw[s1];conv=>whnf)|(rw[hg];conv=>whnf)|(rw[t2];conv=>whnf)|(rw[wk];conv=>whnf)|(rw[Int.toNat_natCast];conv=>whnf)|(rw[Nat.zero_add];conv=>whnf)))
    have e:List.take (cutA hm es k).length (List.map edA (cutA hm es k))=List.map edA (cutA hm es k):=List.take_of_length_le (by simp)
    refine⟨es.length - (k+1),renBy [(26,2002)],[1,5,9,10,11],[2001,26],by omega,by kernel_rfl,k+1,rfl,by omega,.inr ⟨by rw[hn];simp,by rw[hn,List.length_append];rfl, ?_⟩⟩
    rw[hn,List.map_append]
    conv=>rhs;rw[←e]
    rfl
  ·have hn:cutA hm es (k+1)=cutA hm es k:=by simp only[cutA,hgn,hc,if_false]
   have t2:decide ((Sx.look hm (x,y)).getD 0>0)=false:=decide_eq_false hc
   rcases hst with⟨hr0,rfl,rfl⟩|⟨hr0,rfl,rfl⟩
   ·conv=>whnf
    (repeat((first|refine step_w1 rfl rfl ?_|refine step_w2 rfl rfl ?_|refine g_o (op_loadA rfl (ev_ok rfl) (tgt rfl) rfl (Nat.succ_ne_zero _) rfl) ?_|refine g_o (op_indexM (α:=E4) (d:=(0,0,0,0)) rfl (ev_ok rfl) (ev_ok rfl) (tgt rfl) rfl (tgt rfl) rfl (by omega)) ?_|refine⟨_,[(2001,_)],[],[],op_lookup eI 0 (p:=(x,y)) rfl (ev_ok rfl) (ev_ok rfl) rfl um_b key_b zI (List.mem_cons_self ..),one_fk rfl,nil_new,nil_upd, ?_⟩|rw[s1]|rw[hg]|rw[t2]|rw[wk]|rw[Int.toNat_natCast]|rw[Nat.zero_add]);conv=>whnf))
    exact⟨es.length - (k+1),fun k=>k,[1,5,9,10,11],[2001],by omega,by kernel_rfl,k+1,rfl,by omega,.inl ⟨by rw[hn];exact hr0,rfl,rfl⟩⟩
   ·conv=>whnf
    (repeat((first|refine step_w1 rfl rfl ?_|refine step_w2 rfl rfl ?_|refine g_o (op_loadA rfl (ev_ok rfl) (tgt rfl) rfl (Nat.succ_ne_zero _) rfl) ?_|refine g_o (op_indexM (α:=E4) (d:=(0,0,0,0)) rfl (ev_ok rfl) (ev_ok rfl) (tgt rfl) rfl (tgt rfl) rfl (by omega)) ?_|refine⟨_,[(2001,_)],[],[],op_lookup eI 0 (p:=(x,y)) rfl (ev_ok rfl) (ev_ok rfl) rfl um_b key_b zI (List.mem_cons_self ..),one_fk rfl,nil_new,nil_upd, ?_⟩|rw[s1]|rw[hg]|rw[t2]|rw[wk]|rw[Int.toNat_natCast]|rw[Nat.zero_add]);conv=>whnf))
    exact⟨es.length - (k+1),fun k=>k,[1,5,9,10,11],[2001,2002],by omega,by kernel_rfl,k+1,rfl,by omega,.inr ⟨by rw[hn];exact hr0,by rw[hn];rfl,by rw[hn];rfl⟩⟩
 ·have s1:=dge hke
  obtain rfl:k=es.length:=by omega
  rcases hst with⟨hr0,rfl,rfl⟩|⟨hr0,_⟩
  ·have kc:=CallOK.nil1 (a:=none) (g_ClipE [])
   conv=>whnf
   (repeat(first|(refine step_w2 rfl rfl ?_;conv=>whnf)|(refine g_c (by assumption) ?_;conv=>whnf)|(rw[s1];conv=>whnf)))
   exact⟨Recast.refl _,(fun _ _ h=>by cases h),(fun _ _ h=>by cases h)⟩
  ·exact absurd hr hr0
end Go.Proofs.YthaeohlijigplaaGreat
namespace Go.Sx
set_option linter.unusedSimpArgs false
set_option linter.unusedVariables false
set_option maxRecDepth 100000
structure ShapeD (args:List SV) (fk:List (Nat×Blk)) (c:SV) (new upd:List (Nat×Blk)):Prop where
 argr:subN (refsL args) (keysOf fk)=true
 fkr:subN (refsB fk) (keysOf fk)=true
 nd:nodupN (keysOf fk++keysOf new)=true
 newW:allWr new=true
 ndU:nodupN (keysOf upd)=true
 updK:∀k b,(k,b)∈upd→∃b0,(k,b0)∈fk∧b0.wr=true∧b0.data.live=true
 updAll:∀k b,(k,b)∈fk→b.wr=true→b.data.live=true→∃b',(k,b')∈upd
 cr:subN (refs c) (keysOf fk++keysOf new)=true
 nr:subN (refsB new) (keysOf fk++keysOf new)=true
 ur:subN (refsB upd) (keysOf fk++keysOf new)=true
 pass:args.all passable=true
theorem ShapeD.of {args:List SV} {fk:List (Nat×Blk)} {c:SV} {new upd:List (Nat×Blk)} (h1:subN (refsL args) (keysOf fk)=true) (h2:subN (refsB fk) (keysOf fk)=true) (h3:nodupN (keysOf fk++keysOf new)=true)
  (h4:allWr new=true) (h5:nodupN (keysOf upd)=true) (h6:updKB fk upd=true) (h7:updAllB upd fk=true) (h8:subN (refs c) (keysOf fk++keysOf new)=true) (h9:subN (refsB new) (keysOf fk++keysOf new)=true)
  (h10:subN (refsB upd) (keysOf fk++keysOf new)=true) (h11:args.all passable=true):ShapeD args fk c new upd:=
 ⟨h1,h2,h3,h4,h5,updKB_spec h6,updAllB_spec h7,h8,h9,h10,h11⟩
theorem callKD {P:Program} {T:List (TypeId×TI)} {Z:List Nat} (hT:TabOK P T) (hm:P.follows .mixedOrders=true) {f:FuncId} {fn':Func} {code:Code} (hf:P.funcs[f]? =some fn') (hb:fn'.body=some code)
  (hn:(fn'.name== "runtime.NumGoroutine")=false) {args:List SV} {fk:List (Nat×Blk)} {c:SV} {new upd:List (Nat×Blk)} (hs:ShapeD args fk c new upd) (hnt:Nat.ble args.length fn'.ntmps=true)
  (σ:Nat→Nat) (hσ:NamesOK fk new σ)
  (h:∀W0 w0 ρ0,Env.OK ⟨P,T,W0,w0,fn'.ntmps,ρ0,keysOf fk,Z,none⟩→cwp ⟨P,T,W0,w0,fn'.ntmps,ρ0,keysOf fk,Z,none⟩ code (Ret T fn'.results.toList (Fin c new upd)) (enum 0 args) fk):
  CallOK P f (renL σ args) (renH σ fk) (renS σ c) (renH σ new) (renH σ upd):=by
 have hnt':=Nat.le_of_ble_eq_true hnt
 refine .inl ⟨⟨fn',hf,hn,by rw[hb];rfl⟩,fun ρ w z hz hpw=> ?_⟩
 have hnd:=nodupN_spec hs.nd
 have hndf:(keysOf fk).Nodup:=(List.nodup_append.1 hnd).1
 have hndn:(keysOf new).Nodup:=(List.nodup_append.1 hnd).2.1
 have hdisj:∀m∈keysOf new,m∉keysOf fk:=fun m hm hq=>(List.nodup_append.1 hnd).2.2 m hq m hm rfl
 let ρ1:Rho:=⟨fun q=>if q∈keysOf fk then ρ.key (σ q)else none,ρ.imm,ρ.glob⟩
 have hρ1:∀q∈keysOf fk,ρ.key (σ q)=ρ1.key q:=fun q hq=>by
  show _=if q∈keysOf fk then _ else _
  rw[if_pos hq]
 have hρ1':∀q x,ρ1.key q=some x→q∈keysOf fk:=fun q x hx=>by
  have hx:(if q∈keysOf fk then ρ.key (σ q)else none)=some x:=hx
  by_cases hq:q∈keysOf fk
  ·exact hq
  ·rw[if_neg hq]at hx;cases hx
 let W0:Nat→Prop:=fun b=>∃q blk t,(q,blk)∈upd∧ρ1.key q=some (b,t)
 let E:Env:=⟨P,T,W0,w,fn'.ntmps,ρ1,keysOf fk,Z,none⟩
 have hE:E.OK:=⟨hT,hm,hρ1'⟩
 have hargr:=subN_spec hs.argr
 have hz1:HasZ ρ1 args z:=(renL_iff (ρ:=ρ1) (ρ':=ρ) (σ:=σ) rfl args z (fun k hk=>hρ1 k (hargr k hk))).1 hz
 have hzl:z.length=args.length:=HasZ_length hz1
 have hget:∀(l:List SV) (y:List (List Value)),HasZ ρ1 l y→l.all passable=true→∀(j:Nat) (c:SV),l[j]? =some c→∃v,(List.zipWith mkV l y)[j]? =some v∧Has ρ1 c v:=by
  intro l
  induction l with
  |nil=>intro y _ _ j c h;simp at h
  |cons d l ih=>
   intro y hy hp j c hj
   simp only[HasZ]at hy
   obtain⟨x,r,rfl,g1,g2⟩:=hy
   simp only[List.all_cons,Bool.and_eq_true]at hp
   cases j with
   |zero=>
    simp at hj
    subst hj
    exact⟨mkV d x,by simp,(Has_iff hp.1).2 ⟨x,g1,rfl⟩⟩
   |succ j=>simpa using ih r g2 hp.2 j c (by simpa using hj)
 have hsize:((List.zipWith mkV args z).toArray++Array.replicate (fn'.ntmps - (List.zipWith mkV args z).toArray.size) undef).size=fn'.ntmps:=by
  simp[hzl]
  omega
 have hfkr:=subN_spec hs.fkr
 have hmemf:∀k b,find fk k=some b→(k,b)∈fk:=fun k b hb=>find_mem hb
 have hR:R E.W0 E.w0 E.n ρ1 (fn (enum 0 args) fk) {tmps:=(List.zipWith mkV args z).toArray++Array.replicate (fn'.ntmps - (List.zipWith mkV args z).toArray.size) undef,defers:=[]} w:={
  defers:=.nil
  size:=hsize
  fr:=fun t sv ht=>by
   simp only[fn,LV.sv]at ht
   obtain⟨_,h2⟩:=lk_enum args 0 t sv ht
   obtain⟨v,h3,h4⟩:=hget args z hz1 hs.pass t sv (by simpa using h2)
   have hlt:t<(List.zipWith mkV args z).length:=(List.getElem?_eq_some_iff.1 h3).1
   have:((List.zipWith mkV args z).toArray++Array.replicate (fn'.ntmps - (List.zipWith mkV args z).toArray.size) undef).getD t undef=v:=by
    rw[Array.getD_eq_getD_getElem?,Array.getElem?_append_left (by simpa using hlt)]
    simp[h3]
   rw[this];exact h4
  pres:=.refl _ _
  hp:={
   blk:=fun k b hb=>by
    have hm:=hmemf k b hb
    have:=hpw.hfk (σ k) (renB σ b) (renH_mem.2 ⟨k,b,hm,rfl,rfl⟩)
    exact(renB_iff (ρ:=ρ1) (ρ':=ρ) (σ:=σ) rfl k b (hρ1 k (keysOf_mem.2 ⟨b,hm⟩)) (fun j hj=>hρ1 j (hfkr j (refsB_mem hm j hj)))).1 this
   sep:=fun k k' x x' b b' hx hx' hne he hb hb' hl hl'=>by
    have hm:=hmemf k b hb
    have hm':=hmemf k' b' hb'
    have hkx:ρ.key (σ k)=some x:=by rw[hρ1 k (keysOf_mem.2 ⟨b,hm⟩)];exact hx
    have hkx':ρ.key (σ k')=some x':=by rw[hρ1 k' (keysOf_mem.2 ⟨b',hm'⟩)];exact hx'
    cases hw:b.wr with
    |false=>rfl
    |true=>
     have:=hpw.sep (σ k) (σ k') x x' (renB σ b) (renB σ b') (renH_mem.2 ⟨k,b,hm,rfl,rfl⟩) (renH_mem.2 ⟨k',b',hm',rfl,rfl⟩) hkx hkx' (hσ.inj k k' b b' hm hm' hne hw) he (by rw[renB,renD_live];exact hl) (by rw[renB,renD_live];exact hl')
     rw[renB]at this
     rw[hw]at this;exact this
   own:=fun k b x hb hw hl hx=>by
    have hm:=hmemf k b hb
    obtain⟨b',hu⟩:=hs.updAll k b hm hw hl
    exact .inr ⟨k,b',x.2,hu,hx⟩
   dom:=fun k x hx=>by
    obtain⟨b,hb⟩:=keysOf_mem.1 (hρ1' k x hx)
    exact⟨b,by simp only[fn,LV.blk];exact find_of_mem hndf hb⟩
   imm:=hpw.imm
   immw:=fun k b x hb hw hl hx=>by
    have hm:=hmemf k b hb
    have hkx:ρ.key (σ k)=some x:=by rw[hρ1 k (keysOf_mem.2 ⟨b,hm⟩)];exact hx
    exact hpw.immw (σ k) (renB σ b) x (renH_mem.2 ⟨k,b,hm,rfl,rfl⟩) hw (by rw[renB,renD_live];exact hl) hkx}}
 have hwp:=cwp_sound hE code _ _ _ (h E.W0 w ρ1 hE) _ w ⟨ρ1,⟨.refl _,(fun b o hb=>.inl hb),(fun _ _=>rfl)⟩,(fun k hk=>by
  obtain⟨b,hb⟩:=keysOf_mem.1 hk
  simp only[fn,LV.blk,find_of_mem hndf hb]
  simp),hR⟩
 rw[zip_ren]
 refine calls_of_run (E:=E) rfl hf hb (fun _ _ _ h=>h) (fun _ _ h=>h) hwp ?_
 rintro e a' w' hdf ⟨fr',hp',hK,ρ',hext,_,hR'⟩
 have fin:∀ob l,retAll T fr' hp' fn'.results.toList=some (ob,l)→obP ob→Fin c new upd (retSV l) hp'→a'.defers=[]∧∃v,(results fn' a'.tmps).run P w'= .ok v w'∧∃v' ρ'',Ending.returned v= .returned v'∧Post ρ w (renS σ c) (renH σ new) (renH σ upd) v' ρ'' w':=by
  rintro ob l h1 h2 ⟨h3,hnew,hupd⟩
  obtain⟨v,r1,r2⟩:=results_run hE hR' h1 h2
  let ρ2:Rho:=⟨fun k=>match (keysOf new).find? (fun m=>σ m==k)with
   |some m=>ρ'.key m
   |none=>ρ.key k,ρ'.imm,ρ'.glob⟩
  have k2new:∀m∈keysOf new,ρ2.key (σ m)=ρ'.key m:=by
   intro m hm
   show(match (keysOf new).find? (fun j=>σ j==σ m)with|some m=>ρ'.key m|none=>ρ.key (σ m))=ρ'.key m
   cases hfd:(keysOf new).find? (fun j=>σ j==σ m)with
   |none=>have:=List.find?_eq_none.1 hfd m hm;simp at this
   |some j=>
    have hj:=List.mem_of_find?_eq_some hfd
    have hjs:=List.find?_some hfd
    have:j=m:=Classical.byContradiction fun hne=>hσ.newInj j m hj hm hne (by simpa using hjs)
    rw[this]
  have k2old:∀k,(∀m∈keysOf new,σ m≠k)→ρ2.key k=ρ.key k:=by
   intro k hk
   show(match (keysOf new).find? (fun j=>σ j==k)with|some m=>ρ'.key m|none=>ρ.key k)=ρ.key k
   cases hfd:(keysOf new).find? (fun j=>σ j==k)with
   |none=>rfl
   |some j=>exact absurd (by simpa using List.find?_some hfd) (hk j (List.mem_of_find?_eq_some hfd))
  have k2:∀q∈keysOf fk++keysOf new,ρ2.key (σ q)=ρ'.key q:=by
   intro q hq
   rcases List.mem_append.1 hq with hq|hq
   ·rw[k2old (σ q) (fun m hm=>hσ.newOld m q hm hq),hρ1 q hq,hext.fix q hq]
   ·exact k2new q hq
  have hfresh:∀m∈keysOf new,ρ.key (σ m)=none:=by
   intro m hm
   obtain⟨b,hb⟩:=keysOf_mem.1 hm
   exact hpw.fresh (σ m) (renB σ b) (renH_mem.2 ⟨m,b,hb,rfl,rfl⟩)
  have hnewW:=allWr_spec hs.newW
  have hnr:=subN_spec hs.nr
  have hur:=subN_spec hs.ur
  have hcr:=subN_spec hs.cr
  have updlive:∀q b,(q,b)∈upd→q∈keysOf fk:=fun q b hq=>by
   obtain⟨b0,h1,_⟩:=hs.updK q b hq
   exact keysOf_mem.2 ⟨b0,h1⟩
  refine⟨hdf,v,r1,v,ρ2,rfl,⟨⟨fun k x hx=> ?_,fun b o hb=>hext.le.imm b o hb⟩, ?_,fun k hk=> ?_, ?_, ?_, ?_, ?_, ?_, ?_⟩⟩
  ·rw[k2old k]
   ·exact hx
   ·rintro m hm rfl
    rw[hfresh m hm]at hx;cases hx
  ·exact(ren_has (ρ:=ρ') (ρ':=ρ2) (σ:=σ) rfl c v (fun k hk=>k2 k (hcr k hk))).2 (h3 ρ' v r2)
  ·refine k2old k fun m hm he=> ?_
   obtain⟨b,hb⟩:=keysOf_mem.1 hm
   exact hk (renB σ b) (renH_mem.2 ⟨m,b,hb,he.symm,rfl⟩)
  ·refine hR'.pres.mono (fun b _ hb=> ?_)
   obtain⟨q,blk,t,hq,hx⟩:=hb
   refine⟨σ q,renB σ blk,t,renH_mem.2 ⟨q,blk,hq,rfl,rfl⟩, ?_⟩
   rw[hρ1 q (updlive q blk hq)];exact hx
  ·intro k b hk
   rcases hk with hk|hk
   ·obtain⟨q,b0,hq,rfl,rfl⟩:=renH_mem.1 hk
    exact(renB_iff (ρ:=ρ') (ρ':=ρ2) (σ:=σ) rfl q b0 (k2 q (List.mem_append.2 (.inl (updlive q b0 hq)))) (fun j hj=>k2 j (hur j (refsB_mem hq j hj)))).2 (hR'.hp.blk q b0 (by simp only[fn,LV.blk];exact hupd q b0 hq))
   ·obtain⟨q,b0,hq,rfl,rfl⟩:=renH_mem.1 hk
    exact(renB_iff (ρ:=ρ') (ρ':=ρ2) (σ:=σ) rfl q b0 (k2 q (List.mem_append.2 (.inr (keysOf_mem.2 ⟨b0,hq⟩)))) (fun j hj=>k2 j (hnr j (refsB_mem hq j hj)))).2 (hR'.hp.blk q b0 (by simp only[fn,LV.blk];exact hnew q b0 hq))
  ·intro k b b' hk hk' hl hl'
   obtain⟨q,b0,hq,rfl,rfl⟩:=renH_mem.1 hk
   obtain⟨q',b0',hq',he,rfl⟩:=renH_mem.1 hk'
   rw[renB,renD_live]at hl hl'
   obtain⟨c1,d1,d2,d3⟩:=hs.updK q b0 hq
   obtain⟨c2,e1,e2,e3⟩:=hs.updK q' b0' hq'
   have hqq:q=q':=Classical.byContradiction fun hne=>hσ.inj q q' c1 c2 d1 e1 hne d2 he
   subst hqq
   have h5:=find_of_mem (nodupN_spec hs.ndU) hq
   have h6:=find_of_mem (nodupN_spec hs.ndU) hq'
   rw[h5]at h6;cases h6
   rw[hl]at hl';cases hl'
  ·intro k b x hk hx
   obtain⟨m,b0,hm,rfl,rfl⟩:=renH_mem.1 hk
   rw[k2new m (keysOf_mem.2 ⟨b0,hm⟩)]at hx
   have hfm:(fn fr' hp' (.k m)).blk=some b0:=by simp only[fn,LV.blk];exact hnew m b0 hm
   rcases hR'.hp.own m b0 x hfm (hnewW m b0 hm).1 (hnewW m b0 hm).2 hx with h4|⟨q,bu,t,hq,hxq⟩
   ·exact .inl h4
   ·cases hbl:bu.data.live with
    |false=>exact .inr ⟨σ q,renB σ bu,t,renH_mem.2 ⟨q,bu,hq,rfl,rfl⟩,by rw[renB,renD_live];exact hbl,by rw[hρ1 q (updlive q bu hq)];exact hxq⟩
    |true=>
    exfalso
    have hqf:=updlive q bu hq
    have hne:m≠q:=fun he=>hdisj m (keysOf_mem.2 ⟨b0,hm⟩) (he▸hqf)
    have hxq':ρ'.key q=some (x.1,t):=by rw[hext.fix q hqf];exact hxq
    have:=hR'.hp.sep m q x (x.1,t) b0 bu hx hxq' hne rfl hfm (by simp only[fn,LV.blk];exact hupd q bu hq) (hnewW m b0 hm).2 hbl
    rw[(hnewW m b0 hm).1]at this;cases this
  ·intro k b k' b' x x' hk hk' hne hx hx' he
   obtain⟨m,b0,hm,rfl,rfl⟩:=renH_mem.1 hk
   obtain⟨m',b0',hm',rfl,rfl⟩:=renH_mem.1 hk'
   rw[k2new m (keysOf_mem.2 ⟨b0,hm⟩)]at hx
   rw[k2new m' (keysOf_mem.2 ⟨b0',hm'⟩)]at hx'
   have:=hR'.hp.sep m m' x x' b0 b0' hx hx' (fun h=>hne (by rw[h])) he (by simp only[fn,LV.blk];exact hnew m b0 hm) (by simp only[fn,LV.blk];exact hnew m' b0' hm') (hnewW m b0 hm).2 (hnewW m' b0' hm').2
   rw[(hnewW m b0 hm).1]at this;cases this
  ·intro b o hb
   rcases hext.imm b o hb with h4|h4
   ·exact .inl h4
   ·refine .inr ⟨h4,hR'.hp.imm b o hb,fun k blk x hk hx he=> ?_⟩
    obtain⟨m,b0,hm,rfl,rfl⟩:=renH_mem.1 hk
    rw[k2new m (keysOf_mem.2 ⟨b0,hm⟩)]at hx
    have:=hR'.hp.immw m b0 x (by simp only[fn,LV.blk];exact hnew m b0 hm) (hnewW m b0 hm).1 (hnewW m b0 hm).2 hx
    rw[he]at this
    have hb':ρ'.imm b=some o:=hb
    rw[hb']at this;cases this
 cases e<;>simp only[Ret]at hK<;>simp only[bodyPost]
 ·split at hK
  ·rename_i ob l hl;exact fin ob l hl (req_spec hK).1 (req_spec hK).2
  ·exact hK.elim
 ·split at hK
  ·rename_i ob l hl;exact fin ob l hl (req_spec hK).1 (req_spec hK).2
  ·exact hK.elim
end Go.Sx
