/- The texts Fz4. -/
import Derived.Test.YthaeohlijigplaaGreatQLTopFound20
namespace Go.Proofs.YthaeohlijigplaaGreat
open Go.Sx
set_option linter.unusedSimpArgs false
set_option linter.unusedVariables false
set_option maxRecDepth 100000
set_option maxHeartbeats 32000000
def wrB:List (Nat×Blk)→Bool
 |[]=>true
 |(_,b)::r=>b.wr&&wrB r
theorem wrB_spec:∀{l:List (Nat×Blk)},wrB l=true→∀k b,(k,b)∈l→b.wr=true
 |(j,c)::r,h,k,b,hm=>by
  simp only[wrB,Bool.and_eq_true]at h
  rcases List.mem_cons.1 hm with h1|h1
  ·cases h1;exact h.1
  ·exact wrB_spec h.2 k b h1
theorem upd_ok {fk upd:List (Nat×Blk)} (h1:updKB fk upd=true) (h2:wrB upd=true):UpdOK fk upd:=fun j b h=>by
 obtain⟨b0,c1,c2,c3⟩:=updKB_spec h1 j b h
 exact⟨b0,c1,c2,c3,wrB_spec h2 j b h⟩
theorem two_newH {hp:List (Nat×Blk)} {k m:Nat} {A B:Blk} (ha:find hp k=none) (hb:find hp m=none):NewOK hp [(k,A),(m,B)]:=fun q x hm=>by
 rcases List.mem_cons.1 hm with e|e
 ·cases e;exact ha
 ·rw[List.mem_singleton]at e;cases e;exact hb
theorem get_nil {hp:List (Nat×Blk)}:∀j c,(j,c)∈([]:List (Nat×Blk))→find hp j=some c:=fun _ _ h=>by cases h
theorem get_cons {hp l:List (Nat×Blk)} {k:Nat} {b:Blk} (h:find hp k=some b) (r:∀j c,(j,c)∈l→find hp j=some c):∀j c,(j,c)∈(k,b)::l→find hp j=some c:=by
 intro j c hm
 rcases List.mem_cons.1 hm with e|e
 ·cases e;exact h
 ·exact r j c e
def halveF (mm:MapI):Nat→T3→List T3
 |0,c=>[c]
 |d+1,c=>match Sx.look mm (bas c)with
  |none=>[c]
  |some n=>halveF mm d (n,c.1,c.2.1)++halveF mm d (n,c.2.2,c.1)
def alB (L:List T3):Blk:=⟨84,true,.seq 3 (L.map triA)⟩
def paB (Q:List Int):Blk:=⟨3,true,.ints .i64 Q⟩
abbrev dA:Blk:=⟨84,true,.dead⟩
abbrev dP:Blk:=⟨3,true,.dead⟩
abbrev fixH (mm:MapI):List (Nat×Blk):=[(1001,⟨161,true,.one [.mp 1002]⟩),(1002,⟨0,true,.mp (mE eI mm)⟩),(1007,⟨164,true,.one [.clo 85 [] [.ptr 1001 0 0 0,.ptr 1003 0 0 0,.ptr 1005 0 0 0,.ptr 1007 0 0 0]]⟩)]
abbrev boxH (a p:SV):List (Nat×Blk):=[(1003,⟨32,true,.one [a]⟩),(1005,⟨36,true,.one [p]⟩)]
abbrev boxN:List (Nat×Blk):=boxH (.val (.slice none 0 0)) (.val (.slice none 0 0))
abbrev ags (c:T3) (q:Int) (d:Nat):List SV:=[triA c,iv q,iv (d:Nat),.ptr 1001 0 0 0,.ptr 1003 0 0 0,.ptr 1005 0 0 0,.ptr 1007 0 0 0]
def nmH (i j:Nat) (k:Nat):Nat:=if k=3000 then 3000+2*i else if k=3001 then 3001+2*i else if k=3002∨k=31 then 3000+2*j else if k=3003∨k=35 then 3001+2*j else k
theorem nmH_inj {i j:Nat} (h:i≠j):∀q q',q∈[1001,1002,1007,1003,1005,3000,3001]→q'∈[1001,1002,1007,1003,1005,3000,3001]→q≠q'→nmH i j q≠nmH i j q':=by
 intro q q' hq hq' hne
 simp only[List.mem_cons,List.not_mem_nil,or_false]at hq hq'
 rcases hq with rfl|rfl|rfl|rfl|rfl|rfl|rfl<;>rcases hq' with rfl|rfl|rfl|rfl|rfl|rfl|rfl<;>first|exact absurd rfl hne|(simp[nmH];done)|(simp[nmH];omega)
theorem nmH_new {i j:Nat} (h:i≠j) {m:Nat} (hm:m=31∨m=35∨m=3002∨m=3003):∀q,q∈[1001,1002,1007,1003,1005,3000,3001]→nmH i j m≠nmH i j q:=by
 intro q hq
 simp only[List.mem_cons,List.not_mem_nil,or_false]at hq
 rcases hm with rfl|rfl|rfl|rfl<;>rcases hq with rfl|rfl|rfl|rfl|rfl|rfl|rfl<;>first|(simp[nmH];done)|(simp[nmH];omega)
theorem names_H {fk new:List (Nat×Blk)} {i j:Nat} (hij:i≠j) (h1:∀q∈keysOf fk,q∈[1001,1002,1007,1003,1005,3000,3001]) (h2:keysOf new=[31,35]∨keysOf new=[3002,3003]):NamesOK fk new (nmH i j):=by
 have hn:∀m∈keysOf new,m=31∨m=35∨m=3002∨m=3003:=fun m hm=>by
  rcases h2 with e|e<;>rw[e]at hm<;>simp at hm<;>omega
 refine⟨fun q q' b b' hq hq' hne _=>nmH_inj hij q q' (h1 q (keysOf_mem.2 ⟨b,hq⟩)) (h1 q' (keysOf_mem.2 ⟨b',hq'⟩)) hne,fun m m' hm hm' hne=> ?_,fun m q hm hq=>nmH_new hij (hn m hm) q (h1 q hq)⟩
 rcases h2 with e|e<;>rw[e]at hm hm'<;>simp at hm hm'<;>rcases hm with rfl|rfl<;>rcases hm' with rfl|rfl<;>first|exact absurd rfl hne|(simp[nmH];done)|(simp[nmH];omega)
theorem h_leaf {mm:MapI} {c:T3} {q:Int} {d:Nat} {L:List T3} {Q:List Int} (hd:d=0∨Sx.look mm (bas c)=none) (hQ:Q.length=L.length) (hl:L.length<1000000) (i j:Nat) (hij:i≠j):
  CallOK Tryz.prog 85 (ags c q d) (fixH mm++(boxH (.slc (3000+2*i) 3 0 L.length) (.slc (3001+2*i) 1 0 Q.length)++[(3000+2*i,alB L),(3001+2*i,paB Q)])) (.tup []) [(3000+2*j,alB (L++[c])),(3001+2*j,paB (Q++[q]))] (fixH mm++(boxH (.slc (3000+2*j) 3 0 (L++[c]).length) (.slc (3001+2*j) 1 0 (Q++[q]).length)++[(3000+2*i,dA),(3001+2*i,dP)])):=by
 obtain⟨x,y,z⟩:=c
 have kf:=b_of y z
 rw[show(L++[(x,y,z)]).length=L.length+1 by simp,show(Q++[q]).length=Q.length+1 by simp]
 refine callKD (Z:=[]) tabOK mixedOK Tryz.func85 rfl (by kernel_rfl) (args:=ags (x,y,z) q d) (fk:=fixH mm++(boxH (.slc 3000 3 0 L.length) (.slc 3001 1 0 Q.length)++[(3000,alB L),(3001,paB Q)])) (c:=.tup [])
  (new:=[(31,alB (L++[(x,y,z)])),(35,paB (Q++[q]))]) (upd:=fixH mm++(boxH (.slc 31 3 0 (L.length+1)) (.slc 35 1 0 (Q.length+1))++[(3000,dA),(3001,dP)])) (ShapeD.of rfl rfl rfl rfl rfl rfl rfl rfl rfl rfl rfl) rfl (nmH i j) (names_H hij (fun q h=>by simp only[keysOf,List.cons_append,List.nil_append]at h;exact h) (.inl rfl)) ?_
 have hA:alB (L++[(x,y,z)])=⟨84,true,.seq 3 (List.take L.length (L.map triA)++[triA (x,y,z)])⟩:=by
  rw[List.take_of_length_le (by simp),alB,List.map_append];rfl
 have hP:paB (Q++[q])=⟨3,true,.ints .i64 (List.take Q.length Q++[q])⟩:=by
  rw[List.take_of_length_le (Nat.le_refl _),paB]
 intro W0 w0 ρ0 hE
 conv=>whnf
 cases hk:Sx.look mm (ke y z)with
 |none=>
  (repeat(first|(refine step_w1 rfl rfl ?_;conv=>whnf)|(refine step_w2 rfl rfl ?_;conv=>whnf)|(refine step_i (by kernel_rfl) ?_;conv=>whnf)|(refine step_oA (by first|omega|decide|(simp only[tl0,dlen,List.length_replicate,List.length_set,List.length_map,List.length_zipWith,List.length_take,List.length_append,List.length_cons,List.length_nil];omega)) ?_;conv=>whnf)|(refine g_c (by assumption) ?_;conv=>whnf)|(refine g_o (op_pickT rfl (ev_ok rfl) (ev_ok rfl)) ?_;conv=>whnf)|(refine⟨_,[(1002,_)],[],[],op_lookupOk eI 0 (p:=ke y z) rfl (ev_ok rfl) (ev_ok rfl) rfl um_b key_b zI passI (List.mem_cons_self ..),one_fk rfl,nil_new,nil_upd, ?_⟩;conv=>whnf)|(refine⟨⟨by simp[dlen],by simp[dlen],by simp only[tiB84];omega,by omega⟩, ?_⟩;conv=>whnf)|(rw[hk];conv=>whnf)))
  rw[hA,hP]
  exact⟨Recast.refl _,get_cons rfl (get_cons rfl get_nil),get_cons rfl (get_cons rfl (get_cons rfl (get_cons rfl (get_cons rfl (get_cons rfl (get_cons rfl get_nil))))))⟩
 |some n=>
  have h0:d=0:=by
   rcases hd with h|h
   ·exact h
   ·rw[show bas (x,y,z)=ke y z from rfl,hk]at h;cases h
  subst h0
  (repeat(first|(refine step_w1 rfl rfl ?_;conv=>whnf)|(refine step_i (by kernel_rfl) ?_;conv=>whnf)|(refine step_oA (by first|omega|decide|(simp only[tl0,dlen,List.length_replicate,List.length_set,List.length_map,List.length_zipWith,List.length_take,List.length_append,List.length_cons,List.length_nil];omega)) ?_;conv=>whnf)|(refine g_c (by assumption) ?_;conv=>whnf)|(refine g_o (op_pickF rfl (ev_ok rfl) (ev_ok rfl)) ?_;conv=>whnf)|(refine⟨_,[(1002,_)],[],[],op_lookupOk eI 0 (p:=ke y z) rfl (ev_ok rfl) (ev_ok rfl) rfl um_b key_b zI passI (List.mem_cons_self ..),one_fk rfl,nil_new,nil_upd, ?_⟩;conv=>whnf)|(refine⟨⟨by simp[dlen],by simp[dlen],by simp only[tiB84];omega,by omega⟩, ?_⟩;conv=>whnf)|(rw[hk];conv=>whnf)))
  rw[hA,hP]
  exact⟨Recast.refl _,get_cons rfl (get_cons rfl get_nil),get_cons rfl (get_cons rfl (get_cons rfl (get_cons rfl (get_cons rfl (get_cons rfl (get_cons rfl get_nil))))))⟩
theorem h_leaf0 {mm:MapI} {c:T3} {q:Int} {d:Nat} (hd:d=0∨Sx.look mm (bas c)=none) (j:Nat):
  CallOK Tryz.prog 85 (ags c q d) (fixH mm++boxN) (.tup []) [(3000+2*j,alB [c]),(3001+2*j,paB [q])] (fixH mm++boxH (.slc (3000+2*j) 3 0 [c].length) (.slc (3001+2*j) 1 0 [q].length)):=by
 obtain⟨x,y,z⟩:=c
 have kf:=b_of y z
 refine callKD (Z:=[]) tabOK mixedOK Tryz.func85 rfl (by kernel_rfl) (args:=ags (x,y,z) q d) (fk:=fixH mm++boxN) (c:=.tup []) (new:=[(31,alB [(x,y,z)]),(35,paB [q])]) (upd:=fixH mm++boxH (.slc 31 3 0 1) (.slc 35 1 0 1)) (ShapeD.of rfl rfl rfl rfl rfl rfl rfl rfl rfl rfl rfl) rfl (nmH (j+1) j) (names_H (by omega) (fun q h=>by simp only[keysOf,List.cons_append,List.nil_append,List.mem_cons,List.not_mem_nil,or_false]at h ⊢;omega) (.inl rfl)) ?_
 intro W0 w0 ρ0 hE
 conv=>whnf
 cases hk:Sx.look mm (ke y z)with
 |none=>
  (repeat(first|(refine step_w1 rfl rfl ?_;conv=>whnf)|(refine step_w2 rfl rfl ?_;conv=>whnf)|(refine step_i (by kernel_rfl) ?_;conv=>whnf)|(refine step_oA (by first|omega|decide|(simp only[tl0,dlen,List.length_replicate,List.length_set,List.length_map,List.length_zipWith,List.length_take,List.length_append,List.length_cons,List.length_nil];omega)) ?_;conv=>whnf)|(refine g_c (by assumption) ?_;conv=>whnf)|(refine g_o (op_pickT rfl (ev_ok rfl) (ev_ok rfl)) ?_;conv=>whnf)|(refine⟨_,[(1002,_)],[],[],op_lookupOk eI 0 (p:=ke y z) rfl (ev_ok rfl) (ev_ok rfl) rfl um_b key_b zI passI (List.mem_cons_self ..),one_fk rfl,nil_new,nil_upd, ?_⟩;conv=>whnf)|(refine⟨⟨by simp[dlen],by simp only[tiB84];omega,by omega⟩, ?_⟩;conv=>whnf)|(rw[hk];conv=>whnf)))
  exact⟨Recast.refl _,get_cons rfl (get_cons rfl get_nil),get_cons rfl (get_cons rfl (get_cons rfl (get_cons rfl (get_cons rfl get_nil))))⟩
 |some n=>
  have h0:d=0:=by
   rcases hd with h|h
   ·exact h
   ·rw[show bas (x,y,z)=ke y z from rfl,hk]at h;cases h
  subst h0
  (repeat(first|(refine step_w1 rfl rfl ?_;conv=>whnf)|(refine step_i (by kernel_rfl) ?_;conv=>whnf)|(refine step_oA (by first|omega|decide|(simp only[tl0,dlen,List.length_replicate,List.length_set,List.length_map,List.length_zipWith,List.length_take,List.length_append,List.length_cons,List.length_nil];omega)) ?_;conv=>whnf)|(refine g_c (by assumption) ?_;conv=>whnf)|(refine g_o (op_pickF rfl (ev_ok rfl) (ev_ok rfl)) ?_;conv=>whnf)|(refine⟨_,[(1002,_)],[],[],op_lookupOk eI 0 (p:=ke y z) rfl (ev_ok rfl) (ev_ok rfl) rfl um_b key_b zI passI (List.mem_cons_self ..),one_fk rfl,nil_new,nil_upd, ?_⟩;conv=>whnf)|(refine⟨⟨by simp[dlen],by simp only[tiB84];omega,by omega⟩, ?_⟩;conv=>whnf)|(rw[hk];conv=>whnf)))
  exact⟨Recast.refl _,get_cons rfl (get_cons rfl get_nil),get_cons rfl (get_cons rfl (get_cons rfl (get_cons rfl (get_cons rfl get_nil))))⟩
theorem halveF_len (mm:MapI):∀d c,(halveF mm d c).length≤2^d
 |0,_=>by simp[halveF]
 |d+1,c=>by
  simp only[halveF]
  split
  ·simp;exact Nat.one_le_two_pow
  ·rename_i n _
   have h1:=halveF_len mm d (n,c.1,c.2.1)
   have h2:=halveF_len mm d (n,c.2.2,c.1)
   rw[List.length_append,Nat.pow_succ];omega
structure HOK (mm:MapI) (d:Nat) (c:T3) (q:Int):Prop where
 more:∀(L:List T3) (Q:List Int) (i j:Nat),Q.length=L.length→L.length<900000 - 100*d→i≠j→CallOK Tryz.prog 85 (ags c q d) (fixH mm++(boxH (.slc (3000+2*i) 3 0 L.length) (.slc (3001+2*i) 1 0 Q.length)++[(3000+2*i,alB L),(3001+2*i,paB Q)])) (.tup []) [(3000+2*j,alB (L++halveF mm d c)),(3001+2*j,paB (Q++List.replicate (halveF mm d c).length q))] (fixH mm++(boxH (.slc (3000+2*j) 3 0 (L++halveF mm d c).length) (.slc (3001+2*j) 1 0 (Q++List.replicate (halveF mm d c).length q).length)++[(3000+2*i,dA),(3001+2*i,dP)]))
 none:∀j:Nat,CallOK Tryz.prog 85 (ags c q d) (fixH mm++boxN) (.tup []) [(3000+2*j,alB (halveF mm d c)),(3001+2*j,paB (List.replicate (halveF mm d c).length q))] (fixH mm++boxH (.slc (3000+2*j) 3 0 (halveF mm d c).length) (.slc (3001+2*j) 1 0 (List.replicate (halveF mm d c).length q).length))
theorem hok_leaf {mm:MapI} {d:Nat} {c:T3} (q:Int) (hd:d=0∨Sx.look mm (bas c)=none):HOK mm d c q:=by
 have e:halveF mm d c=[c]:=by
  cases d with
  |zero=>rfl
  |succ d=>
   have h:=hd.resolve_left (by omega)
   simp only[halveF,h]
 refine⟨fun L Q i j h1 h2 h3=> ?_,fun j=> ?_⟩
 ·rw[e];exact h_leaf hd h1 (by omega) i j h3
 ·rw[e];exact h_leaf0 hd j
theorem hok_step {mm:MapI} {d n:Nat} {x y z:Int} {m:Int} (q:Int) (hdn:d≤2) (hk:Sx.look mm (ke y z)=some m) (h1:HOK mm d (m,x,y) q) (h2:HOK mm d (m,z,x) q):HOK mm (d+1) (x,y,z) q:=by
 have kf:=b_of y z
 have e:halveF mm (d+1) (x,y,z)=halveF mm d (m,x,y)++halveF mm d (m,z,x):=by
  have hk':Sx.look mm (bas (x,y,z))=some m:=hk
  simp only[halveF,hk']
 have l1:=halveF_len mm d (m,x,y)
 have l2:2^d≤4:=by
  have:d=0∨d=1∨d=2:=by omega
  rcases this with rfl|rfl|rfl<;>decide
 have wd:IntKind.i64.wrap (((d+1:Nat):Int) - 1)=((d:Nat):Int):=by rw[wrap_i64 (by omega) (by omega)];omega
 have t0:((((d+1:Nat):Int))==0)=false:=by simp;omega
 have er:∀a b,List.replicate (a+b) q=List.replicate a q++List.replicate b q:=fun a b=>(List.replicate_append_replicate ..).symm
 refine⟨fun L Q i j hQ hl hij=> ?_,fun j=> ?_⟩
 ·have k1:=h1.more L Q 0 2 hQ (by omega) (by omega)
  have k2:=h2.more (L++halveF mm d (m,x,y)) (Q++List.replicate (halveF mm d (m,x,y)).length q) 2 1 (by simp[hQ]) (by rw[List.length_append];omega) (by omega)
  have eP:List.replicate (halveF mm d (m,x,y)++halveF mm d (m,z,x)).length q=List.replicate (halveF mm d (m,x,y)).length q++List.replicate (halveF mm d (m,z,x)).length q:=by rw[List.length_append,er]
  rw[e,eP,show L++(halveF mm d (m,x,y)++halveF mm d (m,z,x))=L++halveF mm d (m,x,y)++halveF mm d (m,z,x)from(List.append_assoc ..).symm,
   show Q++(List.replicate (halveF mm d (m,x,y)).length q++List.replicate (halveF mm d (m,z,x)).length q)=Q++List.replicate (halveF mm d (m,x,y)).length q++List.replicate (halveF mm d (m,z,x)).length q from(List.append_assoc ..).symm]
  generalize halveF mm d (m,x,y)=R1 at*
  generalize halveF mm d (m,z,x)=R2 at*
  generalize List.replicate R1.length q=P1 at*
  generalize List.replicate R2.length q=P2 at*
  refine callKD (Z:=[]) tabOK mixedOK Tryz.func85 rfl (by kernel_rfl) (args:=ags (x,y,z) q (d+1)) (fk:=fixH mm++(boxH (.slc 3000 3 0 L.length) (.slc 3001 1 0 Q.length)++[(3000,alB L),(3001,paB Q)])) (c:=.tup [])
   (new:=[(3002,alB (L++R1++R2)),(3003,paB (Q++P1++P2))]) (upd:=fixH mm++(boxH (.slc 3002 3 0 (L++R1++R2).length) (.slc 3003 1 0 (Q++P1++P2).length)++[(3000,dA),(3001,dP)])) (ShapeD.of rfl rfl rfl rfl rfl rfl rfl rfl rfl rfl rfl) rfl (nmH i j) (names_H hij (fun q h=>by simp only[keysOf,List.cons_append,List.nil_append]at h;exact h) (.inr rfl)) ?_
  intro W0 w0 ρ0 hE
  conv=>whnf
  (repeat((first|refine step_w1 rfl rfl ?_|refine step_w2 rfl rfl ?_|refine step_i (by kernel_rfl) ?_|refine step_oA (by first|omega|decide|(simp only[tl0,dlen,List.length_replicate,List.length_set,List.length_map,List.length_zipWith,List.length_take,List.length_append,List.length_cons,List.length_nil];omega)) ?_|refine g_c (by assumption) ?_|refine g_o (op_pickF rfl (ev_ok rfl) (ev_ok rfl)) ?_|refine⟨_,[(1002,_)],[],[],op_lookupOk eI 0 (p:=ke y z) rfl (ev_ok rfl) (ev_ok rfl) rfl um_b key_b zI passI (List.mem_cons_self ..),one_fk rfl,nil_new,nil_upd, ?_⟩|refine⟨_,_,_,_,k1,get_cons rfl (get_cons rfl (get_cons rfl (get_cons rfl (get_cons rfl (get_cons rfl (get_cons rfl get_nil)))))),two_newH rfl rfl,upd_ok rfl rfl, ?_⟩|refine⟨_,_,_,_,k2,get_cons rfl (get_cons rfl (get_cons rfl (get_cons rfl (get_cons rfl (get_cons rfl (get_cons rfl get_nil)))))),two_newH rfl rfl,upd_ok rfl rfl, ?_⟩|rw[hk]|rw[Option.getD_some]|rw[Option.isSome_some]|rw[wd]);conv=>whnf))
  exact⟨Recast.refl _,get_cons rfl (get_cons rfl get_nil),get_cons rfl (get_cons rfl (get_cons rfl (get_cons rfl (get_cons rfl (get_cons rfl (get_cons rfl get_nil))))))⟩
 ·have k1:=h1.none 2
  have k2:=h2.more (halveF mm d (m,x,y)) (List.replicate (halveF mm d (m,x,y)).length q) 2 1 (by simp) (by omega) (by omega)
  have eP:List.replicate (halveF mm d (m,x,y)++halveF mm d (m,z,x)).length q=List.replicate (halveF mm d (m,x,y)).length q++List.replicate (halveF mm d (m,z,x)).length q:=by rw[List.length_append,er]
  rw[e,eP]
  generalize halveF mm d (m,x,y)=R1 at*
  generalize halveF mm d (m,z,x)=R2 at*
  generalize List.replicate R1.length q=P1 at*
  generalize List.replicate R2.length q=P2 at*
  refine callKD (Z:=[]) tabOK mixedOK Tryz.func85 rfl (by kernel_rfl) (args:=ags (x,y,z) q (d+1)) (fk:=fixH mm++boxN) (c:=.tup [])
   (new:=[(3002,alB (R1++R2)),(3003,paB (P1++P2))]) (upd:=fixH mm++boxH (.slc 3002 3 0 (R1++R2).length) (.slc 3003 1 0 (P1++P2).length)) (ShapeD.of rfl rfl rfl rfl rfl rfl rfl rfl rfl rfl rfl) rfl (nmH (j+1) j) (names_H (by omega) (fun q h=>by simp only[keysOf,List.cons_append,List.nil_append,List.mem_cons,List.not_mem_nil,or_false]at h ⊢;omega) (.inr rfl)) ?_
  intro W0 w0 ρ0 hE
  conv=>whnf
  (repeat((first|refine step_w1 rfl rfl ?_|refine step_w2 rfl rfl ?_|refine step_i (by kernel_rfl) ?_|refine step_oA (by first|omega|decide|(simp only[tl0,dlen,List.length_replicate,List.length_set,List.length_map,List.length_zipWith,List.length_take,List.length_append,List.length_cons,List.length_nil];omega)) ?_|refine g_c (by assumption) ?_|refine g_o (op_pickF rfl (ev_ok rfl) (ev_ok rfl)) ?_|refine⟨_,[(1002,_)],[],[],op_lookupOk eI 0 (p:=ke y z) rfl (ev_ok rfl) (ev_ok rfl) rfl um_b key_b zI passI (List.mem_cons_self ..),one_fk rfl,nil_new,nil_upd, ?_⟩|refine⟨_,_,_,_,k1,get_cons rfl (get_cons rfl (get_cons rfl (get_cons rfl (get_cons rfl get_nil)))),two_newH rfl rfl,upd_ok rfl rfl, ?_⟩|refine⟨_,_,_,_,k2,get_cons rfl (get_cons rfl (get_cons rfl (get_cons rfl (get_cons rfl (get_cons rfl (get_cons rfl get_nil)))))),two_newH rfl rfl,upd_ok rfl rfl, ?_⟩|rw[hk]|rw[Option.getD_some]|rw[Option.isSome_some]|rw[wd]);conv=>whnf))
  exact⟨Recast.refl _,get_cons rfl (get_cons rfl get_nil),get_cons rfl (get_cons rfl (get_cons rfl (get_cons rfl (get_cons rfl get_nil))))⟩
theorem b_halve (mm:MapI) (q:Int):∀(d:Nat) (c:T3),d≤2→HOK mm d c q
 |0,c,_=>hok_leaf q (.inl rfl)
 |d+1,(x,y,z),h=>by
  cases hk:Sx.look mm (ke y z)with
  |none=>exact hok_leaf q (.inr hk)
  |some m=>exact hok_step (n:=0) q (by omega) hk (b_halve mm q d _ (by omega)) (b_halve mm q d _ (by omega))
end Go.Proofs.YthaeohlijigplaaGreat
