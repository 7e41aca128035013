/- The texts Md. -/
import Derived.Test.YtfjhnollamkdcaaGreatDoorQsA7
namespace Go.Sx
set_option linter.unusedSimpArgs false
set_option linter.unusedVariables false
theorem PreW.sub {fk fk' new:List (Nat×Blk)} {ρ:Rho} {w:World} (hp:PreW fk' new ρ w) (hs:∀x,x∈fk→x∈fk'):PreW fk new ρ w:=
 ⟨fun k b h=>hp.hfk k b (hs _ h),fun k k' x x' b b' h h'=>hp.sep k k' x x' b b' (hs _ h) (hs _ h'),hp.imm,fun k b x h=>hp.immw k b x (hs _ h),hp.fresh⟩
theorem CallOK.more {P:Program} {f:FuncId} {args:List SV} {fk fk':List (Nat×Blk)} {c:SV} {upd upd':List (Nat×Blk)} (h:CallOK P f args fk c [] upd) (hu:UpdOK fk upd) (hsub:∀x,x∈fk→x∈fk')
  (h1:∀x,x∈upd→x∈upd') (hl:∀k b,(k,b)∈upd→b.data.live=true)
  (h2:∀k b,(k,b)∈upd'→(k,b)∈upd∨((k,b)∈fk'∧b.data.live=true∧∀b',(k,b')∉upd)):CallOK P f args fk' c [] upd':=by
 have key:∀ρ w v ρ' w',PreW fk' [] ρ w→Post ρ w c [] upd v ρ' w'→Post ρ w c [] upd' v ρ' w':=by
  intro ρ w v ρ' w' hp g
  refine {le:=g.le,has:=g.has,key:=g.key,pres:=g.pres.mono (fun b _ ⟨k,blk,t,hm,hk⟩=>⟨k,blk,t,h1 _ hm,hk⟩),blk:= ?_,once:= ?_,newb:=(fun _ _ _ h=>by cases h),newsep:=(fun _ _ _ _ _ _ h=>by cases h),imm:=g.imm}
  ·intro k b hm
   rcases hm with hm|hm
   ·rcases h2 k b hm with e|⟨e1,e3,e4⟩
    ·exact g.blk k b (.inl e)
    ·rcases hp.hfk k b e1 with d|⟨b0,t,vs,ex,k1,k2,k3,k4,k5⟩|⟨k1,k2⟩
     ·rw[e3]at d;cases d
     ·refine .inr (.inl ⟨b0,t,vs,ex,g.le.key _ _ k1, ?_,DataC.mono g.le k3,k4,k5⟩)
      have hlt:b0<w.heap.size:=(Array.getElem?_eq_some_iff.1 k2).1
      rw[g.pres.block b0 hlt ?_]
      ·exact k2
      ·rintro⟨k',blk,t',hm',hk'⟩
       obtain⟨c0,c1,c2,c3,_⟩:=hu k' blk hm'
       have hne:k'≠k:=fun e=>e4 blk (e▸hm')
       have:=hp.sep k' k _ _ c0 b (hsub _ c1) e1 hk' k1 hne rfl c3 e3
       rw[c2]at this;cases this
     ·exact .inr (.inr ⟨by rw[g.key k (fun _ h=>by cases h)];exact k1,k2⟩)
   ·cases hm
  ·intro k b b' hm _ hd _
   rcases h2 k b hm with e|⟨_,e3,_⟩
   ·have:=hl k b e;rw[hd]at this;cases this
   ·rw[hd]at e3;cases e3
 rcases h with⟨f1,f2⟩|f2
 ·exact .inl ⟨f1,fun ρ w z hz hp=>(f2 ρ w z hz (hp.sub hsub)).mono (fun e w' ⟨v,ρ',he,hq⟩=>⟨v,ρ',he,key ρ w v ρ' w' hp hq⟩)⟩
 ·exact .inr fun ρ w z hz hp=>by
   obtain⟨v,ρ',w',g1,g2⟩:=f2 ρ w z hz (hp.sub hsub)
   exact⟨v,ρ',w',g1,key ρ w v ρ' w' hp g2⟩
theorem find_skip {k j:Nat} {b:Blk} {l:List (Nat×Blk)} (h:k≠j):find ((k,b)::l) j=find l j:=by
 rw[find,show Nat.beq k j=false from by
  cases e:Nat.beq k j with
  |false=>rfl
  |true=>exact absurd (Nat.eq_of_beq_eq_true e) h]
theorem find_head {k:Nat} {b:Blk} {l:List (Nat×Blk)}:find ((k,b)::l) k=some b:=by rw[find,Nat.beq_refl]
section
variable {P:Program} {o:Oper} {fr:List (Nat×SV)} {hp:List (Nat×Blk)}
theorem g_loadR {K:SV→List (Nat×Blk)→List (Nat×Blk)→List (Nat×Blk)→Prop} {t ty:TypeId} {x:Operand} {ti:TI} {k i:Nat} {wr:Bool} {xs:List Rat} {c:SV} {q:Rat} (ho:o.op= .load t x) (hx:EvOK fr x (.ptr k 5 i 0))
  (hf:find hp k=some ⟨ty,wr,.fracs xs⟩) (ht:TOK P t ti) (hi:i<xs.length) (hq:xs.getD i 0=q) (hs:sub 64 [.frac q] 0 ti.size=some [.frac q]) (hsz:ti.size≠0) (hsh:shapeAs ti [.frac q]=some c) (hK:K c [(k,⟨ty,wr,.fracs xs⟩)] [] []):
  Good P fr hp o K:=
 ⟨c,_,[],[],op_load (ob:=some (i<xs.length)) (cs:=[.frac q]) ho hx ht (List.mem_singleton.2 rfl) (by subst hq;rfl) hi hs hsz hsh,one_fk hf,nil_new,nil_upd,hK⟩
end
end Go.Sx
namespace Go.Proofs.YtfjhnollamkdcaaGreatDoor
open Go.Sx
set_option linter.unusedSimpArgs false
set_option linter.unusedVariables false
set_option maxRecDepth 100000
set_option maxHeartbeats 40000000
theorem find_rowsE {w:Nat→Bool} {M:Nat→List Rat} {j:Nat}:∀{n i:Nat},i≤j→j<i+n→find (rowsE w M n i) (1010+j)=some (rwB (w j) (M j))
 |0,i,h1,h2=>by omega
 |n+1,i,h1,h2=>by
  rw[rowsE]
  by_cases e:i=j
  ·subst e;exact find_head
  ·rw[find_skip (by omega)];exact find_rowsE (by omega) (by omega)
theorem mem_rowsE {w:Nat→Bool} {M:Nat→List Rat} {k:Nat} {b:Blk}:∀{n i:Nat},(k,b)∈rowsE w M n i↔∃j,i≤j∧j<i+n∧k=1010+j∧b=rwB (w j) (M j)
 |0,i=>⟨(fun h=>by cases h),(fun⟨j,h1,h2,_⟩=>by omega)⟩
 |n+1,i=>by
  rw[rowsE,List.mem_cons,mem_rowsE]
  constructor
  ·rintro(h|⟨j,h1,h2,h3,h4⟩)
   ·cases h;exact⟨i,Nat.le_refl _,by omega,rfl,rfl⟩
   ·exact⟨j,by omega,by omega,h3,h4⟩
  ·rintro⟨j,h1,h2,h3,h4⟩
   by_cases e:i=j
   ·subst e;exact .inl (by rw[h3,h4])
   ·exact .inr ⟨j,by omega,by omega,h3,h4⟩
def putX (X:Mx) (i q:Nat) (v:Rat):Mx:=fun a l=>if a=i∧l=q then v else X a l
theorem putX_set {n i q:Nat} {X:Mx} {v:Rat} (hq:q<n):(rowsM n X i).set q v=rowsM n (putX X i q v) i:=by
 refine range_ext (by rw[List.length_set,rwL_len]) fun l hl=> ?_
 by_cases e:l=q
 ·subst e;rw[set_at (by rw[rwL_len];exact hq)];unfold putX;rw[if_pos ⟨rfl,rfl⟩]
 ·rw[set_off e,rwL_get hl];unfold putX;rw[if_neg (fun g=>e g.2)]
theorem putX_off {n i j q:Nat} {X:Mx} {v:Rat} (h:j≠i):rowsM n (putX X i q v) j=rowsM n X j:=by
 unfold rowsM;congr 1;funext l;unfold putX;rw[if_neg (fun g=>h g.1)]
abbrev sqB (r n:Nat):Blk:=⟨117,true,.one [iv n,.slc 1002 1 0 r]⟩
abbrev rowsS (r n:Nat) (X:Mx):List (Nat×Blk):=rowsE (fun _=>true) (rowsM n X) r 0
abbrev hpS (r n:Nat) (X:Mx):List (Nat×Blk):=(1001,sqB r n)::(1002,rkB true (cellsE r n))::rowsS r n X
theorem m_comb0 (n q:Nat) (l:List Rat) (c y v:Rat) (hl:l.length=n) (hq:q<n) (hv:l.getD q 0=v) (h:fs v+(fs c+fs y)≤4398046511104) (σ:Nat→Nat) (hσ:NamesOK [(1010,rwB true l)] [] σ):
  CallOK Tryz.prog 188 (renL σ ([]++([.ptr 1010 5 q 0,.frac y]++[ptrA [.frac c]]))) (renH σ [(1010,rwB true l)]) (renS σ (.tup [])) (renH σ []) (renH σ [(1010,rwB true (l.set q (v+c*y)))]):=by
 have k1:=x_Mul c y (by omega)
 have k2:=x_Add v (c*y) (by have:=fs_mul c y;omega)
 refine callK (Z:=[4]) tabOK mixedOK Tryz.func188 rfl (by kernel_rfl) (ShapeOK.of rfl rfl rfl rfl rfl rfl rfl rfl rfl rfl rfl) rfl σ hσ ?_
 intro W0 w0 ρ0 hE
 conv=>whnf
 (repeat((first|refine step_i (by kernel_rfl) ?_|refine step_oL (by first|omega|decide|(simp only[tl0,dlen,List.length_replicate,List.length_set,List.length_map,List.length_zipWith,List.length_take,List.length_append,List.length_cons,List.length_nil];omega)) ?_|refine g_c (by assumption) ?_|refine g_o (op_loadA rfl (ev_ok rfl) (tgt rfl) rfl (Nat.succ_ne_zero _) rfl) ?_|rw[hv]);conv=>whnf))
 exact⟨Recast.refl _,get_nil,get_cons rfl get_nil⟩
theorem m_comb {r n i q:Nat} (X:Mx) (c y:Rat) (hi:i<r) (hq:q<n) (h:fs (X i q)+(fs c+fs y)≤4398046511104):
  CallOK Tryz.prog 188 ([]++([.ptr (1010+i) 5 q 0,.frac y]++[ptrA [.frac c]])) (rowsS r n X) (.tup []) [] (rowsS r n (putX X i q (X i q+c*y))):=by
 have h0:=m_comb0 n q (rowsM n X i) c y (X i q) (rwL_len _ _) hq (rwL_get hq) h (fun k=>k+i) ⟨fun a b _ _ _ _ hne _ e=>hne (by omega),(fun _ _ h=>by cases h),fun _ _ h=>by cases h⟩
 rw[putX_set hq]at h0
 refine CallOK.more h0 ?_ ?_ ?_ ?_ ?_
 ·exact one_upd (List.mem_singleton.2 rfl) rfl rfl rfl
 ·intro x hx
  rw[List.mem_singleton.1 hx]
  exact mem_rowsE.2 ⟨i,Nat.zero_le _,by omega,rfl,rfl⟩
 ·intro x hx
  rw[List.mem_singleton.1 hx]
  exact mem_rowsE.2 ⟨i,Nat.zero_le _,by omega,rfl,rfl⟩
 ·intro k b hx
  cases List.mem_singleton.1 hx;rfl
 ·intro k b hx
  obtain⟨j,_,h2,rfl,rfl⟩:=mem_rowsE.1 hx
  by_cases e:j=i
  ·subst e;exact .inl (List.mem_singleton.2 rfl)
  ·refine .inr ⟨mem_rowsE.2 ⟨j,Nat.zero_le _,h2,rfl,by rw[putX_off e]⟩,rfl,fun b' hb=> ?_⟩
   have:=congrArg Prod.fst (List.mem_singleton.1 hb)
   simp only at this
   omega
theorem fk_rows {r n:Nat} {X:Mx} {hp:List (Nat×Blk)} (h:∀j,j<r→find hp (1010+j)=some (rwB true (rowsM n X j))):FkOK hp (rowsS r n X):=by
 intro k b hm
 obtain⟨j,_,h2,rfl,rfl⟩:=mem_rowsE.1 hm
 exact h j (by omega)
theorem upd_rows {r n:Nat} {X Y:Mx}:UpdOK (rowsS r n X) (rowsS r n Y):=by
 intro k b hm
 obtain⟨j,h1,h2,rfl,rfl⟩:=mem_rowsE.1 hm
 exact⟨_,mem_rowsE.2 ⟨j,h1,h2,rfl,rfl⟩,rfl,rfl,rfl⟩
theorem find_hpS {r n j:Nat} {X:Mx} (h:j<r):find (hpS r n X) (1010+j)=some (rwB true (rowsM n X j)):=by
 rw[find_skip (by omega),find_skip (by omega)]
 exact find_rowsE (Nat.zero_le _) (by omega)
theorem sub_cells {r n j:Nat} (hr:r≤40) (h:j<r):sub 64 (cellsE r n) j 1=some [rk j n]:=by
 have e:cellsE r n=((List.range j).map fun i=>rk i n)++rk j n::((List.range (r - j - 1)).map fun i=>rk (j+1+i) n):=by
  refine List.ext_getElem (by simp;omega) fun k h1 h2=> ?_
  simp only[List.getElem_map,List.getElem_range,List.getElem_append,List.length_map,List.length_range,List.getElem_cons]
  split
  ·rfl
  ·split
   ·have:k=j:=by omega
    rw[this]
   ·congr 2;omega
 have:=sub_mid (A:=(List.range j).map fun i=>rk i n) (B:=(List.range (r - j - 1)).map fun i=>rk (j+1+i) n) (x:=rk j n) rfl 64 (by
  intro a ha
  obtain⟨_,_,rfl⟩:=List.mem_map.1 ha
  rfl) (by simp;omega)
 rw[e]
 simpa using this
end Go.Proofs.YtfjhnollamkdcaaGreatDoor
