/- The texts Kz. -/
import Derived.Test.YtfpagioknjjacaaGreatDoorQMMatsKnown10
namespace Go.Sx
set_option linter.unusedSimpArgs false
set_option linter.unusedVariables false
theorem op_eqNilNil {P:Program} {o:Oper} {ft:List (Nat×SV)} {fk:List (Nat×Blk)} {t t2:TypeId} {x y:Operand} {p r:Array TypeId} {v:Bool} (ho:o.op= .binOp .eql t x y t2) (hx:EvOK ft x (.val .nilFunc)) (hy:EvOK ft y (.val .nilFunc)) (hu:P.underlying t=some (.func p r v)):OpOK P o ft fk (.val (.bool true)) [] []:=
 ok_pure fun ρ ac w hp=>by
  have e1:=of_has_val (hx ρ ac hp.hft)
  have e2:=of_has_val (hy ρ ac hp.hft)
  have hq:∀d,(Op.equalIn (d+1) t .nilFunc .nilFunc).run P w= .ok true w:=fun d=>by simp[Op.equalIn,run_underlying hu]
  have hq':(Op.equal t .nilFunc .nilFunc).run P w= .ok true w:=hq 9999
  refine⟨_, ?_,has_val rfl⟩
  simp[execOp,ho,e1,e2,eqGuard,binOp,hq']
theorem NamesOK.three {q r m:Nat} {a b c:Blk} {σ:Nat→Nat} (h:σ q≠σ r) (h1:σ m≠σ q) (h2:σ m≠σ r):NamesOK [(q,a),(r,b)] [(m,c)] σ where
 inj x y u v hx hy hn _:=by
  simp only[List.mem_cons,List.not_mem_nil,or_false,Prod.mk.injEq]at hx hy
  rcases hx with⟨rfl,_⟩|⟨rfl,_⟩<;>rcases hy with⟨rfl,_⟩|⟨rfl,_⟩
  ·exact absurd rfl hn
  ·exact h
  ·exact fun e=>h e.symm
  ·exact absurd rfl hn
 newInj x y hx hy hn:=by
  simp only[keysOf,List.mem_cons,List.not_mem_nil,or_false]at hx hy
  exact absurd (hx.trans hy.symm) hn
 newOld x y hx hy:=by
  simp only[keysOf,List.mem_cons,List.not_mem_nil,or_false]at hx hy
  subst hx
  rcases hy with rfl|rfl
  ·exact h1
  ·exact h2
end Go.Sx
namespace Go.Proofs.YtfpagioknjjacaaGreatDoor
open Go.Sx
set_option linter.unusedSimpArgs false
set_option linter.unusedVariables false
set_option maxRecDepth 100000
set_option maxHeartbeats 40000000
abbrev bblk (b:Bool):Blk:=⟨4,true,.one [.val (.bool b)]⟩
abbrev nblk (n:Nat):Blk:=⟨3,true,.one [iv n]⟩
abbrev capM (KA KB:Nat) (p:Pred):List SV:=[.ptr KA 0 0 0,.atom p,.ptr KB 0 0 0]
theorem m_MakeM {r c:Nat} (hr:r≤2048) (hc:c≤2048) (F:Nat→Nat→Rat) (g:FuncId) (p:Pred) (KA KB KN:Nat) (hd:KA≠KB∧KN≠KA∧KN≠KB)
  (hf:∀i k,i<r→k<c→CallOK Tryz.prog g ([]++([iv (i:Nat),iv (k:Nat)]++capM 1001 1002 p)) [(1001,bblk true),(1002,nblk (i*c+k))] (.frac (F i k)) [] [(1001,bblk true),(1002,nblk (i*c+k+1))]):
  CallOK Tryz.prog 92 [iv r,iv c,.clo g [] (capM KA KB p)] [(KA,bblk true),(KB,nblk 0)] (.tup [.agg [iv r,iv c,.slc KN 5 0 (r*c)],iv 0]) [(KN,fblk (mk r c F))] [(KA,bblk true),(KB,nblk (r*c))]:=by
 have k1:=m_sides r c
 rw[sides_of (by omega)]at k1
 have hz:(mk r c F).length=r*c:=mk_len ..
 have hrc:r*c≤2048*2048:=Nat.mul_le_mul hr hc
 have t1:IntKind.i64.wrap ((r:Int)*(c:Int))=((r*c:Nat):Int):=by rw[←Int.natCast_mul,wrap_i64 (by omega) (by omega)]
 refine callK (Z:=[]) tabOK mixedOK Tryz.func92 rfl (by kernel_rfl) (args:=[iv r,iv c,.clo g [] (capM 1001 1002 p)]) (fk:=[(1001,bblk true),(1002,nblk 0)]) (c:=.tup [.agg [iv r,iv c,.slc 25 5 0 (r*c)],iv 0]) (new:=[(25,fblk (mk r c F))]) (upd:=[(1001,bblk true),(1002,nblk (r*c))]) (ShapeOK.of rfl rfl rfl rfl rfl rfl rfl rfl rfl rfl rfl) rfl (renBy [(1001,KA),(1002,KB),(25,KN)]) (NamesOK.three hd.1 hd.2.1 hd.2.2) ?_
 intro W0 w0 ρ0 hE
 conv=>whnf
 (repeat((first|refine step_w2 rfl rfl ?_|refine step_oA (by first|omega|decide|(simp only[tl0,dlen,List.length_replicate,List.length_set,List.length_map,List.length_zipWith,List.length_take,List.length_append,List.length_cons,List.length_nil];omega)) ?_|refine g_c (by assumption) ?_|rw[bne_self_eq_false]|refine⟨_,op_eqNilF rfl (ev_ok rfl) (ev_ok rfl) Tryz.underlying137, ?_⟩|rw[t1]|rw[Int.toNat_natCast]);conv=>whnf))
 refine SW_loopN hE (fun k=>k) [0,1,2,6,9,30,31] [6,9,25,1001,1002] (fun m fr hp=>∃i:Nat,m=r - i∧i≤r∧fr=[(0,iv r),(1,iv c),(2,.clo g [] (capM 1001 1002 p)),(6,.ptr 6 0 0 0),(9,.ptr 9 0 0 0),(30,iv r),(31,iv (i:Nat))]∧
  hp=[(6,zM),(9,bM r c 25),(25,fblk ((mk r c F).take (i*c)++List.replicate (r*c - i*c) 0)),(1001,bblk true),(1002,nblk (i*c))]) r ?_ ?_ ?_
 ·kernel_rfl
 ·exact⟨0,rfl,Nat.zero_le _,rfl,by rw[Nat.zero_mul,List.take_zero];rfl⟩
 rintro m _ _ ⟨i,rfl,hi,rfl,rfl⟩
 conv=>whnf
 by_cases hlt:i<r
 ·have t2:=dlt hlt
  have t3:=winc (i:=i) (by omega)
  have hic:(i+1)*c≤r*c:=Nat.mul_le_mul_right c hlt
  rw[Nat.succ_mul]at hic
  have hlen:=fill_len (d:=(0:Rat)) (show i*c≤r*c by omega) hz
  have o1:=m_rowM (a:=(mk r c F).take (i*c)++List.replicate (r*c - i*c) 0) ⟨hr,hc,hlen⟩ hlt 25
  (repeat(first|(refine g_c1 (by assumption) rfl ?_;conv=>whnf)|(refine tst_tt t2 ?_;conv=>whnf)|(rw[t2];conv=>whnf)))
  refine SW_loopN hE (fun k=>k) [0,1,2,6,9,10,11,30,31,37,38] [6,9,25,1001,1002] (fun m fr hp=>∃k:Nat,m=c - k∧k≤c∧fr=[(0,iv r),(1,iv c),(2,.clo g [] (capM 1001 1002 p)),(6,.ptr 6 0 0 0),(9,.ptr 9 0 0 0),(10,iv (i:Nat)),(11,.slc 25 5 (i*c) c),(30,iv r),(31,iv (i:Nat)),(37,iv c),(38,iv (k:Nat))]∧
   hp=[(6,zM),(9,bM r c 25),(25,fblk ((mk r c F).take (i*c+k)++List.replicate (r*c - (i*c+k)) 0)),(1001,bblk true),(1002,nblk (i*c+k))]) c ?_ ?_ ?_
  ·kernel_rfl
  ·exact⟨0,rfl,Nat.zero_le _,rfl,rfl⟩
  rintro m _ _ ⟨k,rfl,hk,rfl,rfl⟩
  conv=>whnf
  by_cases hlk:k<c
  ·have t4:=dlt hlk
   have t5:=winc (i:=k) (by omega)
   have hlen:=fill_len (d:=(0:Rat)) (show i*c+k≤r*c by omega) hz
   have o2:=hf i k hlt hlk
   rw[←mk_el (f:=F) hlt hlk]at o2
   (repeat((first|refine step_oL (by first|omega|decide|(simp only[tl0,dlen,List.length_replicate,List.length_set,List.length_map,List.length_zipWith,List.length_take,List.length_append,List.length_cons,List.length_nil];omega)) ?_|refine step_oA (by first|omega|decide|(simp only[tl0,dlen,List.length_replicate,List.length_set,List.length_map,List.length_zipWith,List.length_take,List.length_append,List.length_cons,List.length_nil];omega)) ?_|refine⟨[_,_],_,[],[_,_],(by assumption),two_fk rfl rfl,nil_new,two_upd (List.mem_cons_self ..) rfl rfl rfl (List.mem_cons_of_mem _ (List.mem_cons_self ..)) rfl rfl rfl, ?_⟩|refine tst_tt t4 ?_|rw[t4]|rw[t5]|rw[Int.toNat_natCast]);conv=>whnf))
   refine⟨c - (k+1),fun k=>k,[0,1,2,6,9,10,11,30,31,37,38],[6,9,25,1001,1002],by omega,by kernel_rfl,k+1,rfl,hlk,rfl, ?_⟩
   rw[show i*c+(k+1)=i*c+k+1 from rfl,fblk,←fill_set (e:=0) (show i*c+k<r*c by omega) hz]
   rfl
  ·have t4:=dge hlk
   obtain rfl:k=c:=by omega
   (repeat(first|(refine tst_ff t4 ?_;conv=>whnf)|(rw[t4];conv=>whnf)|(rw[t3];conv=>whnf)))
   refine⟨r - (i+1),fun k=>k,[0,1,2,6,9,30,31],[6,9,25,1001,1002],by omega,by kernel_rfl,i+1,rfl,hlt,rfl, ?_⟩
   rw[Nat.succ_mul]
   rfl
 ·have t2:=dge hlt
  obtain rfl:i=r:=by omega
  rw[fill_all hz]
  (repeat(first|(refine tst_ff t2 ?_;conv=>whnf)))
  exact⟨Recast.refl _,(fun k b hm=>by simp only[List.mem_singleton,Prod.mk.injEq]at hm;obtain⟨rfl,rfl⟩:=hm;rfl),(fun k b hm=>by
   simp only[List.mem_cons,List.not_mem_nil,or_false,Prod.mk.injEq]at hm
   rcases hm with⟨rfl,rfl⟩|⟨rfl,rfl⟩<;>rfl)⟩
theorem m_MakeE0 {r c:Int} (g:FuncId) (h:sidesF r c≠0):CallOK Tryz.prog 92 [iv r,iv c,.clo g [] []] [] (.tup [mA 0 0 [],iv (sidesF r c)]) [] []:=by
 have k1:=m_sides r c
 have t1:(sidesF r c != 0)=true:=bne_iff_ne.2 h
 refine callF (Z:=[]) tabOK mixedOK Tryz.func92 rfl (by kernel_rfl) (by first|rfl|(simp[keylessL,keyless,keylessL_map, *];done)) (by first|rfl|(simp[keylessL,keyless,keylessL_map, *];done)) (by kernel_rfl) rfl ?_
 intro w0 ρ0 hE
 conv=>whnf
 (repeat(first|(refine g_c (by assumption) ?_;conv=>whnf)|(refine tst_tt t1 ?_;conv=>whnf)));(first|exact Recast.refl _|exact Frz.recast (Recast.refl _) rfl|(refine Frz.one rfl rfl ?_;skip)|(refine Frz.tup ?_;(repeat(first|exact FrzC.keyless rfl|exact FrzL.nil|refine FrzL.cons ?_ ?_|exact FrzC.nilS|refine FrzC.agg ?_))))
theorem m_MakeE1 {r c:Int} (g:FuncId) (p:Pred) (h:sidesF r c≠0):CallOK Tryz.prog 92 [iv r,iv c,.clo g [] [.atom p]] [] (.tup [mA 0 0 [],iv (sidesF r c)]) [] []:=by
 have k1:=m_sides r c
 have t1:(sidesF r c != 0)=true:=bne_iff_ne.2 h
 refine callF (Z:=[]) tabOK mixedOK Tryz.func92 rfl (by kernel_rfl) (by first|rfl|(simp[keylessL,keyless,keylessL_map, *];done)) (by first|rfl|(simp[keylessL,keyless,keylessL_map, *];done)) (by kernel_rfl) rfl ?_
 intro w0 ρ0 hE
 conv=>whnf
 (repeat(first|(refine g_c (by assumption) ?_;conv=>whnf)|(refine tst_tt t1 ?_;conv=>whnf)));(first|exact Recast.refl _|exact Frz.recast (Recast.refl _) rfl|(refine Frz.one rfl rfl ?_;skip)|(refine Frz.tup ?_;(repeat(first|exact FrzC.keyless rfl|exact FrzL.nil|refine FrzL.cons ?_ ?_|exact FrzC.nilS|refine FrzC.agg ?_))))
theorem m_MakeEM {r c:Int} (g:FuncId) (p:Pred) (KA KB:Nat) (a b:Blk) (ha:a=bblk true) (hb:b=nblk 0) (hd:KA≠KB) (h:sidesF r c≠0):
  CallOK Tryz.prog 92 [iv r,iv c,.clo g [] (capM KA KB p)] [(KA,a),(KB,b)] (.tup [.agg [iv 0,iv 0,.val (.slice none 0 0)],iv (sidesF r c)]) [] [(KA,a),(KB,b)]:=by
 subst ha hb
 have k1:=m_sides r c
 have t1:(sidesF r c != 0)=true:=bne_iff_ne.2 h
 refine callK (Z:=[]) tabOK mixedOK Tryz.func92 rfl (by kernel_rfl) (args:=[iv r,iv c,.clo g [] (capM 1001 1002 p)]) (fk:=[(1001,bblk true),(1002,nblk 0)]) (c:=.tup [.agg [iv 0,iv 0,.val (.slice none 0 0)],iv (sidesF r c)]) (new:=[]) (upd:=[(1001,bblk true),(1002,nblk 0)]) (ShapeOK.of rfl rfl rfl rfl rfl rfl rfl rfl rfl rfl rfl) rfl (renBy [(1001,KA),(1002,KB)]) (NamesOK.two hd) ?_
 intro W0 w0 ρ0 hE
 conv=>whnf
 (repeat(first|(refine g_c (by assumption) ?_;conv=>whnf)|(refine tst_tt t1 ?_;conv=>whnf)))
 exact⟨Recast.refl _,(fun _ _ h=>by cases h),(fun k b hm=>by
  simp only[List.mem_cons,List.not_mem_nil,or_false,Prod.mk.injEq]at hm
  rcases hm with⟨rfl,rfl⟩|⟨rfl,rfl⟩<;>rfl)⟩
theorem m_MakeN {r c:Nat} (hr:r≤2048) (hc:c≤2048):CallOK Tryz.prog 92 [iv r,iv c,.val .nilFunc] [] (.tup [mA r c (zL (r*c)),iv 0]) [] []:=by
 have k1:=m_sides r c
 rw[sides_of (by omega)]at k1
 have hrc:r*c≤2048*2048:=Nat.mul_le_mul hr hc
 have t1:IntKind.i64.wrap ((r:Int)*(c:Int))=((r*c:Nat):Int):=by rw[←Int.natCast_mul,wrap_i64 (by omega) (by omega)]
 have hz:=zL_len (r*c)
 refine callF (Z:=[]) tabOK mixedOK Tryz.func92 rfl (by kernel_rfl) (by first|rfl|(simp[keylessL,keyless,keylessL_map, *];done)) (by first|rfl|(simp[keylessL,keyless,keylessL_map, *];done)) (by kernel_rfl) rfl ?_
 intro w0 ρ0 hE
 conv=>whnf
 (repeat((first|refine step_w1 rfl rfl ?_|refine step_w2 rfl rfl ?_|refine step_oA (by first|omega|decide|(simp only[tl0,dlen,List.length_replicate,List.length_set,List.length_map,List.length_zipWith,List.length_take,List.length_append,List.length_cons,List.length_nil];omega)) ?_|refine g_c (by assumption) ?_|rw[bne_self_eq_false]|refine⟨_,op_eqNilNil rfl (ev_ok rfl) (ev_ok rfl) Tryz.underlying137, ?_⟩|rw[t1]|rw[Int.toNat_natCast]);conv=>whnf))
 (first|exact Recast.refl _|exact Frz.recast (Recast.refl _) rfl|(refine Frz.one rfl rfl ?_;skip)|(refine Frz.tup ?_;(repeat(first|exact FrzC.keyless rfl|exact FrzL.nil|refine FrzL.cons ?_ ?_|(refine FrzC.fracs rfl ?_;(first|rfl|omega|(simp<;>fail)|(simp<;>omega)))|refine FrzC.agg ?_))))
theorem m_MakeNE {r c:Int} (h:sidesF r c≠0):CallOK Tryz.prog 92 [iv r,iv c,.val .nilFunc] [] (.tup [mA 0 0 [],iv (sidesF r c)]) [] []:=by
 have k1:=m_sides r c
 have t1:(sidesF r c != 0)=true:=bne_iff_ne.2 h
 refine callF (Z:=[]) tabOK mixedOK Tryz.func92 rfl (by kernel_rfl) (by first|rfl|(simp[keylessL,keyless,keylessL_map, *];done)) (by first|rfl|(simp[keylessL,keyless,keylessL_map, *];done)) (by kernel_rfl) rfl ?_
 intro w0 ρ0 hE
 conv=>whnf
 (repeat(first|(refine g_c (by assumption) ?_;conv=>whnf)|(refine tst_tt t1 ?_;conv=>whnf)));(first|exact Recast.refl _|exact Frz.recast (Recast.refl _) rfl|(refine Frz.one rfl rfl ?_;skip)|(refine Frz.tup ?_;(repeat(first|exact FrzC.keyless rfl|exact FrzL.nil|refine FrzL.cons ?_ ?_|exact FrzC.nilS|refine FrzC.agg ?_))))
theorem m_OneE {n:Int} (h:sidesF n n≠0):CallOK Tryz.prog 57 [iv n] [] (.tup [mA 0 0 [],iv (sidesF n n)]) [] []:=by
 have k1:=m_MakeE0 192 h
 refine callV (Z:=[]) tabOK mixedOK Tryz.func57 rfl (by kernel_rfl) rfl rfl (by kernel_rfl) rfl ?_
 intro W0 w0 ρ0 hE
 conv=>whnf
 (repeat(first|(refine g_c (by assumption) ?_;conv=>whnf)));(first|exact Recast.refl _|exact Frz.recast (Recast.refl _) rfl|(refine Frz.one rfl rfl ?_;skip)|(refine Frz.tup ?_;skip))
abbrev mdiag (v:List Rat):List Rat:=mk v.length v.length fun i k=>if i=k then v.getD i 0 else 0
theorem m_Diag {v:List Rat} (hv:v.length≤2048):CallOK Tryz.prog 100 [fvec v] [] (.tup [mA v.length v.length (mdiag v),iv 0]) [] []:=by
 have k1:=m_Make1 hv hv (fun i k=>if i=k then v.getD i 0 else 0) 218 (ptrP [fvec v]) (fun i k hi hk=>by
  refine callV (Z:=[]) tabOK mixedOK Tryz.func218 rfl (by kernel_rfl) rfl rfl (by kernel_rfl) rfl ?_
  intro W0 w0 ρ0 hE
  conv=>whnf
  by_cases h:i=k
  ·have t1:((i:Int) != (k:Int))=false:=by rw[h];exact bne_self_eq_false _
   rw[if_pos h]
   (repeat(first|(refine tst_ff t1 ?_;conv=>whnf)|(refine g_o (op_indexN (α:=Rat) (d:=0) rfl (ev_ok rfl) (ev_ok rfl) (tgt rfl) rfl (tgt rfl) rfl (by omega)) ?_;conv=>whnf)|(refine g_o (op_loadA rfl (ev_ok rfl) (tgt rfl) rfl (Nat.succ_ne_zero _) rfl) ?_;conv=>whnf)));(first|exact Recast.refl _|exact Frz.recast (Recast.refl _) rfl|(refine Frz.one rfl rfl ?_;skip)|(refine Frz.tup ?_;skip))
  ·have t1:((i:Int) != (k:Int))=true:=bne_iff_ne.2 (by omega)
   rw[if_neg h]
   (repeat(first|(refine tst_tt t1 ?_;conv=>whnf)));(first|exact Recast.refl _|exact Frz.recast (Recast.refl _) rfl|(refine Frz.one rfl rfl ?_;skip)|(refine Frz.tup ?_;skip)))
 refine callV (Z:=[1]) tabOK mixedOK Tryz.func100 rfl (by kernel_rfl) rfl rfl (by kernel_rfl) rfl ?_
 intro W0 w0 ρ0 hE
 conv=>whnf
 (repeat((first|refine g_c (by assumption) ?_|refine g_o (op_lenM rfl rfl rfl (ev_ok rfl) (tgt rfl) rfl) ?_|refine g_o (op_loadA rfl (ev_ok rfl) (tgt rfl) rfl (Nat.succ_ne_zero _) rfl) ?_|refine g_o (op_makeFunc rfl rfl rfl) ?_);conv=>whnf));(first|exact Recast.refl _|exact Frz.recast (Recast.refl _) rfl|(refine Frz.one rfl rfl ?_;skip)|(refine Frz.tup ?_;skip))
theorem m_DiagE {v:List Rat} (hv:v.length=2049):CallOK Tryz.prog 100 [fvec v] [] (.tup [mA 0 0 [],iv 3]) [] []:=by
 have e:sidesF (v.length:Int) (v.length:Int)=3:=by rw[hv];rfl
 have k1:=m_MakeE1 (r:=(v.length:Int)) (c:=(v.length:Int)) 218 (ptrP [fvec v]) (by rw[e];decide)
 rw[e]at k1
 refine callV (Z:=[1]) tabOK mixedOK Tryz.func100 rfl (by kernel_rfl) rfl rfl (by kernel_rfl) rfl ?_
 intro W0 w0 ρ0 hE
 conv=>whnf
 (repeat((first|refine g_c (by assumption) ?_|refine g_o (op_lenM rfl rfl rfl (ev_ok rfl) (tgt rfl) rfl) ?_|refine g_o (op_loadA rfl (ev_ok rfl) (tgt rfl) rfl (Nat.succ_ne_zero _) rfl) ?_|refine g_o (op_makeFunc rfl rfl rfl) ?_);conv=>whnf));(first|exact Recast.refl _|exact Frz.recast (Recast.refl _) rfl|(refine Frz.one rfl rfl ?_;skip)|(refine Frz.tup ?_;skip))
end Go.Proofs.YtfpagioknjjacaaGreatDoor
