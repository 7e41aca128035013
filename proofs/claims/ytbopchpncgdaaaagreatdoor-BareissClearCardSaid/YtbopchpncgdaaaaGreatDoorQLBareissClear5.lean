/- The texts Oi, Ok, Ol. -/
import Derived.Test.YtbopchpncgdaaaaGreatDoorQLBareissClear4
namespace Go.Proofs.YtbopchpncgdaaaaGreatDoor
open Go.Sx
set_option linter.unusedSimpArgs false
set_option linter.unusedVariables false
set_option maxRecDepth 100000
set_option maxHeartbeats 40000000
theorem upL_to {s i x:Nat} (hx:x<s+1):((upL s [((s+i:Nat):Int)]).getD x 0).toNat=at1 s i x:=by
 unfold at1
 by_cases h:x<s
 ·rw[upL_at h,if_pos h];omega
 ·obtain rfl:x=s:=by omega
  rw[upL_last,if_neg h];omega
theorem upL_in {s i r:Nat} (hi:s+i<r):∀x,x<(upL s [((s+i:Nat):Int)]).length→0≤(upL s [((s+i:Nat):Int)]).getD x 0∧(upL s [((s+i:Nat):Int)]).getD x 0<r:=by
 intro x hx
 rw[upL_len]at hx
 by_cases h:x<s
 ·rw[upL_at h];omega
 ·obtain rfl:x=s:=by simp at hx;omega
  rw[upL_last];omega
theorem Zm_el {a:List Int} {r c B:Nat} (za:Zm B a) (ha:a.length=r*c) {m n:Nat} {f g:Nat→Nat} (hf:∀i,i<m→f i<r) (hg:∀i,i<n→g i<c):Zm B (mkz m n fun i k=>elz a c (f i) (g k)):=
 Zm_mk fun i k hi hk=>elz_zm za ha (hf i hi) (hg k hk)
theorem b_Stage1 {r c s B:Nat} {a:List Int} (ha:OKZ r c a) (za:Zm B a) (hB:2≤B) (hs:s<40) (hb:2*(B*4^(s+1))≤1073741824) {i k:Nat} (hi:s+i<r) (hk:s+k<c):
  CallOK Tryz.prog 173 ([]++([iv (i:Nat),iv (k:Nat)]++[ptrA (wC r c a),ptrA [iv s]])) [] (.int (bmZ s (elz a c) i k)) [] []:=by
 have hr:=ha.r
 have hc:=ha.c
 have k1:=b_upToV s [((s+i:Nat):Int)] (by omega) (by simp)
 have k2:=b_upToV s [((s+k:Nat):Int)] (by omega) (by simp)
 have k3:=b_part ha (upL_in hi) (upL_in hk) (by rw[upL_len];simp;omega) (by rw[upL_len];simp;omega)
 have e:∀x,(upL s [((s+x:Nat):Int)]).length=s+1:=fun x=>by rw[upL_len];rfl
 rw[e,e]at k3
 have k4:=b_det (n:=s+1) (B:=B) (a:=mkz (s+1) (s+1) fun x y=>elz a c ((upL s [((s+i:Nat):Int)]).getD x 0).toNat ((upL s [((s+k:Nat):Int)]).getD y 0).toNat) (OKZ.mk' (by omega) (by omega) _) hB
  (Zm_el za ha.n (fun x hx=>by rw[upL_to hx];unfold at1;split<;>omega) (fun x hx=>by rw[upL_to hx];unfold at1;split<;>omega)) (by omega) hb
 have ed:detZ (s+1) (elz (mkz (s+1) (s+1) fun x y=>elz a c ((upL s [((s+i:Nat):Int)]).getD x 0).toNat ((upL s [((s+k:Nat):Int)]).getD y 0).toNat) (s+1))=bmZ s (elz a c) i k:=
  detZ_congr fun x y hx hy=>by rw[mkz_el hx hy,upL_to hx,upL_to hy]
 rw[ed]at k4
 have w1:IntKind.i64.wrap ((s:Int)+(i:Int))=((s+i:Nat):Int):=by rw[wrap_i64 (by omega) (by omega)];omega
 have w2:IntKind.i64.wrap ((s:Int)+(k:Int))=((s+k:Nat):Int):=by rw[wrap_i64 (by omega) (by omega)];omega
 refine callV (Z:=[12,18]) tabOK mixedOK Tryz.func173 rfl (by kernel_rfl) rfl rfl (by kernel_rfl) rfl ?_
 intro W0 w0 ρ0 hE
 conv=>whnf
 (repeat((first|refine step_i (by kernel_rfl) ?_|refine g_c (by assumption) ?_|refine g_o (op_loadA rfl (ev_ok rfl) (tgt rfl) rfl (Nat.succ_ne_zero _) rfl) ?_|rw[w1]|rw[w2]);conv=>whnf));(first|exact Recast.refl _|exact Frz.recast (Recast.refl _) rfl|(refine Frz.one rfl rfl ?_;skip)|(refine Frz.tup ?_;skip))
abbrev stM (r c s:Nat) (a:List Int):List Int:=mkz (r - s) (c - s) (bmZ s (elz a c))
theorem b_Stage {r c s B:Nat} {a:List Int} (ha:OKZ r c a) (za:Zm B a) (hB:2≤B) (hs:s<40) (hb:2*(B*4^(s+1))≤1073741824) (hr':s≤r) (hc':s≤c):
  CallOK Tryz.prog 113 [wA r c a,iv s] [] (.tup [wA (r - s:Nat) (c - s:Nat) (stM r c s a),iv 0]) [] []:=by
 have hr:=ha.r
 have hc:=ha.c
 have hBb:B≤B*4^(s+1):=Nat.le_mul_of_pos_right B (Nat.pow_pos (by decide))
 have k0:=b_Check r c a (by have:=ha.n;have:r*c≤2048*2048:=Nat.mul_le_mul hr hc;omega) (fun i hi=>Nat.le_trans (za i hi) (by omega))
 rw[check_ok hr hc ha.n]at k0
 have k1:=b_begin r c a
 have k5:=b_made2 (r:=r - s) (c:=c - s) (by omega) (by omega) (bmZ s (elz a c)) 173 (ptrP (wC r c a)) (ptrP [iv s]) (fun i k hi hk=>b_Stage1 ha za hB hs hb (by omega) (by omega))
 have k6:=b_madeF (r:=r - s) (c:=c - s) (by omega) (by omega) (bmZ s (elz a c)) 136 ((r - s:Nat):Int) ((c - s:Nat):Int) (stM r c s a) (fun i k hi hk=>by
   have:=b_at (OKZ.mk' (r:=r - s) (c:=c - s) (by omega) (by omega) (bmZ s (elz a c))) hi hk
   rwa [mkz_el hi hk]at this)
 have t1:decide ((s:Int)<0)=false:=decide_eq_false (by omega)
 have t2:decide ((s:Int)>if (c:Int)<(r:Int)then(c:Int)else(r:Int))=false:=decide_eq_false (by split<;>omega)
 refine callV (Z:=[2,3]) tabOK mixedOK Tryz.func113 rfl (by kernel_rfl) rfl rfl (by kernel_rfl) rfl ?_
 intro W0 w0 ρ0 hE
 conv=>whnf
 (repeat((first|refine step_w1 rfl rfl ?_|refine step_w2 rfl rfl ?_|refine g_c (by assumption) ?_|refine g_o (op_pickF rfl (ev_ok rfl) (ev_ok rfl)) ?_|rw[bne_self_eq_false]|refine tst_ff t2 ?_|refine g_o (op_loadA rfl (ev_ok rfl) (tgt rfl) rfl (Nat.succ_ne_zero _) rfl) ?_|refine g_o (op_fieldA rfl (ev_ok rfl) (tgt rfl) rfl rfl (Nat.succ_ne_zero _) rfl) ?_|rw[t1]|rw[t2]);conv=>whnf))
 refine SW_loopN hE (fun k=>k) [2,3,4,5,7,29,30] [4,7] (fun m fr hp=>∃(i R C:Nat),m=s - i∧i≤s∧i+R=r∧i+C=c∧(∀j,j≤i→detZ j (elz a c)≠0)∧Zm (B*4^i) (mkz R C (bmZ i (elz a c)))∧zs (detZ i (elz a c))≤B*4^i∧
  fr=[(2,ptrA (wC r c a)),(3,ptrA [iv s]),(4,.ptr 4 0 0 0),(5,iv 0),(7,.ptr 7 0 0 0),(29,iv s),(30,iv (i:Nat))]∧
  hp=[(4,zW),(7,bS R C (mkz R C (bmZ i (elz a c))) (detZ i (elz a c)) 0)]) s ?_ ?_ ?_
 ·kernel_rfl
 ·have e:mkz r c (bmZ 0 (elz a c))=a:=mkz_ext ha.n fun i k hi hk=>bmZ_zero _ _ _
  refine⟨0,r,c,rfl,Nat.zero_le _,Nat.zero_add _,Nat.zero_add _,(fun j hj=>by rw[show j=0 by omega];exact(show(1:Int)≠0 by decide)), ?_, ?_,rfl, ?_⟩
  ·rw[e,Nat.pow_zero,Nat.mul_one];exact za
  ·rw[show detZ 0 (elz a c)=1 from rfl,zs_1];omega
  ·rw[e];rfl
 clear k1 k0
 rintro m _ _ ⟨i,R,C,rfl,hi,hR,hC,hne,hz,hzb,rfl,rfl⟩
 conv=>whnf
 by_cases hlt:i<s
 ·have t3:=dlt hlt
  have t4:=winc (i:=i) (by omega)
  obtain⟨R,rfl⟩:∃R',R=R'+1:=⟨R - 1,by omega⟩
  obtain⟨C,rfl⟩:∃C',C=C'+1:=⟨C - 1,by omega⟩
  have hok:OKZ (R+1) (C+1) (mkz (R+1) (C+1) (bmZ i (elz a c))):=OKZ.mk' (by omega) (by omega) _
  have k1:=b_at hok (i:=0) (k:=0) (by omega) (by omega)
  rw[mkz_el (by omega) (by omega),bmZ_first]at k1
  have k2:=c_Sign (detZ (i+1) (elz a c))
  by_cases h0:detZ (i+1) (elz a c)=0
  ·rw[h0]at k1
   have k2:=c_Sign 0
   have w1:IntKind.i64.wrap ((r:Int) - (s:Int))=((r - s:Nat):Int):=by rw[wrap_i64 (by omega) (by omega)];omega
   have w2:IntKind.i64.wrap ((c:Int) - (s:Int))=((c - s:Nat):Int):=by rw[wrap_i64 (by omega) (by omega)];omega
   (repeat((first|refine step_w1 rfl rfl ?_|refine g_c (by assumption) ?_|refine tst_tt t3 ?_|refine g_o (op_loadA rfl (ev_ok rfl) (tgt rfl) rfl (Nat.succ_ne_zero _) rfl) ?_|refine g_o (op_fieldA rfl (ev_ok rfl) (tgt rfl) rfl rfl (Nat.succ_ne_zero _) rfl) ?_|refine g_o (op_makeFunc rfl rfl rfl) ?_|rw[t3]|rw[w1]|rw[w2]);conv=>whnf));(first|exact Recast.refl _|exact Frz.recast (Recast.refl _) rfl|(refine Frz.one rfl rfl ?_;skip)|(refine Frz.tup ?_;skip))
  ·have t5:((detZ (i+1) (elz a c)).sign==0)=false:=beq_eq_false_iff_ne.2 fun e=>h0 (Int.sign_eq_zero_iff_zero.1 e)
   have hpow:B*4^i*4≤B*4^s:=by
    have:B*4^(i+1)≤B*4^s:=Nat.mul_le_mul_left B (Nat.pow_le_pow_right (by decide) (by omega))
    rwa [Nat.pow_succ,←Nat.mul_assoc]at this
   have hp4:B*4^(s+1)=B*4^s*4:=by rw[Nat.pow_succ,Nat.mul_assoc]
   have hp5:B*4^(i+1)=B*4^i*4:=by rw[Nat.pow_succ,Nat.mul_assoc]
   have k3:=b_next (b:=detZ i (elz a c)) (s:=0) hok hz (by omega)
   have en:nxt R C (mkz (R+1) (C+1) (bmZ i (elz a c))) (detZ i (elz a c))=mkz R C (bmZ (i+1) (elz a c)):=mkz_congr fun p q hp hq=>by
    rw[crZ,mkz_el (by omega) (by omega),mkz_el (by omega) (by omega),mkz_el (by omega) (by omega),mkz_el (by omega) (by omega)]
    exact bmZ_div (hne i (Nat.le_refl _)) p q
   have hz':Zm (B*4^(i+1)) (mkz R C (bmZ (i+1) (elz a c))):=by
    rw[←en,hp5]
    exact Zm_mk fun p q hp hq=>Nat.le_trans (zs_div _ _) (by have:=crZ_zs hz hok.n hp hq;omega)
   have hzb':zs (detZ (i+1) (elz a c))≤B*4^(i+1):=by
    have:=elz_zm hz hok.n (i:=0) (k:=0) (by omega) (by omega)
    rw[mkz_el (by omega) (by omega),bmZ_first]at this;omega
   rw[en,mkz_el (by omega) (by omega),bmZ_first]at k3
   have w3:IntKind.i64.wrap ((s:Int) - 1)=((s - 1:Nat):Int):=by rw[wrap_i64 (by omega) (by omega)];omega
   by_cases hlast:i=s - 1
   ·have t6:((i:Int)==((s - 1:Nat):Int))=true:=by rw[hlast];exact beq_self_eq_true _
    obtain rfl:R=r - s:=by omega
    obtain rfl:C=c - s:=by omega
    rw[show i+1=s by omega]at*
    (repeat((first|refine g_c (by assumption) ?_|refine tst_tt t3 ?_|refine tst_ff t5 ?_|refine tst_tt t6 ?_|refine g_o (op_loadA rfl (ev_ok rfl) (tgt rfl) rfl (Nat.succ_ne_zero _) rfl) ?_|refine g_o (op_makeFunc rfl rfl rfl) ?_|rw[t3]|rw[t5]|rw[w3]);conv=>whnf));(first|exact Recast.refl _|exact Frz.recast (Recast.refl _) rfl|(refine Frz.one rfl rfl ?_;skip)|(refine Frz.tup ?_;skip))
   ·have t6:((i:Int)==((s - 1:Nat):Int))=false:=beq_eq_false_iff_ne.2 (by omega)
    (repeat((first|refine g_c (by assumption) ?_|refine tst_tt t3 ?_|refine tst_ff t5 ?_|refine tst_ff t6 ?_|refine g_o (op_loadA rfl (ev_ok rfl) (tgt rfl) rfl (Nat.succ_ne_zero _) rfl) ?_|rw[t3]|rw[t5]|rw[w3]|rw[t6]|rw[t4]|rw[Nat.zero_add]);conv=>whnf))
    exact⟨s - (i+1),fun k=>k,[2,3,4,5,7,29,30],[4,7],by omega,by kernel_rfl,i+1,R,C,rfl,hlt,by omega,by omega,(fun j hj=>by
     by_cases e:j=i+1
     ·rw[e];exact h0
     ·exact hne j (by omega)),hz',hzb',rfl,rfl⟩
 ·have t3:=dge hlt
  obtain rfl:i=s:=by omega
  obtain rfl:R=r - i:=by omega
  obtain rfl:C=c - i:=by omega
  (repeat(first|(refine g_c (by assumption) ?_;conv=>whnf)|(refine tst_ff t3 ?_;conv=>whnf)|(refine g_o (op_makeFunc rfl rfl rfl) ?_;conv=>whnf)));(first|exact Recast.refl _|exact Frz.recast (Recast.refl _) rfl|(refine Frz.one rfl rfl ?_;skip)|(refine Frz.tup ?_;skip))
end Go.Proofs.YtbopchpncgdaaaaGreatDoor
namespace Go.Sx
set_option linter.unusedSimpArgs false
set_option linter.unusedVariables false
section
variable {P:Program} {o:Oper} {ft:List (Nat×SV)} {fk:List (Nat×Blk)}
theorem op_clear1 {t e:TypeId} {x:Operand} {xs':Array Operand} {ts:Array TypeId} {ti te:TI} {k i:Nat} {ty:TypeId} {kd:IntKind} {xs:List Int} (ho:o.op= .call ⟨.builtin .clear,xs',ts⟩) (hxs:xs'= #[x]) (hts:ts= #[t])
  (hx:EvOK ft x (.slc k 1 i 1)) (ht:TOK P t ti) (hk:ti.kind= .slc e) (he:TOK P e te) (hz:te.zero=[.val (.int kd 0)]) (hf:(k,⟨ty,true,.ints kd xs⟩)∈fk) (hi:i<xs.length):
  OpOK P o ft fk .any [] [(k,⟨ty,true,.ints kd (xs.set i 0)⟩)]:=
 ok_value fun ρ a w hpre=>by
  obtain⟨z,hz1,hz2⟩:=he.zeroValue
  have hz3:z.cells= #[.int kd 0]:=by
   apply Array.ext'
   rw[hz2,hz];rfl
  have hzc:(Builtin.zeroCells #[Value.int kd 0] 1).toList=[.int kd 0]:=by simp[Builtin.zeroCells]
  have hu:=ht.kind;rw[hk]at hu
  rcases has_slc (hx ρ a hpre.hft)with⟨b,t',cap,h1,h2,h3,h4⟩|⟨h0,_⟩
  ·rcases hpre.hfk k _ hf with g0|⟨b',n',vs,ex,g1,g2,g3,g4,g5⟩|⟨g1,_⟩
   ·cases g0
   ·rw[h1]at g1
    cases g1
    simp only[DataC]at g3
    rw[Data.obj_cells rfl]at g2
    have g2:w.heap[b]? =some (.cells (vs++ex).toArray ty (0,0)):=g2
    have hvl:vs.length=xs.length:=by rw[g3,List.length_map]
    have hsc:=run_storeCells_at (P:=P) b i ty [.int kd 0] 0 (vs++ex).toArray w g2 (by simp;omega) (fun v hv=>by simp at hv;subst hv;rfl)
    have hrow:((vs++ex).toArray.toList.take (i+0)++[Value.int kd 0]++(vs++ex).toArray.toList.drop (i+0+[Value.int kd 0].length))=(xs.set i 0).map (.int kd)++ex:=by
     rw[g3,List.map_set,List.set_eq_take_append_cons_drop,if_pos (by rw[List.length_map];exact hi)]
     simp only[Nat.add_zero,List.length_singleton]
     rw[List.take_append_of_le_length (by rw[List.length_map];omega),List.drop_append_of_le_length (by rw[List.length_map];omega)]
     simp
    rw[hrow]at hsc
    rw[Nat.mul_one]at h4
    refine⟨.tuple #[],w.setRow b ((xs.set i 0).map (Value.int kd)++ex).toArray,ρ, ?_, ?_⟩
    ·simp[execOp,ho,hxs,hts,resolve,invoke,builtin,Builtin.clear_,run_underlying hu,h4,hz1,hz3,hzc,hsc]
    ·refine⟨.refl ρ,trivial,fun _ _=>rfl,⟨rfl,rfl,rfl,by simp[World.setRow],fun i hi hn=> ?_⟩,fun j bj hj=> ?_,(fun j c c' h1 h2 h3 h4=> ?_),(fun _ _ _ h=>by cases h),(fun _ _ _ _ _ _ h=>by cases h),fun b o h=>.inl h⟩
     ·refine heap_setRow_other fun hib=>hn ⟨k,_,t',List.mem_cons_self .., ?_⟩
      rw[hib];exact h1
     ·rcases hj with hj|hj
      ·simp only[List.mem_singleton,Prod.mk.injEq]at hj
       obtain⟨rfl,rfl⟩:=hj
       refine .inr (.inl ⟨b,t',_,ex,h1,by rw[Data.obj_cells rfl];exact heap_setRow_same g2,rfl, ?_,g5⟩)
       rw[←g4];simp[hvl]
      ·cases hj
     ·simp only[List.mem_singleton,Prod.mk.injEq]at h1 h2
      obtain⟨_,rfl⟩:=h1
      obtain⟨_,rfl⟩:=h2
      rw[h3]at h4;cases h4
   ·rw[h1]at g1;cases g1
  ·omega
end
end Go.Sx
namespace Go.Proofs.YtbopchpncgdaaaaGreatDoor
open Go.Sx
set_option linter.unusedSimpArgs false
set_option linter.unusedVariables false
set_option maxRecDepth 100000
set_option maxHeartbeats 40000000
def dlS (n j m:Nat):List Int:=(List.range n).map fun p:Nat=>if j≤p∧p<m then(p:Int)+1 else p
theorem dlS_len (n j m:Nat):(dlS n j m).length=n:=by simp[dlS]
theorem dlS_at {n j m p:Nat} (hp:p<n):(dlS n j m).getD p 0=if j≤p∧p<m then(p:Int)+1 else p:=by
 simp[dlS,List.getD_eq_getElem?_getD,hp]
theorem dlS_start (n j:Nat):dlS n j j=upN n:=by
 refine zec_ext (dlS_len ..) (upN_len _) fun p hp=> ?_
 rw[dlS_at hp,upN_at hp,if_neg (by omega)]
theorem dlS_set {n j m:Nat} (hm:m<n) (hj:j≤m):(dlS n j m).set m ((m:Int)+1)=dlS n j (m+1):=by
 refine zec_ext (by rw[List.length_set,dlS_len]) (dlS_len ..) fun p hp=> ?_
 rw[dlS_at hp,List.getD_eq_getElem?_getD,List.getElem?_set]
 by_cases e:m=p
 ·subst e;rw[if_pos rfl,if_pos (by rw[dlS_len];exact hm),if_pos (by omega)];rfl
 ·rw[if_neg e,←List.getD_eq_getElem?_getD,dlS_at hp]
  by_cases g:j≤p∧p<m
  ·rw[if_pos g,if_pos (by omega)]
  ·rw[if_neg g,if_neg (by omega)]
abbrev butN (n j:Nat):List Int:=(List.range (n - 1)).map fun p:Nat=>((sk j p:Nat):Int)
theorem butN_len (n j:Nat):(butN n j).length=n - 1:=by simp
theorem butN_at {n j p:Nat} (hp:p<n - 1):(butN n j).getD p 0=(sk j p:Nat):=by
 simp[butN,List.getD_eq_getElem?_getD,hp]
theorem dlS_but (n j:Nat) (hj:j<n):((dlS n j (n - 1)).set (n - 1) 0).take (n - 1)=butN n j:=by
 refine zec_ext (by rw[List.length_take,List.length_set,dlS_len];omega) (butN_len ..) fun p hp=> ?_
 rw[butN_at hp,List.getD_eq_getElem?_getD,List.getElem?_take,if_pos hp,List.getElem?_set_ne (by omega),←List.getD_eq_getElem?_getD,dlS_at (by omega)]
 unfold sk
 by_cases g:p<j
 ·rw[if_neg (by omega),if_pos g]
 ·rw[if_pos (by omega),if_neg g];omega
theorem b_isN (x j:Nat) (h:x<100000) (h2:j<100000):CallOK Tryz.prog 179 ([]++([iv (x:Nat)]++[ptrA [iv j]])) [] (.val (.bool (decide (x=j)))) [] []:=by
 have e:((x:Int)==(j:Int))=decide (x=j):=by
  by_cases h:x=j
  ·rw[h,decide_eq_true rfl];exact beq_self_eq_true _
  ·rw[decide_eq_false h];exact beq_eq_false_iff_ne.2 (by omega)
 rw[←e]
 refine callV (Z:=[]) tabOK mixedOK Tryz.func179 rfl (by kernel_rfl) rfl rfl (by kernel_rfl) rfl ?_
 intro W0 w0 ρ0 hE
 conv=>whnf
 (repeat(first|(refine g_o (op_loadA rfl (ev_ok rfl) (tgt rfl) rfl (Nat.succ_ne_zero _) rfl) ?_;conv=>whnf)));(first|exact Recast.refl _|exact Frz.recast (Recast.refl _) rfl|(refine Frz.one rfl rfl ?_;skip)|(refine Frz.tup ?_;skip))
theorem b_Index {n j:Nat} (hj:j<n) (hn:n≤2048) (K:Nat):CallOK Tryz.prog 170 [.slc K 1 0 n,.clo 179 [] [ptrA [iv j]]] [(K,iblkM (upN n))] (iv (j:Nat)) [] []:=by
 refine CallOK.anyWr ?_
 refine callK (Z:=[]) tabOK mixedOK Tryz.func170 rfl (by kernel_rfl) (args:=[.slc 1001 1 0 n,.clo 179 [] [ptrA [iv j]]]) (fk:=[(1001,⟨3,false,.ints .i64 (upN n)⟩)]) (c:=iv (j:Nat)) (new:=[]) (upd:=[]) (ShapeOK.of rfl rfl rfl rfl rfl rfl rfl rfl rfl rfl rfl) rfl (fun _=>K) (NamesOK.ro rfl) ?_
 intro W0 w0 ρ0 hE
 conv=>whnf
 skip
 refine SW_loopN hE (fun k=>k) [0,1,7,8] [1001] (fun m fr hp=>∃i:Nat,m=n - i∧i≤j∧fr=[(0,.slc 1001 1 0 n),(1,.clo 179 [] [ptrA [iv j]]),(7,iv n),(8,iv (i:Nat))]∧hp=[(1001,⟨3,false,.ints .i64 (upN n)⟩)]) n ?_ ?_ ?_
 ·kernel_rfl
 ·exact⟨0,rfl,Nat.zero_le _,rfl,rfl⟩
 rintro m _ _ ⟨i,rfl,hi,rfl,rfl⟩
 conv=>whnf
 have t1:=dlt (show i<n by omega)
 have t2:=winc (i:=i) (by omega)
 have g1:=upN_at (show i<n by omega)
 have lq:=upN_len n
 have k1:=b_isN i j (by omega) (by omega)
 by_cases e:i=j
 ·subst e
  rw[decide_eq_true rfl]at k1
  (repeat((first|refine step_w1 rfl rfl ?_|refine step_oL (by first|omega|decide|(simp only[tl0,dlen,List.length_replicate,List.length_set,List.length_map,List.length_zipWith,List.length_take,List.length_append,List.length_cons,List.length_nil];omega)) ?_|refine step_oA (by first|omega|decide|(simp only[tl0,dlen,List.length_replicate,List.length_set,List.length_map,List.length_zipWith,List.length_take,List.length_append,List.length_cons,List.length_nil];omega)) ?_|refine g_c (by assumption) ?_|refine tst_tt t1 ?_|rw[t1]|rw[g1]|rw[Int.toNat_natCast]|rw[Nat.zero_add]);conv=>whnf))
  exact⟨Recast.refl _,(fun _ _ h=>by cases h),(fun _ _ h=>by cases h)⟩
 ·rw[decide_eq_false e]at k1
  (repeat((first|refine step_w2 rfl rfl ?_|refine step_oL (by first|omega|decide|(simp only[tl0,dlen,List.length_replicate,List.length_set,List.length_map,List.length_zipWith,List.length_take,List.length_append,List.length_cons,List.length_nil];omega)) ?_|refine step_oA (by first|omega|decide|(simp only[tl0,dlen,List.length_replicate,List.length_set,List.length_map,List.length_zipWith,List.length_take,List.length_append,List.length_cons,List.length_nil];omega)) ?_|refine g_c (by assumption) ?_|refine tst_tt t1 ?_|rw[t1]|rw[g1]|rw[t2]|rw[Int.toNat_natCast]|rw[Nat.zero_add]);conv=>whnf))
  exact⟨n - (i+1),fun k=>k,[0,1,7,8],[1001],by omega,by kernel_rfl,i+1,rfl,by omega,rfl,rfl⟩
theorem b_Delete {n j:Nat} (hj:j<n) (hn:n≤2048) (K:Nat):CallOK Tryz.prog 178 [.slc K 1 0 n,.clo 179 [] [ptrA [iv j]]] [(K,iblkM (upN n))] (.slc K 1 0 (n - 1)) [] [(K,iblkM ((dlS n j (n - 1)).set (n - 1) 0))]:=by
 refine callK (Z:=[]) tabOK mixedOK Tryz.func178 rfl (by kernel_rfl) (args:=[.slc 1001 1 0 n,.clo 179 [] [ptrA [iv j]]]) (fk:=[(1001,iblkM (upN n))]) (c:=.slc 1001 1 0 (n - 1)) (new:=[]) (upd:=[(1001,iblkM ((dlS n j (n - 1)).set (n - 1) 0))]) (ShapeOK.of rfl rfl rfl rfl rfl rfl rfl rfl rfl rfl rfl) rfl (fun _=>K) NamesOK.upd ?_
 have k0:=b_Index hj hn 1001
 have t0:((j:Int)== -1)=false:=beq_eq_false_iff_ne.2 (by omega)
 have t9:=winc (i:=j) (by omega)
 intro W0 w0 ρ0 hE
 conv=>whnf
 (repeat(first|(refine step_w2 rfl rfl ?_;conv=>whnf)|(refine g_c1 (by assumption) rfl ?_;conv=>whnf)|(rw[t0];conv=>whnf)))
 refine SW_loopN hE (fun k=>k) [0,1,5,6] [1001] (fun m fr hp=>∃i:Nat,m=n - (i+1)∧j≤i∧i<n∧fr=[(0,.slc 1001 1 0 n),(1,.clo 179 [] [ptrA [iv j]]),(5,iv (i:Nat)),(6,iv (i+1:Nat))]∧hp=[(1001,iblkM (dlS n j i))]) (n - (j+1)) ?_ ?_ ?_
 ·kernel_rfl
 ·exact⟨j,rfl,Nat.le_refl _,hj,by rw[←t9];rfl,by rw[dlS_start];rfl⟩
 clear k0
 rintro m _ _ ⟨i,rfl,hji,hi,rfl,rfl⟩
 conv=>whnf
 have lq:=dlS_len n j i
 by_cases hlt:i+1<n
 ·have t1:decide (((i+1:Nat):Int)<(n:Int))=true:=decide_eq_true (by omega)
  have t2:=winc (i:=i) (by omega)
  have t3:=winc (i:=i+1) (by omega)
  have g1:(dlS n j i).getD (i+1) 0=((i+1:Nat):Int):=by rw[dlS_at hlt,if_neg (by omega)]
  have k1:=b_isN (i+1) j (by omega) (by omega)
  rw[decide_eq_false (by omega)]at k1
  (repeat((first|refine step_w1 rfl rfl ?_|refine step_oL (by first|omega|decide|(simp only[tl0,dlen,List.length_replicate,List.length_set,List.length_map,List.length_zipWith,List.length_take,List.length_append,List.length_cons,List.length_nil];omega)) ?_|refine step_oA (by first|omega|decide|(simp only[tl0,dlen,List.length_replicate,List.length_set,List.length_map,List.length_zipWith,List.length_take,List.length_append,List.length_cons,List.length_nil];omega)) ?_|refine g_c (by assumption) ?_|refine tst_tt t1 ?_|rw[t1]|rw[g1]|rw[t2]|rw[t3]|rw[Int.toNat_natCast]|rw[Nat.zero_add]);conv=>whnf))
  refine⟨n - (i+1+1),fun k=>k,[0,1,5,6],[1001],by omega,by kernel_rfl,i+1,rfl,by omega,hlt,rfl, ?_⟩
  rw[←dlS_set hi hji]
  rfl
 ·have t1:decide (((i+1:Nat):Int)<(n:Int))=false:=decide_eq_false (by omega)
  obtain rfl:i=n - 1:=by omega
  have e1:((n:Int) - ((n - 1:Nat):Int)).toNat=1:=by omega
  have e2:(((n - 1:Nat):Int)).toNat=n - 1:=by omega
  have lq2:((dlS n j (n - 1)).set (n - 1) 0).length=n:=by rw[List.length_set,dlS_len]
  (repeat((first|refine step_oA (by first|omega|decide|(simp only[tl0,dlen,List.length_replicate,List.length_set,List.length_map,List.length_zipWith,List.length_take,List.length_append,List.length_cons,List.length_nil];omega)) ?_|refine tst_ff t1 ?_|refine⟨.any,[(1001,iblkM (dlS n j (n - 1)))],[],[(1001,iblkM ((dlS n j (n - 1)).set (n - 1) 0))],op_clear1 rfl rfl rfl (ev_ok rfl) (tabOK.get (t:=29) rfl) rfl (tabOK.get (t:=3) rfl) rfl (List.mem_cons_self ..) (by omega),one_fk rfl,nil_new,one_upd (List.mem_cons_self ..) rfl rfl rfl, ?_⟩|rw[t1]|rw[e1]|rw[e2]|rw[Nat.zero_add]);conv=>whnf))
  exact⟨by rw[show((n - 1:Nat):Int) - 0=((n - 1:Nat):Int)from Int.sub_zero _,e2];exact Recast.refl _,(fun _ _ h=>by cases h),(fun k b h=>by simp only[List.mem_singleton,Prod.mk.injEq]at h;obtain⟨rfl,rfl⟩:=h;rfl)⟩
theorem b_but {r c:Nat} (a:List Int) {j:Nat} (hj:j<r) (hr:r≤2048):CallOK Tryz.prog 177 ([]++([iv (j:Nat)]++[ptrA (wC r c a)])) [] (ivec .i64 (butN r j)) [] []:=by
 have k1:=(b_upToM r [] hr (by simp)).wk (args:=[iv r,.val (.slice none 0 0)]) (by repeat(first|exact WkL.nil|refine WkL.cons ?_ ?_|exact Wk.nil|exact Wk.refl|refine Wk.agg ?_))
 rw[show upL r []=upN r from List.append_nil _]at k1
 have k2:=b_Delete hj hr 2001
 refine callF (Z:=[2]) tabOK mixedOK Tryz.func177 rfl (by kernel_rfl) (by first|rfl|(simp[keylessL,keyless,keylessL_map, *];done)) (by first|rfl|(simp[keylessL,keyless,keylessL_map, *];done)) (by kernel_rfl) rfl ?_
 intro w0 ρ0 hE
 conv=>whnf
 (repeat((first|refine g_cn (by assumption) rfl ?_|refine g_c1u (by assumption) rfl rfl ?_|refine g_o (op_loadA rfl (ev_ok rfl) (tgt rfl) rfl (Nat.succ_ne_zero _) rfl) ?_|refine g_o (op_fieldA rfl (ev_ok rfl) (tgt rfl) rfl rfl (Nat.succ_ne_zero _) rfl) ?_|refine g_o (op_makeFunc rfl rfl rfl) ?_);conv=>whnf))
 rw[←dlS_but r j hj]
 refine Frz.one rfl rfl ?_
 have:=FrzC.slc (k:=2001) (w:=1) (i:=0) (n:=r - 1) (ty:=3) (d:=.ints .i64 ((dlS r j (r - 1)).set (r - 1) 0)) (xs:=((dlS r j (r - 1)).set (r - 1) 0).map fun x=>.val (.int .i64 x)) (hp:=[(2001,iblkM ((dlS r j (r - 1)).set (r - 1) 0))]) rfl rfl rfl (keylessL_map (fun _=>rfl) _) (by simp[dlS_len])
 rw[cutL,List.drop_zero,Nat.zero_add,Nat.sub_zero,←List.map_take]at this
 exact this
def adjZ (n:Nat) (A:Mz):Mz:=fun i k=>sgZ (i+k)*detZ (n - 1) fun a b=>A (sk k a) (sk i b)
theorem butN_in {n j:Nat}:∀x,x<(butN n j).length→0≤(butN n j).getD x 0∧(butN n j).getD x 0<n:=by
 intro x hx
 rw[butN_len]at hx
 rw[butN_at hx]
 have:=sk_lt (k:=j) hx
 omega
theorem b_Adj1 {n B:Nat} {a:List Int} (ha:OKZ n n a) (za:Zm B a) (hB:2≤B) (hn:n≤40) (hb:2*(B*4^n)≤1073741824) {i k:Nat} (hi:i<n) (hk:k<n):
  CallOK Tryz.prog 176 ([]++([iv (i:Nat),iv (k:Nat)]++[ptrA (wC n n a)])) [] (.int (adjZ n (elz a n) i k)) [] []:=by
 have k1:=b_but (c:=n) a hk (by omega)
 have k2:=b_but (c:=n) a hi (by omega)
 have k3:=b_part ha (p:=butN n k) (q:=butN n i) butN_in butN_in (by rw[butN_len];omega) (by rw[butN_len];omega)
 rw[butN_len,butN_len]at k3
 have hpow:B*4^(n - 1)≤B*4^n:=Nat.mul_le_mul_left B (Nat.pow_le_pow_right (by decide) (by omega))
 have k4:=b_det (n:=n - 1) (B:=B) (a:=mkz (n - 1) (n - 1) fun x y=>elz a n ((butN n k).getD x 0).toNat ((butN n i).getD y 0).toNat) (OKZ.mk' (by omega) (by omega) _) hB
  (Zm_el za ha.n (fun x hx=>by rw[butN_at hx];have:=sk_lt (k:=k) hx;omega) (fun x hx=>by rw[butN_at hx];have:=sk_lt (k:=i) hx;omega)) (by omega) (by omega)
 have ed:detZ (n - 1) (elz (mkz (n - 1) (n - 1) fun x y=>elz a n ((butN n k).getD x 0).toNat ((butN n i).getD y 0).toNat) (n - 1))=detZ (n - 1) fun x y=>elz a n (sk k x) (sk i y):=
  detZ_congr fun x y hx hy=>by rw[mkz_el hx hy,butN_at hx,butN_at hy];rfl
 rw[ed]at k4
 have w1:IntKind.i64.wrap ((i:Int)+(k:Int))=((i+k:Nat):Int):=by rw[wrap_i64 (by omega) (by omega)];omega
 have e3:((i+k:Nat):Int).tmod 2=((i+k:Nat):Int) % 2:=Int.tmod_eq_emod_of_nonneg (Int.natCast_nonneg _)
 rw[adjZ,sgZ_mod]
 generalize (detZ (n - 1) fun x y=>elz a n (sk k x) (sk i y))=D at*
 by_cases hodd:(i+k) % 2=1
 ·have t2:(((i+k:Nat):Int).tmod 2==1)=true:=by rw[e3];exact beq_iff_eq.2 (by omega)
  have k5:=c_Neg D
  rw[if_pos hodd,Int.neg_one_mul]
  refine callV (Z:=[]) tabOK mixedOK Tryz.func176 rfl (by kernel_rfl) rfl rfl (by kernel_rfl) rfl ?_
  intro W0 w0 ρ0 hE
  conv=>whnf
  (repeat((first|refine step_i (by kernel_rfl) ?_|refine step_oN (by first|omega|decide|(simp only[tl0,dlen,List.length_replicate,List.length_set,List.length_map,List.length_zipWith,List.length_take,List.length_append,List.length_cons,List.length_nil];omega)) ?_|refine g_c (by assumption) ?_|refine tst_tt t2 ?_|refine g_o (op_loadA rfl (ev_ok rfl) (tgt rfl) rfl (Nat.succ_ne_zero _) rfl) ?_|refine g_o (op_makeFunc rfl rfl rfl) ?_|rw[w1]);conv=>whnf));(first|exact Recast.refl _|exact Frz.recast (Recast.refl _) rfl|(refine Frz.one rfl rfl ?_;skip)|(refine Frz.tup ?_;skip))
 ·have t2:(((i+k:Nat):Int).tmod 2==1)=false:=by rw[e3];exact beq_eq_false_iff_ne.2 (by omega)
  rw[if_neg hodd,Int.one_mul]
  refine callV (Z:=[]) tabOK mixedOK Tryz.func176 rfl (by kernel_rfl) rfl rfl (by kernel_rfl) rfl ?_
  intro W0 w0 ρ0 hE
  conv=>whnf
  (repeat((first|refine step_i (by kernel_rfl) ?_|refine step_oN (by first|omega|decide|(simp only[tl0,dlen,List.length_replicate,List.length_set,List.length_map,List.length_zipWith,List.length_take,List.length_append,List.length_cons,List.length_nil];omega)) ?_|refine g_c (by assumption) ?_|refine tst_ff t2 ?_|refine g_o (op_loadA rfl (ev_ok rfl) (tgt rfl) rfl (Nat.succ_ne_zero _) rfl) ?_|refine g_o (op_makeFunc rfl rfl rfl) ?_|rw[w1]);conv=>whnf));(first|exact Recast.refl _|exact Frz.recast (Recast.refl _) rfl|(refine Frz.one rfl rfl ?_;skip)|(refine Frz.tup ?_;skip))
theorem b_Adjugate {n B:Nat} {a:List Int} (ha:OKZ n n a) (za:Zm B a) (hB:2≤B) (hB2:B≤536870912) (hn:n≤40) (hb:2*(B*4^n)≤1073741824):
  CallOK Tryz.prog 115 [wA n n a] [] (.tup [wA n n (mkz n n (adjZ n (elz a n))),iv 0]) [] []:=by
 have k0:=b_square n n a (by have:=ha.n;have:n*n≤40*40:=Nat.mul_le_mul hn hn;omega) (fun i hi=>Nat.le_trans (za i hi) hB2)
 rw[check_ok ha.r ha.c ha.n,if_pos rfl,if_pos rfl]at k0
 have k1:=b_made1 (r:=n) (c:=n) (by omega) (by omega) (adjZ n (elz a n)) 176 (ptrP (wC n n a)) (fun i k hi hk=>b_Adj1 ha za hB hn hb hi hk)
 refine callV (Z:=[1]) tabOK mixedOK Tryz.func115 rfl (by kernel_rfl) rfl rfl (by kernel_rfl) rfl ?_
 intro W0 w0 ρ0 hE
 conv=>whnf
 (repeat((first|refine step_w2 rfl rfl ?_|refine g_c (by assumption) ?_|rw[bne_self_eq_false]|refine g_o (op_loadA rfl (ev_ok rfl) (tgt rfl) rfl (Nat.succ_ne_zero _) rfl) ?_|refine g_o (op_fieldA rfl (ev_ok rfl) (tgt rfl) rfl rfl (Nat.succ_ne_zero _) rfl) ?_|refine g_o (op_makeFunc rfl rfl rfl) ?_);conv=>whnf));(first|exact Recast.refl _|exact Frz.recast (Recast.refl _) rfl|(refine Frz.one rfl rfl ?_;skip)|(refine Frz.tup ?_;skip))
end Go.Proofs.YtbopchpncgdaaaaGreatDoor
namespace Go.Proofs.YtbopchpncgdaaaaGreatDoor
open Go.Sx
set_option linter.unusedSimpArgs false
set_option linter.unusedVariables false
set_option maxRecDepth 100000
set_option maxHeartbeats 40000000
def mlS (all:Nat) (x:Rat):Nat:=all*(x.den/Nat.gcd all x.den)
def mlF (l:List Rat):Nat:=l.foldl mlS 1
theorem mlF_take {l:List Rat} {i:Nat} (hi:i<l.length):mlF (l.take (i+1))=mlS (mlF (l.take i)) (l.getD i 0):=by
 rw[mlF,List.take_add_one,List.getElem?_eq_getElem hi,List.foldl_append,List.getD_eq_getElem?_getD,List.getElem?_eq_getElem hi];rfl
theorem mlS_pos {a:Nat} {x:Rat} (ha:0<a):0<mlS a x:=by
 unfold mlS
 exact Nat.mul_pos ha (Nat.div_pos (Nat.le_of_dvd x.den_pos (Nat.gcd_dvd_right _ _)) (Nat.gcd_pos_of_pos_left _ ha))
theorem mlF_pos:∀(l:List Rat) (a:Nat),0<a→0<l.foldl mlS a
 |[],_,h=>h
 |x::l,a,h=>mlF_pos l _ (mlS_pos h)
theorem den_fs (x:Rat):sz x.den+1≤fs x:=by have:=fsz_den x;unfold fs;omega
theorem mlF_sz {l:List Rat} {B:Nat} (h:Sm B l):∀i,i≤l.length→sz (mlF (l.take i))≤1+i*B
 |0,_=>by rw[List.take_zero,mlF,List.foldl_nil,sz_one];omega
 |i+1,hi=>by
  have h1:=mlF_sz h i (by omega)
  have h2:=h i (by omega)
  have h3:=den_fs (l.getD i 0)
  have h4:=sz_mul (mlF (l.take i)) ((l.getD i 0).den/Nat.gcd (mlF (l.take i)) (l.getD i 0).den)
  have h5:=sz_div (l.getD i 0).den (Nat.gcd (mlF (l.take i)) (l.getD i 0).den)
  rw[mlF_take (by omega),mlS,Nat.succ_mul];omega
theorem b_multiple {l:List Rat} {B:Nat} (hz:Sm B l) (hl:l.length<1099511627776) (hb:1+(l.length+1)*B≤1073741824):CallOK Tryz.prog 117 [fvec l] [] (.nat (mlF l)) [] []:=by
 have k0:=c_nOf 1 (by decide)
 refine callV (Z:=[]) tabOK mixedOK Tryz.func117 rfl (by kernel_rfl) rfl rfl (by kernel_rfl) rfl ?_
 intro W0 w0 ρ0 hE
 conv=>whnf
 (repeat(first|(refine g_c (by assumption) ?_;conv=>whnf)|(refine g_o (op_lenM rfl rfl rfl (ev_ok rfl) (tgt rfl) rfl) ?_;conv=>whnf)))
 refine SW_loopN hE (fun k=>k) [2,3,11,12,13] [2,3] (fun m fr hp=>∃i,m=l.length - i∧i≤l.length∧fr=[(2,.ptr 2 0 0 0),(3,.ptr 3 0 0 0),(11,fvec l),(12,iv (l.length:Nat)),(13,iv (i:Nat))]∧
  hp=[(2,⟨47,true,.one [.nat 0]⟩),(3,⟨47,true,.one [.nat (mlF (l.take i))]⟩)]) l.length ?_ ?_ ?_
 ·kernel_rfl
 ·exact⟨0,rfl,Nat.zero_le _,rfl,rfl⟩
 clear k0
 rintro m _ _ ⟨i,rfl,hi,rfl,rfl⟩
 conv=>whnf
 by_cases hlt:i<l.length
 ·have t1:=dlt hlt
  have t2:=winc (i:=i) (by omega)
  have h1:=mlF_sz hz i hi
  have h2:=hz i hlt
  have h3:i*B≤l.length*B:=Nat.mul_le_mul_right B hi
  rw[Nat.succ_mul]at hb
  have h4:=den_fs (l.getD i 0)
  have h0:0<mlF (l.take i):=mlF_pos _ _ (by decide)
  have hg:Nat.gcd (mlF (l.take i)) (l.getD i 0).den≠0:=Nat.pos_iff_ne_zero.1 (Nat.gcd_pos_of_pos_left _ h0)
  have h5:=sz_gcd_l (b:=(l.getD i 0).den) (Nat.pos_iff_ne_zero.1 h0)
  have h6:=sz_div (l.getD i 0).den (Nat.gcd (mlF (l.take i)) (l.getD i 0).den)
  have k1:=c_Den natBig (l.getD i 0) (by omega)
  have k2:=natBig.gcd (mlF (l.take i)) (l.getD i 0).den (by omega) (by omega)
  have k3:=natBig.div (l.getD i 0).den (Nat.gcd (mlF (l.take i)) (l.getD i 0).den) (by omega) (by omega) hg
  have k4:=natBig.mul (mlF (l.take i)) ((l.getD i 0).den/Nat.gcd (mlF (l.take i)) (l.getD i 0).den) (by omega)
  clear h1 h2 h3 h4 h5 h6
  (repeat((first|refine step_w1 rfl rfl ?_|refine step_i (by kernel_rfl) ?_|refine g_c (by assumption) ?_|refine g_o (op_indexN (α:=Rat) (d:=0) rfl (ev_ok rfl) (ev_ok rfl) (tgt rfl) rfl (tgt rfl) rfl (by omega)) ?_|refine g_o (op_loadA rfl (ev_ok rfl) (tgt rfl) rfl (Nat.succ_ne_zero _) rfl) ?_|rw[t1]|rw[t2]);conv=>whnf))
  exact⟨l.length - (i+1),fun k=>k,[2,3,11,12,13],[2,3],by omega,by kernel_rfl,i+1,rfl,hlt,rfl,by rw[mlF_take hlt];rfl⟩
 ·have t1:=dge hlt
  rw[List.take_of_length_le (by omega)]
  (repeat(first|(refine step_w2 rfl rfl ?_;conv=>whnf)|(rw[t1];conv=>whnf)));(first|exact Recast.refl _|exact Frz.recast (Recast.refl _) rfl|(refine Frz.one rfl rfl ?_;skip)|(refine Frz.tup ?_;skip))
abbrev byL (r c:Nat) (a:List Rat):List Nat:=(List.range r).map fun i=>mlF (rowL a c i)
abbrev clZ (r c:Nat) (a:List Rat):List Int:=mkz r c fun i k=>(el a c i k*(mlF (rowL a c i):Rat)).num
theorem byL_len (r c:Nat) (a:List Rat):(byL r c a).length=r:=by simp
theorem byL_at {r c i:Nat} (a:List Rat) (hi:i<r):(byL r c a).getD i 0=mlF (rowL a c i):=by simp[List.getD_eq_getElem?_getD,hi]
abbrev nvec (l:List Nat):SV:=mvec 2 .nat l
abbrev nfil (l:List Nat) (n i:Nat):Blk:=⟨47,true,.seq 2 ((l.map SV.nat).take i++List.replicate (n - i) (SV.nat 0))⟩
theorem b_Clear {r c B:Nat} {a:List Rat} (ha:OKM r c a) (sa:Sm B a) (hB:2≤B) (hb:4+(c+3)*B≤536870912):
  CallOK Tryz.prog 46 [mA r c a] [] (.tup [wA r c (clZ r c a),nvec (byL r c a),iv 0]) [] []:=by
 have hr:=ha.r
 have hc:=ha.c
 have hn:=ha.n
 have hrc:r*c≤2048*2048:=Nat.mul_le_mul hr hc
 have k0:=m_Check0 ha
 refine callF (Z:=[1]) tabOK mixedOK Tryz.func46 rfl (by kernel_rfl) (by first|rfl|(simp[keylessL,keyless,keylessL_map, *];done)) (by first|rfl|(simp[keylessL,keyless,keylessL_map, *];done)) (by kernel_rfl) rfl ?_
 intro w0 ρ0 hE
 conv=>whnf
 (repeat((first|refine step_w2 rfl rfl ?_|refine step_i (by kernel_rfl) ?_|refine step_oA (by first|omega|decide|(simp only[tl0,dlen,List.length_replicate,List.length_set,List.length_map,List.length_zipWith,List.length_take,List.length_append,List.length_cons,List.length_nil];omega)) ?_|refine g_c (by assumption) ?_|rw[bne_self_eq_false]|refine g_o (op_lenM rfl rfl rfl (ev_ok rfl) (tgt rfl) rfl) ?_|refine g_o (op_loadA rfl (ev_ok rfl) (tgt rfl) rfl (Nat.succ_ne_zero _) rfl) ?_|refine g_o (op_fieldA rfl (ev_ok rfl) (tgt rfl) rfl rfl (Nat.succ_ne_zero _) rfl) ?_|rw[Int.toNat_natCast]);conv=>whnf))
 have lz:(clZ r c a).length=a.length:=by rw[mkz_len,hn]
 have ly:=byL_len r c a
 have lz2:((clZ r c a).map SV.int).length=a.length:=by rw[List.length_map,lz]
 have ly2:((byL r c a).map SV.nat).length=r:=by rw[List.length_map,ly]
 refine SW_loopN hE (fun k=>k) [1,2,3,4,6,7,31,32] [2,6,25,29] (fun m fr hp=>∃i:Nat,m=r - i∧i≤r∧fr=[(1,ptrA (mC r c a)),(2,.ptr 2 0 0 0),(3,.val (.slice none 0 0)),(4,iv 0),(6,.ptr 6 0 0 0),(7,.slc 29 2 0 r),(31,iv r),(32,iv (i:Nat))]∧
  hp=[(2,zW),(6,⟨101,true,.one [iv r,iv c,.slc 25 3 0 a.length]⟩),(25,zfil (clZ r c a) a.length (i*c)),(29,nfil (byL r c a) r i)]) r ?_ ?_ ?_
 ·kernel_rfl
 ·exact⟨0,rfl,Nat.zero_le _,rfl,by rw[Nat.zero_mul,zfil,nfil,List.take_zero,List.take_zero];rfl⟩
 clear k0
 rintro m _ _ ⟨i,rfl,hi,rfl,rfl⟩
 conv=>whnf
 by_cases hlt:i<r
 ·have t2:=dlt hlt
  have t3:=winc (i:=i) (by omega)
  have hic:(i+1)*c≤r*c:=Nat.mul_le_mul_right c hlt
  obtain⟨w1,w2,w3⟩:=row_w (i:=i) (c:=c) (by omega) hc
  have hle:i*c≤(i+1)*c:=Nat.mul_le_mul_right c (by omega)
  have lrow:=rowL_len hlt hn
  have srow:Sm B (rowL a c i):=fun p hp=>by
   rw[lrow]at hp
   rw[rowL_get hp];exact el_sm sa hn hlt hp
  have k1:=b_multiple srow (by omega) (by rw[lrow];have:=Nat.mul_le_mul_right B (show c+1≤c+3 by omega);omega)
  have g1:(((byL r c a).map SV.nat).take i++List.replicate (r - i) (SV.nat 0)).getD i SV.any= .nat 0:=fill_get hlt ly2
  have lny:=fill_len (d:=SV.nat 0) hi ly2
  have e1:(i+1)*c - i*c=c:=by rw[Nat.succ_mul];omega
  have e2:((byL r c a).map SV.nat).getD i (SV.nat 0)= .nat (mlF (rowL a c i)):=by rw[map_getD (d:=0) (by omega),byL_at a hlt]
  have hsy:=fill_set (d:=SV.nat 0) (e:=SV.nat 0) hlt ly2
  rw[e2]at hsy
  (repeat((first|refine step_w1 rfl rfl ?_|refine step_oL (by first|omega|decide|(simp only[tl0,dlen,List.length_replicate,List.length_set,List.length_map,List.length_zipWith,List.length_take,List.length_append,List.length_cons,List.length_nil];omega)) ?_|refine step_oA (by first|omega|decide|(simp only[tl0,dlen,List.length_replicate,List.length_set,List.length_map,List.length_zipWith,List.length_take,List.length_append,List.length_cons,List.length_nil];omega)) ?_|refine g_c (by assumption) ?_|refine g_o (op_lenM rfl rfl rfl (ev_ok rfl) (tgt rfl) rfl) ?_|refine g_o (op_loadA rfl (ev_ok rfl) (tgt rfl) rfl (Nat.succ_ne_zero _) rfl) ?_|refine g_o (op_fieldA rfl (ev_ok rfl) (tgt rfl) rfl rfl (Nat.succ_ne_zero _) rfl) ?_|refine g_o (op_sliceM rfl (ev_ok rfl) (bound_spec rfl) (bound_spec rfl) (.inl rfl) (tgt rfl) rfl (tgt rfl) rfl (by omega)) ?_|rw[t2]|rw[w1]|rw[w3]|rw[w2]|rw[e1]|rw[g1]|rw[hsy]|rw[Int.toNat_natCast]|rw[Nat.zero_add]);conv=>whnf))
  refine SW_loopN hE (fun k=>k) [1,2,3,4,6,7,8,9,31,32,52,53,54] [2,6,25,29] (fun m fr hp=>∃k:Nat,m=c - k∧k≤c∧fr=[(1,ptrA (mC r c a)),(2,.ptr 2 0 0 0),(3,.val (.slice none 0 0)),(4,iv 0),(6,.ptr 6 0 0 0),(7,.slc 29 2 0 r),(8,iv (i:Nat)),(9,fvec (rowL a c i)),(31,iv r),(32,iv (i:Nat)),(52,fvec (rowL a c i)),(53,iv ((rowL a c i).length:Nat)),(54,iv (k:Nat))]∧
   hp=[(2,zW),(6,⟨101,true,.one [iv r,iv c,.slc 25 3 0 a.length]⟩),(25,zfil (clZ r c a) a.length (i*c+k)),(29,nfil (byL r c a) r (i+1))]) c ?_ ?_ ?_
  ·kernel_rfl
  ·exact⟨0,rfl,Nat.zero_le _,rfl,rfl⟩
  clear k1
  rintro m _ _ ⟨k,rfl,hk,rfl,rfl⟩
  conv=>whnf
  by_cases hlk:k<c
  ·have t4:=dlt (show k<(rowL a c i).length by omega)
   have t5:=winc (i:=k) (by omega)
   obtain⟨w4,w5⟩:=idx_w (i:=i) (k:=k) (c:=c) (by omega) hc (by omega)
   rw[Nat.succ_mul]at hic
   have hx:i*c+k<a.length:=by omega
   have hkr:k<(rowL a c i).length:=by omega
   have hlen:=zfil_len (l:=clZ r c a) (show i*c+k≤a.length by omega) lz
   have t6:=zfil_get (l:=clZ r c a) (show i*c+k<a.length by omega) lz
   have lny2:=fill_len (d:=SV.nat 0) (show i+1≤r by omega) ly2
   have g2:(((byL r c a).map SV.nat).take (i+1)++List.replicate (r - (i+1)) (SV.nat 0)).getD i SV.any= .nat (mlF (rowL a c i)):=by
    rw[List.getD_eq_getElem?_getD,List.getElem?_append_left (by rw[List.length_take,ly2];omega),List.getElem?_take,if_pos (by omega),←List.getD_eq_getElem?_getD,map_getD (d:=0) (by omega),byL_at a hlt]
   have hgr:(rowL a c i).getD k 0=el a c i k:=rowL_get hlk
   have hfs:fs (el a c i k)≤B:=el_sm sa hn hlt hlk
   have hml:sz (mlF (rowL a c i))≤1+c*B:=by
    have:=mlF_sz srow c (by omega)
    rwa [List.take_of_length_le (by omega)]at this
   have hcb:(c+3)*B=c*B+3*B:=Nat.add_mul c 3 B
   have k2:=c_From false (mlF (rowL a c i))
   rw[show signed false (mlF (rowL a c i))=((mlF (rowL a c i):Nat):Int)from rfl]at k2
   have hzs:zs ((mlF (rowL a c i):Nat):Int)≤2+c*B:=by unfold zs;rw[Int.natAbs_natCast];omega
   have hfz:=fs_zs ((mlF (rowL a c i):Nat):Int)
   have k3:=b_frac ((mlF (rowL a c i):Nat):Int) (by omega)
   have k4:=f_Mul (el a c i k) (((mlF (rowL a c i):Nat):Int):Rat) (by omega)
   have k5:=c_Num (el a c i k*(((mlF (rowL a c i):Nat):Int):Rat))
   have hel:elz (clZ r c a) c i k=(el a c i k*(((mlF (rowL a c i):Nat):Int):Rat)).num:=by rw[mkz_el hlt hlk];rfl
   rw[←hel]at k5
   rw[←hgr]at k4 k5
   clear hgr hfs hml hcb hzs hfz hic hle
   (repeat((first|refine step_w1 rfl rfl ?_|refine step_i (by kernel_rfl) ?_|refine step_oL (by first|omega|decide|(simp only[tl0,dlen,List.length_replicate,List.length_set,List.length_map,List.length_zipWith,List.length_take,List.length_append,List.length_cons,List.length_nil];omega)) ?_|refine step_oA (by first|omega|decide|(simp only[tl0,dlen,List.length_replicate,List.length_set,List.length_map,List.length_zipWith,List.length_take,List.length_append,List.length_cons,List.length_nil];omega)) ?_|refine g_c (by assumption) ?_|refine g_o (op_indexN (α:=Rat) (d:=0) rfl (ev_ok rfl) (ev_ok rfl) (tgt rfl) rfl (tgt rfl) rfl (by omega)) ?_|refine g_o (op_loadA rfl (ev_ok rfl) (tgt rfl) rfl (Nat.succ_ne_zero _) rfl) ?_|refine g_o (op_fieldA rfl (ev_ok rfl) (tgt rfl) rfl rfl (Nat.succ_ne_zero _) rfl) ?_|rw[t4]|rw[w4]|rw[w5]|rw[t6]|rw[g2]|rw[t5]|rw[Int.toNat_natCast]|rw[Nat.zero_add]);conv=>whnf))
   refine⟨c - (k+1),fun k=>k,[1,2,3,4,6,7,8,9,31,32,52,53,54],[2,6,25,29],by omega,by kernel_rfl,k+1,rfl,hlk,rfl, ?_⟩
   rw[show i*c+(k+1)=i*c+k+1 from rfl,zfil,←zfil_set (show i*c+k<a.length by omega) lz]
   rfl
  ·have t4:=dge (show ¬k<(rowL a c i).length by omega)
   obtain rfl:k=c:=by omega
   (repeat(first|(refine step_w2 rfl rfl ?_;conv=>whnf)|(rw[t4];conv=>whnf)|(rw[t3];conv=>whnf)))
   refine⟨r - (i+1),fun k=>k,[1,2,3,4,6,7,31,32],[2,6,25,29],by omega,by kernel_rfl,i+1,rfl,hlt,rfl, ?_⟩
   rw[Nat.succ_mul]
   rfl
 ·have t2:=dge hlt
  obtain rfl:i=r:=by omega
  rw[←hn,zfil_all lz,nfil,fill_all ly2]
  (repeat(first|(refine step_w2 rfl rfl ?_;conv=>whnf)|(rw[t2];conv=>whnf)))
  (first|exact Recast.refl _|exact Frz.recast (Recast.refl _) rfl|(refine Frz.one rfl rfl ?_;skip)|(refine Frz.tup ?_;(repeat(first|exact FrzC.keyless rfl|exact FrzL.nil|refine FrzL.cons ?_ ?_|refine FrzC.agg ?_|(refine FrzC.seq rfl (by first|rfl|(apply keylessL_map;intro _;rfl)) ?_;(first|rfl|omega|(simp<;>fail)|(simp<;>omega)))))))
end Go.Proofs.YtbopchpncgdaaaaGreatDoor
