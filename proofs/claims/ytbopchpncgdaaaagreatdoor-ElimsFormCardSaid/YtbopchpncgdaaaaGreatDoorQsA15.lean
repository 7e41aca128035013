/- The texts Qu. -/
import Derived.Test.YtbopchpncgdaaaaGreatDoorQsA14
namespace Go.Proofs.YtbopchpncgdaaaaGreatDoor
open Go.Sx
set_option linter.unusedSimpArgs false
set_option linter.unusedVariables false
set_option maxRecDepth 100000
set_option maxHeartbeats 40000000
theorem e_Inverse1 {r:Nat} {a one:List Rat} (h1:OKM r r one) (i k:Nat) (hi:i<r) (hk:k<r):CallOK Tryz.prog 82 ([]++([iv (i:Nat),iv (k:Nat)]++[ptrA (mC r r one),ptrA (mC r r a)])) [] (.frac (el one r i k)) [] []:=by
 obtain⟨t1,t2⟩:=idx_w (i:=i) (k:=k) (c:=r) (by have:=h1.r;omega) h1.c (by have:=h1.c;omega)
 have hlt:=idx_lt hi hk
 rw[←h1.n]at hlt
 refine callV (Z:=[]) tabOK mixedOK Tryz.func82 rfl (by kernel_rfl) rfl rfl (by kernel_rfl) rfl ?_
 intro W0 w0 ρ0 hE
 conv=>whnf
 (repeat((first|refine g_o (op_loadA rfl (ev_ok rfl) (tgt rfl) rfl (Nat.succ_ne_zero _) rfl) ?_|refine g_o (op_indexM (α:=Rat) (d:=0) rfl (ev_ok rfl) (ev_ok rfl) (tgt rfl) rfl (tgt rfl) rfl (by omega)) ?_|refine g_o (op_fieldA rfl (ev_ok rfl) (tgt rfl) rfl rfl (Nat.succ_ne_zero _) rfl) ?_|rw[t1]|rw[t2]|rw[Int.toNat_natCast]);conv=>whnf));(first|exact Recast.refl _|exact Frz.recast (Recast.refl _) rfl|(refine Frz.one rfl rfl ?_;skip)|(refine Frz.tup ?_;skip))
abbrev augI (r:Nat) (a:List Rat):Mx:=augW a r (el (mone r) r)
theorem augI_bd {r A:Nat} {a:List Rat} (ha:OKM r r a) (sa:Sm A a) (h2:2≤A):∀i q,i<r→q<r+r→fs (augI r a i q)≤A:=aug_bd ha sa fun i k hi hk=>by
 rw[mone_el hi hk,delta]
 split
 ·rw[fs_one];exact h2
 ·rw[fs_zero];exact h2
theorem e_InverseNo {r A:Nat} {a:List Rat} (ha:OKM r r a) (hr:r≤6) (sa:Sm A a) (h2:2≤A) (hA:4096*A≤4398046511104) {s:St} (hs:redS r r (augI r a)=s) (hp:s.piv.length<r):
  CallOK Tryz.prog 20 [mA r r a] [] (.tup [mA 0 0 [],iv 6]) [] []:=by
 have k1:=e_square ha
 have o1:=m_One r ha.r
 have ho:OKM r r (mone r):=OKM_mk ha.r ha.r
 have hbd:=augI_bd ha sa h2
 have hc:r≤40:=by omega
 have hrl:=rM_len r (rowsM (r+r) s.w)
 have hpl:(s.piv.map ofN).length=s.piv.length:=List.length_map _
 refine callF (Z:=[1,100005,100006]) tabOK mixedOK Tryz.func20 rfl (by kernel_rfl) (by first|rfl|(simp[keylessL,keyless,keylessL_map, *];done)) (by first|rfl|(simp[keylessL,keyless,keylessL_map, *];done)) (by kernel_rfl) rfl ?_
 intro w0 ρ0 hE
 conv=>whnf
 (repeat((first|refine step_w2 rfl rfl ?_|refine g_c (by assumption) ?_|rw[bne_self_eq_false]|refine g_o (op_loadA rfl (ev_ok rfl) (tgt rfl) rfl (Nat.succ_ne_zero _) rfl) ?_|refine g_o (op_fieldA rfl (ev_ok rfl) (tgt rfl) rfl rfl (Nat.succ_ne_zero _) rfl) ?_);conv=>whnf))
 refine SWx_freezeP 5 5 (fun _ h=>h) rfl rfl rfl ?_
 refine SWx_then (fr1:=[(7,wkA r r (r+r) (rowsM (r+r) s.w) (s.piv.map ofN) s.d),(1,ptrA (mC r r a)),(2,.ptr 2 0 0 0),(3,iv 0),(5,ptrA (mC r r (mone r)))]) (hp1:=[(2,zM)]) (fun K hK=> ?_) ?_
 case refine_2=>
  have t1:decide ((s.piv.length:Int)<(r:Int))=true:=decide_eq_true (by omega)
  clear hbd hs
  conv=>whnf
  skip
  refine SWx_go hE ?_
  conv=>whnf
  (repeat((first|refine step_i (by kernel_rfl) ?_|refine tst_tt t1 ?_|refine g_o (op_lenM rfl rfl rfl (ev_ok rfl) (tgt rfl) rfl) ?_|refine g_o (op_loadA rfl (ev_ok rfl) (tgt rfl) rfl (Nat.succ_ne_zero _) rfl) ?_|refine g_o (op_fieldA rfl (ev_ok rfl) (tgt rfl) rfl rfl (Nat.succ_ne_zero _) rfl) ?_|refine g_o (op_nilCheckA rfl (ev_ok rfl)) ?_|rw[hpl]);conv=>whnf));(first|exact Recast.refl _|exact Frz.recast (Recast.refl _) rfl|(refine Frz.one rfl rfl ?_;skip)|(refine Frz.tup ?_;(repeat(first|exact FrzC.keyless rfl|exact FrzL.nil|refine FrzL.cons ?_ ?_|exact FrzC.nilS|refine FrzC.agg ?_))))
 rcases(show r=0∨1≤r by omega)with e0|e0
 ·subst e0
  obtain⟨hp0,hd0⟩:=redS_zero hs
  have kz:=e_begunZ2 (c:=0) 0 a 82 (ptrP (mC (0:Nat) (0:Nat) (mone 0))) (ptrP (mC (0:Nat) (0:Nat) a)) ha
  have k3:=e_reduceZ 0 (by omega)
  rw[hp0,hd0]at hK
  refine SWx_cut hE 100 ?_
  conv=>whnf
  (repeat((first|refine g_cn (by assumption) rfl ?_|refine g_o (op_loadA rfl (ev_ok rfl) (tgt rfl) rfl (Nat.succ_ne_zero _) rfl) ?_|refine g_o (op_fieldA rfl (ev_ok rfl) (tgt rfl) rfl rfl (Nat.succ_ne_zero _) rfl) ?_|refine g_o (op_makeFunc rfl rfl rfl) ?_|refine g_cv k3 (by repeat(first|exact WkH.nil|refine WkH.cons rfl ?_ ?_|exact WkBlk.same (fun h=>h)|exact WkBlk.same ff_imp|exact WkBlk.same (fun _=>rfl)|refine WkBlk.one (fun h=>h) ?_|refine WkBlk.one ff_imp ?_|exact WL.refl|refine WL.eq ?_|refine WL.any rfl ?_|exact WkBlk.dead)) nil_upd ?_);conv=>whnf))
  exact⟨_,_,freezeZ 7 [1,2,3,5] [2] (fun _ h=>h) rfl rfl (by kernel_rfl) (by kernel_rfl) (by kernel_rfl) rfl hE,hK⟩
 ·have k2:=e_begun2 (r:=r) r a (el (mone r) r) 82 (ptrP (mC r r (mone r))) (ptrP (mC r r a)) hr e0 ha (by omega) (by omega) (fun i k hi hk=>e_Inverse1 ho i k hi hk)
  have k3:=e_reduceW (r:=r) r (r+r) A (augI r a) s hr e0 (Nat.le_add_right _ _) (by omega) hbd h2 hA hs
  have hpl:(s.piv.map ofN).length=s.piv.length:=List.length_map _
  rcases(show r=1∨r=2∨r=3∨r=4∨r=5∨r=6 by omega)with e1|e1|e1|e1|e1|e1
  all_goals
   rw[e1]at k2 k3 hK
   rw[e1]
   refine SWx_cut hE 100 ?_
   conv=>whnf
   (repeat((first|refine g_o (op_loadA rfl (ev_ok rfl) (tgt rfl) rfl (Nat.succ_ne_zero _) rfl) ?_|refine g_o (op_fieldA rfl (ev_ok rfl) (tgt rfl) rfl rfl (Nat.succ_ne_zero _) rfl) ?_|refine g_o (op_makeFunc rfl rfl rfl) ?_|refine⟨[],_,_,[],k2,nil_fk,(by repeat(first|exact nil_new|refine new_cons rfl ?_)),nil_upd, ?_⟩|refine⟨hpH _ _ _ _,_,_,_,k3,(by repeat(first|exact get_nil|refine get_cons rfl ?_)),(by repeat(first|exact nil_new|refine new_cons rfl ?_)),updB_spec rfl rfl, ?_⟩|rw[Nat.zero_add]);conv=>whnf))
   exact⟨_,_,freezeW (M:=rowsM _ s.w) 7 [1,2,3,5] [2] (fun _ h=>h) rfl rfl rfl rfl (by intro j hj;rcases(show j=0∨j=1∨j=2∨j=3∨j=4∨j=5 by omega)with e|e|e|e|e|e<;>first|omega|(subst e;exact⟨rfl,(rwL_len _ _).symm⟩)) hpl.symm (by kernel_rfl) (by kernel_rfl) (by kernel_rfl) rfl (by decide) hE,hK⟩
theorem e_InverseOK {r A:Nat} {a:List Rat} (ha:OKM r r a) (hr:r≤6) (sa:Sm A a) (h2:2≤A) (hA:4096*A≤4398046511104) {s:St} (hs:redS r r (augI r a)=s) (hp:s.piv.length=r):
  CallOK Tryz.prog 20 [mA r r a] [] (.tup [mA r r (invL r s),iv 0]) [] []:=by
 have k1:=e_square ha
 have o1:=m_One r ha.r
 have ho:OKM r r (mone r):=OKM_mk ha.r ha.r
 have hbd:=augI_bd ha sa h2
 have hc:r≤40:=by omega
 have hrl:=rM_len r (rowsM (r+r) s.w)
 have hpl:(s.piv.map ofN).length=s.piv.length:=List.length_map _
 refine callF (Z:=[1,100005,100006]) tabOK mixedOK Tryz.func20 rfl (by kernel_rfl) (by first|rfl|(simp[keylessL,keyless,keylessL_map, *];done)) (by first|rfl|(simp[keylessL,keyless,keylessL_map, *];done)) (by kernel_rfl) rfl ?_
 intro w0 ρ0 hE
 conv=>whnf
 (repeat((first|refine step_w2 rfl rfl ?_|refine g_c (by assumption) ?_|rw[bne_self_eq_false]|refine g_o (op_loadA rfl (ev_ok rfl) (tgt rfl) rfl (Nat.succ_ne_zero _) rfl) ?_|refine g_o (op_fieldA rfl (ev_ok rfl) (tgt rfl) rfl rfl (Nat.succ_ne_zero _) rfl) ?_);conv=>whnf))
 refine SWx_freezeP 5 5 (fun _ h=>h) rfl rfl rfl ?_
 refine SWx_then (fr1:=[(7,wkA r r (r+r) (rowsM (r+r) s.w) (s.piv.map ofN) s.d),(1,ptrA (mC r r a)),(2,.ptr 2 0 0 0),(3,iv 0),(5,ptrA (mC r r (mone r)))]) (hp1:=[(2,zM)]) (fun K hK=> ?_) ?_
 case refine_2=>
  have t1:decide ((s.piv.length:Int)<(r:Int))=false:=decide_eq_false (by omega)
  have t2:IntKind.i64.wrap (2*(r:Int))=((r+r:Nat):Int):=by rw[wrap_i64 (by omega) (by omega)];omega
  have k4:=e_part (r:=r) (m:=r) (c:=r+r) (n:=r) (M:=rowsM (r+r) s.w) (pv:=s.piv.map ofN) (d:=s.d) (fun i _=>rwL_len _ _) r (Nat.le_refl _) (by omega) (by omega)
  rw[part_mk r (Nat.le_refl _)]at k4
  replace k4:CallOK Tryz.prog 76 [wkA r r (r+r) (rowsM (r+r) s.w) (s.piv.map ofN) s.d,iv r,iv ((r+r:Nat):Int)] [] (mA r r (invL r s)) [] []:=k4
  clear hbd hs
  conv=>whnf
  skip
  refine SWx_go hE ?_
  conv=>whnf
  (repeat((first|refine step_i (by kernel_rfl) ?_|refine g_c (by assumption) ?_|refine tst_ff t1 ?_|refine g_o (op_lenM rfl rfl rfl (ev_ok rfl) (tgt rfl) rfl) ?_|refine g_o (op_loadA rfl (ev_ok rfl) (tgt rfl) rfl (Nat.succ_ne_zero _) rfl) ?_|refine g_o (op_fieldA rfl (ev_ok rfl) (tgt rfl) rfl rfl (Nat.succ_ne_zero _) rfl) ?_|refine g_o (op_nilCheckA rfl (ev_ok rfl)) ?_|rw[hpl]|rw[t1]|rw[t2]);conv=>whnf));(first|exact Recast.refl _|exact Frz.recast (Recast.refl _) rfl|(refine Frz.one rfl rfl ?_;skip)|(refine Frz.tup ?_;skip))
 rcases(show r=0∨1≤r by omega)with e0|e0
 ·subst e0
  obtain⟨hp0,hd0⟩:=redS_zero hs
  have kz:=e_begunZ2 (c:=0) 0 a 82 (ptrP (mC (0:Nat) (0:Nat) (mone 0))) (ptrP (mC (0:Nat) (0:Nat) a)) ha
  have k3:=e_reduceZ 0 (by omega)
  rw[hp0,hd0]at hK
  refine SWx_cut hE 100 ?_
  conv=>whnf
  (repeat((first|refine g_cn (by assumption) rfl ?_|refine g_o (op_loadA rfl (ev_ok rfl) (tgt rfl) rfl (Nat.succ_ne_zero _) rfl) ?_|refine g_o (op_fieldA rfl (ev_ok rfl) (tgt rfl) rfl rfl (Nat.succ_ne_zero _) rfl) ?_|refine g_o (op_makeFunc rfl rfl rfl) ?_|refine g_cv k3 (by repeat(first|exact WkH.nil|refine WkH.cons rfl ?_ ?_|exact WkBlk.same (fun h=>h)|exact WkBlk.same ff_imp|exact WkBlk.same (fun _=>rfl)|refine WkBlk.one (fun h=>h) ?_|refine WkBlk.one ff_imp ?_|exact WL.refl|refine WL.eq ?_|refine WL.any rfl ?_|exact WkBlk.dead)) nil_upd ?_);conv=>whnf))
  exact⟨_,_,freezeZ 7 [1,2,3,5] [2] (fun _ h=>h) rfl rfl (by kernel_rfl) (by kernel_rfl) (by kernel_rfl) rfl hE,hK⟩
 ·have k2:=e_begun2 (r:=r) r a (el (mone r) r) 82 (ptrP (mC r r (mone r))) (ptrP (mC r r a)) hr e0 ha (by omega) (by omega) (fun i k hi hk=>e_Inverse1 ho i k hi hk)
  have k3:=e_reduceW (r:=r) r (r+r) A (augI r a) s hr e0 (Nat.le_add_right _ _) (by omega) hbd h2 hA hs
  have hpl:(s.piv.map ofN).length=s.piv.length:=List.length_map _
  rcases(show r=1∨r=2∨r=3∨r=4∨r=5∨r=6 by omega)with e1|e1|e1|e1|e1|e1
  all_goals
   rw[e1]at k2 k3 hK
   rw[e1]
   refine SWx_cut hE 100 ?_
   conv=>whnf
   (repeat((first|refine g_o (op_loadA rfl (ev_ok rfl) (tgt rfl) rfl (Nat.succ_ne_zero _) rfl) ?_|refine g_o (op_fieldA rfl (ev_ok rfl) (tgt rfl) rfl rfl (Nat.succ_ne_zero _) rfl) ?_|refine g_o (op_makeFunc rfl rfl rfl) ?_|refine⟨[],_,_,[],k2,nil_fk,(by repeat(first|exact nil_new|refine new_cons rfl ?_)),nil_upd, ?_⟩|refine⟨hpH _ _ _ _,_,_,_,k3,(by repeat(first|exact get_nil|refine get_cons rfl ?_)),(by repeat(first|exact nil_new|refine new_cons rfl ?_)),updB_spec rfl rfl, ?_⟩|rw[Nat.zero_add]);conv=>whnf))
   exact⟨_,_,freezeW (M:=rowsM _ s.w) 7 [1,2,3,5] [2] (fun _ h=>h) rfl rfl rfl rfl (by intro j hj;rcases(show j=0∨j=1∨j=2∨j=3∨j=4∨j=5 by omega)with e|e|e|e|e|e<;>first|omega|(subst e;exact⟨rfl,(rwL_len _ _).symm⟩)) hpl.symm (by kernel_rfl) (by kernel_rfl) (by kernel_rfl) rfl (by decide) hE,hK⟩
section
variable {r A:Nat} {a:List Rat} (ha:OKM r r a) (hr:r≤6) (sa:Sm A a) (h2:2≤A) (hA:4096*A≤4398046511104)
include ha hr sa h2 hA
theorem e_InverseN (hd:det r (el a r)=0):CallOK Tryz.prog 20 [mA r r a] [] (.tup [mA 0 0 [],iv 6]) [] []:=by
 have hi:=redS_Inv r r (augI r a)
 refine e_InverseNo ha hr sa h2 hA rfl (Nat.lt_of_le_of_ne hi.len fun g=> ?_)
 exact(hi.full.1 g) ((det_congr fun i k _ hk=>aug_lt (r:=r) i k (by omega) hk).trans hd)
theorem e_InverseS (hd:det r (el a r)≠0):∃B:List Rat,B.length=r*r∧Sm (4096*A) B∧mmul r r r B a=mone r∧CallOK Tryz.prog 20 [mA r r a] [] (.tup [mA r r B,iv 0]) [] []:=by
 have hi:=redS_Inv r r (augI r a)
 have hp:(redS r r (augI r a)).piv.length=r:=hi.full.2 fun g=>hd ((det_congr fun i k _ hk=>aug_lt (r:=r) i k (by omega) hk).symm.trans g)
 refine⟨_,mk_len ..,Sm_mk fun i k h1 h3=>(redS_siz (c:=r+r) (augI_bd ha sa h2) h2 hr (Nat.le_add_right _ _)).1 i (r+k) h1 (by omega),invL_left hi hp (fun i k h1 h3=> ?_) aug_lt,e_InverseOK ha hr sa h2 hA rfl hp⟩
 show augW a r (el (mone r) r) i (r+k)=_
 rw[aug_ge,mone_el h1 h3]
end
theorem e_Minor {r c n A:Nat} {a:List Rat} (ha:OKM r c a) (hn:n≤6) (hnr:n≤r) (hnc:n≤c) (sa:Sm A a) (h2:2≤A) (hA:4096*A≤4398046511104):
  CallOK Tryz.prog 22 [mA r c a,iv n] [] (.tup [.frac (det n (el a c)),iv 0]) [] []:=by
 have k1:=m_Check0 ha
 have hu:∀x∈upN n,0≤x∧x<n:=by intro x hx;simp only[upN,List.mem_map,List.mem_range]at hx;obtain⟨i,hi,rfl⟩:=hx;omega
 have lu:=upN_len n
 have hrr:=ha.r
 have hcc:=ha.c
 have k2:=m_Part ha (upN n) (upN n) (by omega) (by omega) (fun x hx=>by have:=hu x hx;omega) (fun x hx=>by have:=hu x hx;omega)
 have hpe:∀i k,i<n→k<n→el (mpart c a (upN n) (upN n)) n i k=el a c i k:=fun i k hi hk=>by
  have e:=mk_el (r:=(upN n).length) (c:=(upN n).length) (f:=fun i k=>el a c ((upN n).getD i 0).toNat ((upN n).getD k 0).toNat) (i:=i) (k:=k) (by omega) (by omega)
  rw[upN_at hi,upN_at hk]at e
  rw[lu]at e
  show el (mk (upN n).length (upN n).length _) n i k=_
  rw[lu]
  simpa using e
 have hl:(mpart c a (upN n) (upN n)).length=n*n:=by rw[mk_len,lu]
 have sp:Sm A (mpart c a (upN n) (upN n)):=by
  intro p hp
  rw[hl]at hp
  obtain⟨d1,d2,d3⟩:=idx_split hp
  have:=hpe _ _ d1 d2
  unfold el at this
  rw[d3]at this
  rw[this]
  exact el_sm sa ha.n (by omega) (by omega)
 have k3:=e_DetW (n:=n) (A:=A) (a:=mpart c a (upN n) (upN n)) ⟨by omega,by omega,hl⟩ hn sp h2 hA
 rw[det_congr hpe]at k3
 rw[lu]at k2
 have t1:decide ((n:Int)<0)=false:=decide_eq_false (by omega)
 have t2:decide ((n:Int)>(r:Int))=false:=decide_eq_false (by omega)
 have t3:decide ((n:Int)>(c:Int))=false:=decide_eq_false (by omega)
 clear hpe hl sp hu
 generalize mpart c a (upN n) (upN n)=P at*
 refine callF (Z:=[2,100012]) tabOK mixedOK Tryz.func22 rfl (by kernel_rfl) (by first|rfl|(simp[keylessL,keyless,keylessL_map, *];done)) (by first|rfl|(simp[keylessL,keyless,keylessL_map, *];done)) (by kernel_rfl) rfl ?_
 intro w0 ρ0 hE
 conv=>whnf
 (repeat((first|refine step_w1 rfl rfl ?_|refine step_w2 rfl rfl ?_|refine g_c (by assumption) ?_|refine g_o (op_pickF rfl (ev_ok rfl) (ev_ok rfl)) ?_|rw[bne_self_eq_false]|refine tst_ff t3 ?_|refine g_o (op_loadA rfl (ev_ok rfl) (tgt rfl) rfl (Nat.succ_ne_zero _) rfl) ?_|refine g_o (op_fieldA rfl (ev_ok rfl) (tgt rfl) rfl rfl (Nat.succ_ne_zero _) rfl) ?_|rw[t1]|rw[t2]|rw[t3]);conv=>whnf))
 refine SWx_adopt (t:=7) (k:=2002) (s:=1) (blk:=iblkM []) rfl rfl rfl ?_
 refine SW_loopN hE (fun k=>k) [2,4,7,32,33] [4,2002] (fun m fr hp=>∃i:Nat,m=n - i∧i≤n∧fr=[(2,ptrA (mC r c a)),(4,.ptr 4 0 0 0),(7,.slc 2002 1 0 i),(32,iv n),(33,iv i)]∧hp=[(4,⟨53,true,.one [.frac 0]⟩),(2002,iblkM (upN i))]) n ?_ ?_ ?_
 ·kernel_rfl
 ·exact⟨0,rfl,Nat.zero_le _,rfl,rfl⟩
 rintro m _ _ ⟨i,rfl,hi,rfl,rfl⟩
 conv=>whnf
 by_cases hlt:i<n
 ·have lq:=upN_len i
  have t4:=dlt hlt
  have t5:=winc (i:=i) (by omega)
  have e7:=app_int (l:=upN i) (x:=(i:Int))
  rw[lq,←upN_succ]at e7
  clear k1 k2 k3
  (repeat((first|refine step_oA (by first|omega|decide|(simp only[tl0,dlen,List.length_replicate,List.length_set,List.length_map,List.length_zipWith,List.length_take,List.length_append,List.length_cons,List.length_nil];omega)) ?_|refine tst_tt t4 ?_|rw[t4]|rw[t5]);conv=>whnf))
  refine⟨n - (i+1),renBy [(39,2002)],[2,4,7,32,33],[4,39],by omega,by kernel_rfl,i+1,rfl,hlt,rfl, ?_⟩
  rw[e7];rfl
 ·have t4:=dge hlt
  obtain rfl:i=n:=by omega
  (repeat(first|(refine tst_ff t4 ?_;conv=>whnf)|(rw[t4];conv=>whnf)))
  refine SWx_freezeI 7 2002 (fun _ h=>h) rfl rfl lu.symm ?_
  refine SWx_go hE ?_
  conv=>whnf
  (repeat(first|(refine g_c (by assumption) ?_;conv=>whnf)|(refine g_o (op_loadA rfl (ev_ok rfl) (tgt rfl) rfl (Nat.succ_ne_zero _) rfl) ?_;conv=>whnf)));(first|exact Recast.refl _|exact Frz.recast (Recast.refl _) rfl|(refine Frz.one rfl rfl ?_;skip)|(refine Frz.tup ?_;skip))
theorem det_fs {n A:Nat} {a:List Rat} (ha:OKM n n a) (hn:n≤6) (sa:Sm A a) (h2:2≤A):fs (det n (el a n))≤4096*A:=by
 have hd:=redW_det (augW a n fun _ _=>0) (s:=red2F n n ⟨augW a n fun _ _=>0,[],1⟩) rfl
 rw[det_aug _ _ (Nat.le_refl _)]at hd
 rw[←hd]
 split
 ·rw[fs_zero];omega
 ·exact(redS_siz (c:=n) (aug0_bd ha sa) h2 hn (Nat.le_refl n)).2
theorem e_MinorE {r c:Nat} {a:List Rat} (ha:OKM r c a) (n:Int) (h:n<0∨(r:Int)<n∨(c:Int)<n):CallOK Tryz.prog 22 [mA r c a,iv n] [] (.tup [.frac 0,iv 1]) [] []:=by
 have k1:=m_Check0 ha
 by_cases h1:n<0
 ·have t1:decide (n<0)=true:=decide_eq_true h1
  refine callF (Z:=[2]) tabOK mixedOK Tryz.func22 rfl (by kernel_rfl) (by first|rfl|(simp[keylessL,keyless,keylessL_map, *];done)) (by first|rfl|(simp[keylessL,keyless,keylessL_map, *];done)) (by kernel_rfl) rfl ?_
  intro w0 ρ0 hE
  conv=>whnf
  (repeat((first|refine step_w1 rfl rfl ?_|refine step_w2 rfl rfl ?_|refine g_c (by assumption) ?_|refine g_o (op_pickT rfl (ev_ok rfl) (ev_ok rfl)) ?_|rw[bne_self_eq_false]|refine g_o (op_loadA rfl (ev_ok rfl) (tgt rfl) rfl (Nat.succ_ne_zero _) rfl) ?_|rw[t1]);conv=>whnf));(first|exact Recast.refl _|exact Frz.recast (Recast.refl _) rfl|(refine Frz.one rfl rfl ?_;skip)|(refine Frz.tup ?_;skip))
 ·have t1:decide (n<0)=false:=decide_eq_false h1
  by_cases h3:(r:Int)<n
  ·have t2:decide (n>(r:Int))=true:=decide_eq_true h3
   refine callF (Z:=[2]) tabOK mixedOK Tryz.func22 rfl (by kernel_rfl) (by first|rfl|(simp[keylessL,keyless,keylessL_map, *];done)) (by first|rfl|(simp[keylessL,keyless,keylessL_map, *];done)) (by kernel_rfl) rfl ?_
   intro w0 ρ0 hE
   conv=>whnf
   (repeat((first|refine step_w1 rfl rfl ?_|refine step_w2 rfl rfl ?_|refine g_c (by assumption) ?_|refine g_o (op_pickT rfl (ev_ok rfl) (ev_ok rfl)) ?_|refine g_o (op_pickF rfl (ev_ok rfl) (ev_ok rfl)) ?_|rw[bne_self_eq_false]|refine g_o (op_loadA rfl (ev_ok rfl) (tgt rfl) rfl (Nat.succ_ne_zero _) rfl) ?_|refine g_o (op_fieldA rfl (ev_ok rfl) (tgt rfl) rfl rfl (Nat.succ_ne_zero _) rfl) ?_|rw[t1]|rw[t2]);conv=>whnf));(first|exact Recast.refl _|exact Frz.recast (Recast.refl _) rfl|(refine Frz.one rfl rfl ?_;skip)|(refine Frz.tup ?_;skip))
  ·have t2:decide (n>(r:Int))=false:=decide_eq_false h3
   have t3:decide (n>(c:Int))=true:=decide_eq_true (by omega)
   refine callF (Z:=[2]) tabOK mixedOK Tryz.func22 rfl (by kernel_rfl) (by first|rfl|(simp[keylessL,keyless,keylessL_map, *];done)) (by first|rfl|(simp[keylessL,keyless,keylessL_map, *];done)) (by kernel_rfl) rfl ?_
   intro w0 ρ0 hE
   conv=>whnf
   (repeat((first|refine step_w1 rfl rfl ?_|refine step_w2 rfl rfl ?_|refine g_c (by assumption) ?_|refine g_o (op_pickF rfl (ev_ok rfl) (ev_ok rfl)) ?_|rw[bne_self_eq_false]|refine tst_tt t3 ?_|refine g_o (op_loadA rfl (ev_ok rfl) (tgt rfl) rfl (Nat.succ_ne_zero _) rfl) ?_|refine g_o (op_fieldA rfl (ev_ok rfl) (tgt rfl) rfl rfl (Nat.succ_ne_zero _) rfl) ?_|rw[t1]|rw[t2]);conv=>whnf));(first|exact Recast.refl _|exact Frz.recast (Recast.refl _) rfl|(refine Frz.one rfl rfl ?_;skip)|(refine Frz.tup ?_;skip))
theorem e_MinorC {r c n:Int} {a:List Rat} (hn:a.length<1099511627776) (h:checkF r c a.length≠0):CallOK Tryz.prog 22 [mA r c a,iv n] [] (.tup [.frac 0,iv (checkF r c a.length)]) [] []:=by
 have k1:=m_Check r c a hn
 have t1:(checkF r c a.length != 0)=true:=bne_iff_ne.2 h
 refine callF (Z:=[2]) tabOK mixedOK Tryz.func22 rfl (by kernel_rfl) (by first|rfl|(simp[keylessL,keyless,keylessL_map, *];done)) (by first|rfl|(simp[keylessL,keyless,keylessL_map, *];done)) (by kernel_rfl) rfl ?_
 intro w0 ρ0 hE
 conv=>whnf
 (repeat(first|(refine g_c (by assumption) ?_;conv=>whnf)|(refine tst_tt t1 ?_;conv=>whnf)|(refine g_o (op_loadA rfl (ev_ok rfl) (tgt rfl) rfl (Nat.succ_ne_zero _) rfl) ?_;conv=>whnf)));(first|exact Recast.refl _|exact Frz.recast (Recast.refl _) rfl|(refine Frz.one rfl rfl ?_;skip)|(refine Frz.tup ?_;skip))
end Go.Proofs.YtbopchpncgdaaaaGreatDoor
