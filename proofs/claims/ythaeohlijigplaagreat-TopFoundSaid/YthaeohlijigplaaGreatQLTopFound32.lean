/- The texts G9, W15. -/
import Derived.Test.YthaeohlijigplaaGreatQLTopFound28
import Derived.Test.YthaeohlijigplaaGreatQLTopFound31
namespace Go.Proofs.YthaeohlijigplaaGreat
open Go.Sx
set_option linter.unusedSimpArgs false
set_option linter.unusedVariables false
set_option maxRecDepth 100000
set_option maxHeartbeats 8000000
def plM (x:M6):List I2:=(triS x.fi.toNat (cellsL x) (cellsL x).length).1
def tsM (x:M6):List T3:=(triS x.fi.toNat (cellsL x) (cellsL x).length).2
def baseM (x:M6):Me:=⟨((plM x).map (movP x)).map (ptD (denM x)),tsM x,sidA x.fi.toNat (tsM x) (plM x).length (plM x).length⟩
def sM (x:M6) (j:Nat):Nat:=(x.fi.toNat+j*(x.fi.toNat/3)) % 3
def RM (x:M6) (j:Nat):P3:=rot3 (g3 (cellsL x) j) (sM x j)
theorem base_len (x:M6):(baseM x).ps.length=(plM x).length:=by simp[baseM]
theorem base_gp (x:M6) {k:Int} (h0:0≤k) (hk:k<(plM x).length):gp (baseM x).ps k=PP x ((plM x).getD k.toNat (0,0)):=by
 have hk2:k.toNat<(plM x).length:=by omega
 rw[gp,baseM]
 simp only
 rw[List.getD_eq_getElem?_getD,List.getElem?_map,List.getElem?_map,List.getElem?_eq_getElem hk2,List.getD_eq_getElem?_getD,List.getElem?_eq_getElem hk2]
 rfl
structure Grid (x:M6):Prop where
 n:1+x.nx.toNat=1∨1+x.nx.toNat=2
 N:(1+x.nx.toNat)*(1+x.ny.toNat)≤2*(1+x.nx.toNat)
 N4:(1+x.nx.toNat)*(1+x.ny.toNat)≤4
theorem grid_of {x:M6} (hx:x.OK):Grid x:=by
 obtain h1|h1:=hx.nx
 all_goals obtain h2|h2:=hx.ny
 all_goals exact⟨by rw[h1];decide,by rw[h1,h2];decide,by rw[h1,h2];decide⟩
theorem cells_len {x:M6} (hx:x.OK):(cellsL x).length≤16:=by
 have:=cellA_len x (1+x.nx.toNat) ((1+x.nx.toNat)*(1+x.ny.toNat))
 have:=(grid_of hx).N4
 unfold cellsL;omega
theorem cells_ne {x:M6} (hx:x.OK):0<(cellsL x).length:=by
 unfold cellsL
 have hN:0<(1+x.nx.toNat)*(1+x.ny.toNat):=Nat.mul_pos (by omega) (by omega)
 generalize (1+x.nx.toNat)*(1+x.ny.toNat)=N at*
 have mono:∀N,0<N→(cellA x (1+x.nx.toNat) 1).length≤(cellA x (1+x.nx.toNat) N).length:=by
  intro N hN
  induction N with
  |zero=>omega
  |succ N ih=>
   rcases Nat.eq_zero_or_pos N with h|h
   ·subst h;exact Nat.le_refl _
   ·have:=ih h
    have e:cellA x (1+x.nx.toNat) (N+1)=cellA x (1+x.nx.toNat) N++cellF (wayF x N) N (2*((N % (1+x.nx.toNat):Nat):Int)) (2*((N/(1+x.nx.toNat):Nat):Int)):=rfl
    rw[e,List.length_append];omega
 refine Nat.lt_of_lt_of_le ?_ (mono N hN)
 have hw:0≤wayF x 0∧wayF x 0<8:=by
  unfold wayF
  split
  ·decide
  ·rename_i hc
   have hi:0 % x.ce.length<x.ce.length:=Nat.mod_lt _ (by omega)
   have h0:0≤x.ce.getD (0 % x.ce.length) 0:=by
    rw[List.getD_eq_getElem?_getD,List.getElem?_eq_getElem hi]
    exact(hx.ce _ (List.getElem_mem hi)).1
   exact⟨Int.tmod_nonneg _ h0,Int.tmod_lt_of_pos _ (by decide)⟩
 simp only[cellA,List.nil_append]
 unfold cellF
 split
 ·simp
 ·split
  ·simp
  ·split
   ·simp
   ·omega
theorem sM_lt (x:M6) (j:Nat):sM x j<3:=Nat.mod_lt _ (by decide)
theorem RM_pos {x:M6} (hx:x.OK) {j:Nat} (hj:j<(cellsL x).length):0<twI (RM x j).1 (RM x j).2.1 (RM x j).2.2:=by
 have g:=grid_of hx
 have:=grid_pos (x:=x) g.n g.N hj (sM_lt x j)
 exact of_decide_eq_true this
theorem RM_two {x:M6} (hx:x.OK) {i j:Nat} (hi:i<(cellsL x).length) (hj:j<(cellsL x).length) (hij:i≠j):okP (RM x i) (RM x j)=true:=
 grid_two (grid_of hx).n (grid_of hx).N hi hj hij (sM_lt x i) (sM_lt x j)
theorem base_tri (x:M6):TriOK x.fi.toNat (cellsL x) (cellsL x).length (plM x) (tsM x):=triS_ok _ _ _
theorem base_at {x:M6} {j i:Nat} (hj:j<(cellsL x).length) (hi:i<3):(0≤nuT (gt (tsM x) j) i∧nuT (gt (tsM x) j) i<(plM x).length)∧(plM x).getD (nuT (gt (tsM x) j) i).toNat (0,0)=rotC (RM x j) i:=by
 have h:=(base_tri x).at' j hj i hi
 rwa [rot3_at _ _ _ hi]at h
theorem base_gp3 {x:M6} {j i:Nat} (hj:j<(cellsL x).length) (hi:i<3):gp (baseM x).ps (nuT (gt (tsM x) j) i)=PP x (rotC (RM x j) i):=by
 obtain⟨h1,h2⟩:=base_at hj hi
 rw[base_gp x h1.1 h1.2,h2]
theorem base_cor {x:M6} {j:Nat} (hj:j<(cellsL x).length):gp (baseM x).ps (gt (tsM x) j).1=PP x (RM x j).1∧gp (baseM x).ps (gt (tsM x) j).2.1=PP x (RM x j).2.1∧gp (baseM x).ps (gt (tsM x) j).2.2=PP x (RM x j).2.2:=
 ⟨base_gp3 hj (i:=0) (by decide),base_gp3 hj (i:=1) (by decide),base_gp3 hj (i:=2) (by decide)⟩
theorem cells_pOK {x:M6} (hx:x.OK):∀t∈cellsL x,p3OK t:=grid_pOK (grid_of hx).n (grid_of hx).N
theorem pl_pos {x:M6} (hx:x.OK) {k:Nat} (hk:k<(plM x).length):posOK ((plM x).getD k (0,0)):=by
 obtain⟨j,i,h1,h2,h3⟩:=(base_tri x).us k hk
 have h:=((base_tri x).at' j h1 i h2).2
 rw[←h3,Int.toNat_natCast]at h
 rw[h]
 refine rotC_ok ?_ _
 rw[g3,List.getD_eq_getElem?_getD,List.getElem?_eq_getElem h1]
 exact cells_pOK hx _ (List.getElem_mem h1)
theorem pl_len {x:M6} (hx:x.OK):(plM x).length≤48:=by
 have:=(triS_len x.fi.toNat (cellsL x) (cellsL x).length).1
 have:=cells_len hx
 unfold plM;omega
theorem ts_len (x:M6):(tsM x).length=(cellsL x).length:=(base_tri x).len
theorem twI_ne {t:P3} (h:0<twI t.1 t.2.1 t.2.2):t.1≠t.2.1∧t.2.1≠t.2.2∧t.2.2≠t.1:=by
 obtain⟨a,b,c⟩:=t
 simp only at*
 refine⟨?_, ?_, ?_⟩<;>rintro rfl<;>unfold twI at h
 ·simp at h
 ·rw[Int.mul_comm]at h;omega
 ·simp at h
theorem base_ok {x:M6} (hx:x.OK):OkTs (baseM x).ps.length (baseM x).ts:=fun j hj=>by
 have hj':j<(cellsL x).length:=by rw[←ts_len];exact hj
 obtain⟨a1,a2⟩:=base_at hj' (i:=0) (by decide)
 obtain⟨b1,b2⟩:=base_at hj' (i:=1) (by decide)
 obtain⟨c1,c2⟩:=base_at hj' (i:=2) (by decide)
 obtain⟨n1,n2,n3⟩:=twI_ne (RM_pos hx hj')
 rw[base_len]
 show okT _ (gt (tsM x) j)=true
 refine okT_of a1 b1 c1 (fun e=> ?_) (fun e=> ?_) (fun e=> ?_)
 ·have e:nuT (gt (tsM x) j) 0=nuT (gt (tsM x) j) 1:=e
  rw[e]at a2;exact n1 (a2.symm.trans b2)
 ·have e:nuT (gt (tsM x) j) 1=nuT (gt (tsM x) j) 2:=e
  rw[e]at b2;exact n2 (b2.symm.trans c2)
 ·have e:nuT (gt (tsM x) j) 2=nuT (gt (tsM x) j) 0:=e
  rw[e]at c2;exact n3 (c2.symm.trans a2)
theorem base_pos {x:M6} (hx:x.OK) {j:Nat} (hj:j<(cellsL x).length):0<twP (baseM x).ps (gt (tsM x) j):=by
 obtain⟨h1,h2,h3⟩:=base_cor hj
 unfold twP
 rw[h1,h2,h3]
 exact(tw_sgn hx.den.1 _ _ _).1.2 (RM_pos hx hj)
theorem bey_or {x:M6} (hx:x.OK) {i k:Nat} (hi:i<(cellsL x).length) (hk:k<(cellsL x).length) (hik:i≠k):
  beyF (PP x (RM x i).1) (PP x (RM x i).2.1) (PP x (RM x i).2.2) [PP x (RM x k).1,PP x (RM x k).2.1,PP x (RM x k).2.2]=true∨beyF (PP x (RM x k).1) (PP x (RM x k).2.1) (PP x (RM x k).2.2) [PP x (RM x i).1,PP x (RM x i).2.1,PP x (RM x i).2.2]=true:=by
 have h:=RM_two hx hi hk hik
 simp only[okP,Bool.and_eq_true,Bool.or_eq_true]at h
 rw[bey_PP hx.den.1,bey_PP hx.den.1]
 exact h.1
theorem base_good {x:M6} (hx:x.OK):Good (baseM x) where
 ne:=by
  have:=cells_ne hx
  intro e
  have e':tsM x=[]:=e
  have:=ts_len x
  rw[e']at this
  simp at this;omega
 ok:=base_ok hx
 pos j hj:=base_pos hx (by rw[←ts_len];exact hj)
 sep i k hi hk hik p hp hc:=by
  have hi':i<(cellsL x).length:=by rw[←ts_len];exact hi
  have hk':k<(cellsL x).length:=by rw[←ts_len];exact hk
  have t1:=base_pos hx hi'
  have t2:=base_pos hx hk'
  obtain⟨a1,a2,a3⟩:=base_cor hi'
  obtain⟨b1,b2,b3⟩:=base_cor hk'
  have hp':inT (gp (baseM x).ps (gt (tsM x) i).1) (gp (baseM x).ps (gt (tsM x) i).2.1) (gp (baseM x).ps (gt (tsM x) i).2.2) p:=hp
  have hc':clT (gp (baseM x).ps (gt (tsM x) k).1) (gp (baseM x).ps (gt (tsM x) k).2.1) (gp (baseM x).ps (gt (tsM x) k).2.2) p:=hc
  unfold twP at t1 t2
  rw[a1,a2,a3]at hp' t1
  rw[b1,b2,b3]at hc' t2
  exact sep_bey t1 t2 (bey_or hx hi' hk' hik) hp' hc'
theorem base_lvl {x:M6} (hx:x.OK):LvlOK 0 (baseM x) where
 good:=base_good hx
 pb j:=by
  show PB 200 _
  by_cases hj:j.toNat<(plM x).length
  ·have e:gp (baseM x).ps j=gp (baseM x).ps (j.toNat:Int):=by rw[gp,gp,Int.toNat_natCast]
   rw[e,base_gp x (by omega) (by omega),Int.toNat_natCast]
   exact PP_pb x (pl_pos hx hj) hx.den.1
  ·rw[gp,List.getD_eq_getElem?_getD,List.getElem?_eq_none (by rw[base_len];omega)]
   exact⟨by show fs 0≤200;rw[fs_zero];decide,by show fs 0≤200;rw[fs_zero];decide⟩
 p0:=by
  have h:=(base_at (cells_ne hx) (i:=0) (by decide)).1
  intro e
  have:=base_len x
  rw[e]at this
  simp at this;omega
 pl:=by rw[base_len];have:=pl_len hx;omega
 tl:=by
  show(tsM x).length≤80
  rw[ts_len];have:=cells_len hx;omega
 sl:=by
  show(sidA _ _ _ _).length≤2400
  have h1:=sidA_len x.fi.toNat (tsM x) (plM x).length (plM x).length
  have h2:=pl_len hx
  have h3:(plM x).length*(plM x).length≤48*48:=Nat.mul_le_mul h2 h2
  omega
theorem cor_of {x:M6} {j:Nat} (hj:j<(cellsL x).length):cor (baseM x) j=(PP x (RM x j).1,PP x (RM x j).2.1,PP x (RM x j).2.2):=by
 obtain⟨h1,h2,h3⟩:=base_cor hj
 unfold cor
 rw[show(baseM x).ts=tsM x from rfl,h1,h2,h3]
theorem base_chk {x:M6} (hx:x.OK):ChkOK (baseM x) where
 sd i hi:=by
  have:=sidA_ok x.fi.toNat (tsM x) (plM x).length _ (gt_mem hi)
  rw[base_len];exact this
 nd:=by
  have hp:=(base_tri x).nd
  show(((plM x).map (movP x)).map (ptD (denM x))).Nodup
  rw[List.map_map]
  rw[List.nodup_iff_pairwise_ne,List.pairwise_map]
  refine hp.imp fun {a b} hab e=>hab ?_
  exact PP_inj x hx.den.1 e
 us p hp:=by
  rw[base_len]at hp
  obtain⟨j,i,h1,h2,h3⟩:=(base_tri x).us p hp
  refine⟨j,by show j<(tsM x).length;rw[ts_len];exact h1, ?_⟩
  show(p:Int)=(gt (tsM x) j).1∨(p:Int)=(gt (tsM x) j).2.1∨(p:Int)=(gt (tsM x) j).2.2
  obtain rfl|rfl|rfl:i=0∨i=1∨i=2:=by omega
  ·exact .inl h3
  ·exact .inr (.inl h3)
  ·exact .inr (.inr h3)
 ap i k hi hk:=by
  have hi':i<(cellsL x).length:=by rw[←ts_len];exact hi
  rw[cor_of hi',cor_of (show k<(cellsL x).length by omega)]
  exact bey_or hx hi' (by omega) (by omega)
 wh i p hi hp hany:=by
  have hi':i<(cellsL x).length:=by rw[←ts_len];exact hi
  rw[base_len]at hp
  obtain⟨j,i',h1,h2,h3⟩:=(base_tri x).us p hp
  have hgi:gt (baseM x).ts i=gt (tsM x) i:=rfl
  rw[hgi]at hany
  simp only[List.any_cons,List.any_nil,Bool.or_false,Bool.or_eq_false_iff,beq_eq_false_iff_ne]at hany
  obtain⟨n1,n2,n3⟩:=hany
  have hpl:(plM x).getD p (0,0)=rotC (RM x j) i':=by
   have:=(base_at h1 h2).2
   rw[←h3,Int.toNat_natCast]at this
   exact this
  have hgp:gp (baseM x).ps (p:Int)=PP x (rotC (RM x j) i'):=by rw[base_gp x (by omega) (by omega),Int.toNat_natCast,hpl]
  have hji:j≠i:=by
   rintro rfl
   obtain rfl|rfl|rfl:i'=0∨i'=1∨i'=2:=by omega
   ·exact n1 h3
   ·exact n2 h3
   ·exact n3 h3
  have hok:=RM_two hx hi' h1 (Ne.symm hji)
  simp only[okP,Bool.and_eq_true]at hok
  obtain⟨_,k1,k2,k3⟩:=hok
  have hcoo:cooI (RM x i) (rotC (RM x j) i')=true:=by
   obtain rfl|rfl|rfl:i'=0∨i'=1∨i'=2:=by omega
   ·exact k1
   ·exact k2
   ·exact k3
  simp only[cooI,Bool.or_eq_true]at hcoo
  have tpos:=base_pos hx hi'
  obtain⟨a1,a2,a3⟩:=base_cor hi'
  unfold twP at tpos
  rw[a1,a2,a3]at tpos
  unfold whT
  rw[cor_of hi',hgp]
  rcases hcoo with hc|hc
  ·exfalso
   simp only[corI,Bool.or_eq_true,decide_eq_true_eq]at hc
   have nd:=(base_tri x).nd
   have same:∀q,q<3→rotC (RM x j) i'=rotC (RM x i) q→(p:Int)=nuT (gt (tsM x) i) q:=fun q hq e=>by
    obtain⟨b1,b2⟩:=base_at hi' hq
    rw[←e,←hpl]at b2
    have:=getD_inj nd (by omega) hp b2
    omega
   rcases hc with hc|hc|hc
   ·exact n1 (same 0 (by decide) hc)
   ·exact n2 (same 1 (by decide) hc)
   ·exact n3 (same 2 (by decide) hc)
  ·refine wh_out tpos fun hcl=> ?_
   obtain⟨c1,c2,c3⟩:=hcl
   simp only[outI,Bool.or_eq_true,decide_eq_true_eq]at hc
   rcases hc with hc|hc|hc
   ·have:=(tw_sgn hx.den.1 _ _ _).2.2 hc;grind
   ·have:=(tw_sgn hx.den.1 _ _ _).2.2 hc;grind
   ·have:=(tw_sgn hx.den.1 _ _ _).2.2 hc;grind
 rl:=by
  have h:=side_rim (F:=x.fi.toNat) (N:=(plM x).length) (ts:=tsM x) (by have:=base_ok hx;rw[base_len]at this;exact this) (by rw[ts_len];have:=cells_len hx;omega)
  exact(spL_eq h).1
 re:=by
  have h:=side_rim (F:=x.fi.toNat) (N:=(plM x).length) (ts:=tsM x) (by have:=base_ok hx;rw[base_len]at this;exact this) (by rw[ts_len];have:=cells_len hx;omega)
  exact(spL_eq h).2
theorem m_Mesh {x:M6} (hx:x.OK):CallOK Tryz.prog 14 [m6A x] [] (meA (baseM x)) [] []:=by
 have h:=m_whole x hx (cells_pOK hx) (cells_len hx)
 refine m_Mesh0 x hx ((plM x).map (movP x)) (tsM x) (sidA x.fi.toNat (tsM x) (plM x).length (plM x).length) (fun p hp=> ?_) ?_ ?_ h
 ·obtain⟨q,hq,rfl⟩:=List.mem_map.1 hp
  obtain⟨k,hk,rfl⟩:=List.getElem_of_mem hq
  have:=pl_pos hx hk
  rw[List.getD_eq_getElem?_getD,List.getElem?_eq_getElem hk]at this
  exact movP_bd x this
 ·rw[List.length_map];have:=pl_len hx;omega
 ·have:=(base_lvl hx).sl
  have e:(baseM x).ss.length=(sidA x.fi.toNat (tsM x) (plM x).length (plM x).length).length:=rfl
  omega
theorem t_Found (x:M6) (l:List Stp) (z0 z1 z2:Int) (hx:(m6x x).OK) (h0:0≤x.nx∧0≤x.ny) (hl:l.length<9223372036854775808) (hu:∀s∈l,(∀v∈s.2,0≤v∧v<256)∧s.2.length<9223372036854775808) (hz0:0≤z0∧z0<256) (hz1:0≤z1∧z1<256) (hz2:0≤z2∧z2<256):
  CallOK Tryz.prog 3 [m6A x,mvec 2 stA l,.agg [u8v z0,u8v z1,u8v z2]] [] (.val (.bool true)) [] []:=
 c_TopFound x l z0 z1 z2 (baseM (m6x x)) h0 (m_Mesh hx) (v_New0 _ (base_lvl hx) (base_chk hx)) (base_lvl hx) hl hu hz0 hz1 hz2
end Go.Proofs.YthaeohlijigplaaGreat
namespace Go.Sx
set_option linter.unusedSimpArgs false
set_option linter.unusedVariables false
open Go.ChangeShapes Go.WideShapes
theorem okWide_arr {P:Program} {w:World} {r:Reach} {base:Nat} {t e:TypeId} {n:Nat} {v:Value} (ht:P.underlying t=some (.array n e)) (h:Value.okWide P w r base t v):∃cs,v= .agg cs∧cs.size=P.cellsOf t:=by
 simp only[Value.okWide,ht]at h
 obtain⟨cs,h1,h2,_⟩:=h
 exact⟨cs,h1,h2⟩
def ag6 {α β γ δ ε ζ:Type} (f:α→SV) (g:β→SV) (h:γ→SV) (i:δ→SV) (j:ε→SV) (k:ζ→SV) (p:α×β×γ×δ×ε×ζ):SV:=.agg [f p.1,g p.2.1,h p.2.2.1,i p.2.2.2.1,j p.2.2.2.2.1,k p.2.2.2.2.2]
theorem Opens.struct6 {H:Type} {enc:TypeId×Value→H} {P:Program} {W:World} {hg:TabsW W} {t:TypeId} {f0 f1 f2 f3 f4 f5:Field} {α β γ δ ε ζ:Type} {a:α→SV} {b:β→SV} {c:γ→SV} {d:δ→SV} {e:ε→SV} {f:ζ→SV} {ga:α→Prop} {gb:β→Prop} {gc:γ→Prop} {gd:δ→Prop} {ge:ε→Prop} {gf:ζ→Prop}
  (ht:P.underlying t=some (.struct #[f0,f1,f2,f3,f4,f5])) (o0:f0.offset=0) (o1:f1.offset=P.cellsOf f0.type) (o2:f2.offset=P.cellsOf f0.type+P.cellsOf f1.type) (o3:f3.offset=P.cellsOf f0.type+P.cellsOf f1.type+P.cellsOf f2.type)
  (o4:f4.offset=P.cellsOf f0.type+P.cellsOf f1.type+P.cellsOf f2.type+P.cellsOf f3.type) (o5:f5.offset=P.cellsOf f0.type+P.cellsOf f1.type+P.cellsOf f2.type+P.cellsOf f3.type+P.cellsOf f4.type)
  (hc:P.cellsOf t=P.cellsOf f0.type+P.cellsOf f1.type+P.cellsOf f2.type+P.cellsOf f3.type+P.cellsOf f4.type+P.cellsOf f5.type)
  (h0:Opens enc P hg f0.type a ga) (h1:Opens enc P hg f1.type b gb) (h2:Opens enc P hg f2.type c gc) (h3:Opens enc P hg f3.type d gd) (h4:Opens enc P hg f4.type e ge) (h5:Opens enc P hg f5.type f gf):
  Opens enc P hg t (ag6 a b c d e f) (fun p=>ga p.1∧gb p.2.1∧gc p.2.2.1∧gd p.2.2.2.1∧ge p.2.2.2.2.1∧gf p.2.2.2.2.2):=fun fuel cs x h=>by
 obtain⟨xs,n,rfl,_,hlen,hxl,hf⟩:=DataW.trod_struct ht h
 have hx0:xs.length=6:=hxl
 obtain⟨y0,y1,y2,y3,y4,y5,rfl⟩:∃y0 y1 y2 y3 y4 y5,xs=[y0,y1,y2,y3,y4,y5]:=by
  match xs,hx0 with
  |[y0,y1,y2,y3,y4,y5],_=>exact⟨y0,y1,y2,y3,y4,y5,rfl⟩
 obtain⟨p,p1,p2⟩:=h0 _ _ _ (hf 0 f0 rfl)
 obtain⟨q,q1,q2⟩:=h1 _ _ _ (hf 1 f1 rfl)
 obtain⟨r,r1,r2⟩:=h2 _ _ _ (hf 2 f2 rfl)
 obtain⟨s,s1,s2⟩:=h3 _ _ _ (hf 3 f3 rfl)
 obtain⟨u,u1,u2⟩:=h4 _ _ _ (hf 4 f4 rfl)
 obtain⟨v,v1,v2⟩:=h5 _ _ _ (hf 5 f5 rfl)
 refine⟨(p,q,r,s,u,v),⟨p1,q1,r1,s1,u1,v1⟩, ?_⟩
 simp only[ag6,HasC]
 refine⟨[_,_,_,_,_,_],by simp only[HasZ];exact⟨_,_,rfl,p2,_,_,rfl,q2,_,_,rfl,r2,_,_,rfl,s2,_,_,rfl,u2,_,_,rfl,v2,rfl⟩, ?_⟩
 simp only[List.flatten_cons,List.flatten_nil,List.append_nil,o0,o1,o2,o3,o4,o5,List.drop_zero]
 rw[List.take_of_length_le (l:=cs.drop (P.cellsOf f0.type+P.cellsOf f1.type+P.cellsOf f2.type+P.cellsOf f3.type+P.cellsOf f4.type)) (by rw[List.length_drop];omega)]
 rw[←List.drop_drop (i:=P.cellsOf f4.type) (j:=P.cellsOf f0.type+P.cellsOf f1.type+P.cellsOf f2.type+P.cellsOf f3.type),List.take_append_drop]
 rw[←List.drop_drop (i:=P.cellsOf f3.type) (j:=P.cellsOf f0.type+P.cellsOf f1.type+P.cellsOf f2.type),List.take_append_drop]
 rw[←List.drop_drop (i:=P.cellsOf f2.type) (j:=P.cellsOf f0.type+P.cellsOf f1.type),List.take_append_drop]
 rw[←List.drop_drop (i:=P.cellsOf f1.type) (j:=P.cellsOf f0.type),List.take_append_drop,List.take_append_drop]
end Go.Sx
namespace Go.Proofs.YthaeohlijigplaaGreat
open Go.Sx
set_option linter.unusedSimpArgs false
set_option linter.unusedVariables false
theorem u8_in {n:Int} (h:(Lit.int .u8 n).wf=true):0≤n∧n<256:=by
 simp[Lit.wf,IntKind.min,IntKind.max,IntKind.bits,IntKind.signed]at h;omega
theorem law_TopFound (a0:Int×Int×List Int×List Int×Int×Int) (a1:List (Bool×List Int)) (a2:List Int)
  (w0:((Lit.int .u8 a0.1).wf=true)∧((Lit.int .u8 a0.2.1).wf=true)∧(a0.2.2.1.length≤maxLen∧∀x∈a0.2.2.1,(Lit.int .u8 x).wf=true)∧(a0.2.2.2.1.length=4∧∀x∈a0.2.2.2.1,(Lit.int .i8 x).wf=true)∧((Lit.int .u8 a0.2.2.2.2.1).wf=true)∧((Lit.int .u8 a0.2.2.2.2.2).wf=true))
  (w1:a1.length≤maxLen∧∀x∈a1,(True)∧(x.2.length≤maxLen∧∀y∈x.2,(Lit.int .u8 y).wf=true)) (w2:a2.length=3∧∀x∈a2,(Lit.int .u8 x).wf=true):
  CallOK Tryz.prog 3 [ag6 (iel .u8) (iel .u8) (mvec 1 (iel .u8)) (agL (iel .i8)) (iel .u8) (iel .u8) a0,mvec 2 (ag2 bel (mvec 1 (iel .u8))) a1,agL (iel .u8) a2] [] (.val (.bool true)) [] []:=by
 obtain⟨nx,ny,ce,mp,den,fi⟩:=a0
 obtain⟨h1,h2,h3,h4,h5,h6⟩:=w0
 simp only at h1 h2 h3 h4 h5 h6
 obtain⟨k0,k1,k2,k3,rfl⟩:∃k0 k1 k2 k3,mp=[k0,k1,k2,k3]:=by
  match mp,h4.1 with
  |[k0,k1,k2,k3],_=>exact⟨k0,k1,k2,k3,rfl⟩
 obtain⟨z0,z1,z2,rfl⟩:∃z0 z1 z2,a2=[z0,z1,z2]:=by
  match a2,w2.1 with
  |[z0,z1,z2],_=>exact⟨z0,z1,z2,rfl⟩
 have m2:∀n:Int,0≤n→n.tmod 2=0∨n.tmod 2=1:=fun n hn=>by
  have:=Int.tmod_nonneg 2 hn
  have:=Int.tmod_lt_of_pos n (b:=2) (by decide)
  omega
 have hml:maxLen<9223372036854775808:=by decide
 have e1:=u8_in h1
 have e2:=u8_in h2
 have hx:(m6x ⟨nx,ny,ce,k0,k1,k2,k3,den,fi⟩).OK:=⟨m2 nx e1.1,m2 ny e2.1,fun v hv=>u8_in (h3.2 v hv),Nat.lt_of_le_of_lt h3.1 hml,u8_in h5,u8_in h6⟩
 exact t_Found ⟨nx,ny,ce,k0,k1,k2,k3,den,fi⟩ a1 z0 z1 z2 hx ⟨e1.1,e2.1⟩ (Nat.lt_of_le_of_lt w1.1 hml) (fun s hs=>⟨fun v hv=>u8_in ((w1.2 s hs).2.2 v hv),Nat.lt_of_le_of_lt (w1.2 s hs).2.1 hml⟩)
  (u8_in (w2.2 z0 (by simp))) (u8_in (w2.2 z1 (by simp))) (u8_in (w2.2 z2 (by simp)))
end Go.Proofs.YthaeohlijigplaaGreat
