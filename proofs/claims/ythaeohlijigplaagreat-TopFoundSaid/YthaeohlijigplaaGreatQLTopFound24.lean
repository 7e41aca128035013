/- The texts G1, G2, G3. -/
import Derived.Test.YthaeohlijigplaaGreatQLTopFound5
import Derived.Test.YthaeohlijigplaaGreatQLTopFound23
namespace Go.Proofs.YthaeohlijigplaaGreat
open Go.Sx
set_option linter.unusedSimpArgs false
set_option linter.unusedVariables false
set_option maxRecDepth 100000
set_option maxHeartbeats 8000000
def inT (a b c p:Pt):Prop:=0<tw p b c∧0<tw a p c∧0<tw a b p
def clT (a b c p:Pt):Prop:=0≤tw p b c∧0≤tw a p c∧0≤tw a b p
theorem inT.cl {a b c p:Pt} (h:inT a b c p):clT a b c p:=by
 obtain⟨h1,h2,h3⟩:=h
 exact⟨by grind,by grind,by grind⟩
theorem tw_sum (a b c p:Pt):tw p b c+tw a p c+tw a b p=tw a b c:=by simp only[tw,pcross,psub];grind
theorem tw_cyc (a b c:Pt):tw b c a=tw a b c:=by simp only[tw,pcross,psub];grind
section half
variable (a b c p:Pt)
theorem hl0:tw (pmid b c) a b=tw a b c/2:=by simp only[tw,pcross,psub,pmid,pscale,padd];grind
theorem hr0:tw (pmid b c) c a=tw a b c/2:=by simp only[tw,pcross,psub,pmid,pscale,padd];grind
theorem hl1:tw p a b=tw a b p:=by simp only[tw,pcross,psub];grind
theorem hl2:tw (pmid b c) p b=tw p b c/2:=by simp only[tw,pcross,psub,pmid,pscale,padd];grind
theorem hl3:tw (pmid b c) a p=(tw a p c - tw a b p)/2:=by simp only[tw,pcross,psub,pmid,pscale,padd];grind
theorem hr1:tw p c a=tw a p c:=by simp only[tw,pcross,psub];grind
theorem hr2:tw (pmid b c) p a=(tw a b p - tw a p c)/2:=by simp only[tw,pcross,psub,pmid,pscale,padd];grind
theorem hr3:tw (pmid b c) c p=tw p b c/2:=by simp only[tw,pcross,psub,pmid,pscale,padd];grind
end half
theorem half_i1 {a b c p:Pt}:inT (pmid b c) a b p↔(0<tw a b p∧0<tw p b c/2∧0<(tw a p c - tw a b p)/2):=by
 unfold inT;rw[hl1 a b p,hl2 b c p,hl3 a b c p]
theorem half_c1 {a b c p:Pt}:clT (pmid b c) a b p↔(0≤tw a b p∧0≤tw p b c/2∧0≤(tw a p c - tw a b p)/2):=by
 unfold clT;rw[hl1 a b p,hl2 b c p,hl3 a b c p]
theorem half_i2 {a b c p:Pt}:inT (pmid b c) c a p↔(0<tw a p c∧0<(tw a b p - tw a p c)/2∧0<tw p b c/2):=by
 unfold inT;rw[hr1 a c p,hr2 a b c p,hr3 b c p]
theorem half_c2 {a b c p:Pt}:clT (pmid b c) c a p↔(0≤tw a p c∧0≤(tw a b p - tw a p c)/2∧0≤tw p b c/2):=by
 unfold clT;rw[hr1 a c p,hr2 a b c p,hr3 b c p]
theorem half_in1 {a b c p:Pt} (h:inT (pmid b c) a b p):inT a b c p:=by
 obtain⟨h1,h2,h3⟩:=half_i1.1 h
 exact⟨by grind,by grind,by grind⟩
theorem half_cl1 {a b c p:Pt} (h:clT (pmid b c) a b p):clT a b c p:=by
 obtain⟨h1,h2,h3⟩:=half_c1.1 h
 exact⟨by grind,by grind,by grind⟩
theorem half_in2 {a b c p:Pt} (h:inT (pmid b c) c a p):inT a b c p:=by
 obtain⟨h1,h2,h3⟩:=half_i2.1 h
 exact⟨by grind,by grind,by grind⟩
theorem half_cl2 {a b c p:Pt} (h:clT (pmid b c) c a p):clT a b c p:=by
 obtain⟨h1,h2,h3⟩:=half_c2.1 h
 exact⟨by grind,by grind,by grind⟩
theorem half_12 {a b c p:Pt} (h:inT (pmid b c) a b p):¬clT (pmid b c) c a p:=fun k=>by
 obtain⟨h1,h2,h3⟩:=half_i1.1 h
 obtain⟨k1,k2,k3⟩:=half_c2.1 k
 grind
theorem half_21 {a b c p:Pt} (h:inT (pmid b c) c a p):¬clT (pmid b c) a b p:=fun k=>by
 obtain⟨h1,h2,h3⟩:=half_i2.1 h
 obtain⟨k1,k2,k3⟩:=half_c1.1 k
 grind
section quarter
variable (a b c p:Pt)
theorem q00:tw a (pmid a b) (pmid c a)=tw a b c/4:=by simp only[tw,pcross,psub,pmid,pscale,padd];grind
theorem q01:tw p (pmid a b) (pmid c a)=(tw p b c - tw a p c - tw a b p)/4:=by simp only[tw,pcross,psub,pmid,pscale,padd];grind
theorem q02:tw a p (pmid c a)=tw a p c/2:=by simp only[tw,pcross,psub,pmid,pscale,padd];grind
theorem q03:tw a (pmid a b) p=tw a b p/2:=by simp only[tw,pcross,psub,pmid,pscale,padd];grind
theorem q10:tw (pmid a b) b (pmid b c)=tw a b c/4:=by simp only[tw,pcross,psub,pmid,pscale,padd];grind
theorem q11:tw p b (pmid b c)=tw p b c/2:=by simp only[tw,pcross,psub,pmid,pscale,padd];grind
theorem q12:tw (pmid a b) p (pmid b c)=(tw a p c - tw p b c - tw a b p)/4:=by simp only[tw,pcross,psub,pmid,pscale,padd];grind
theorem q13:tw (pmid a b) b p=tw a b p/2:=by simp only[tw,pcross,psub,pmid,pscale,padd];grind
theorem q20:tw (pmid c a) (pmid b c) c=tw a b c/4:=by simp only[tw,pcross,psub,pmid,pscale,padd];grind
theorem q21:tw p (pmid b c) c=tw p b c/2:=by simp only[tw,pcross,psub,pmid,pscale,padd];grind
theorem q22:tw (pmid c a) p c=tw a p c/2:=by simp only[tw,pcross,psub,pmid,pscale,padd];grind
theorem q23:tw (pmid c a) (pmid b c) p=(tw a b p - tw p b c - tw a p c)/4:=by simp only[tw,pcross,psub,pmid,pscale,padd];grind
theorem q30:tw (pmid a b) (pmid b c) (pmid c a)=tw a b c/4:=by simp only[tw,pcross,psub,pmid,pscale,padd];grind
theorem q31:tw p (pmid b c) (pmid c a)=(tw p b c+tw a p c - tw a b p)/4:=by simp only[tw,pcross,psub,pmid,pscale,padd];grind
theorem q32:tw (pmid a b) p (pmid c a)=(tw a p c+tw a b p - tw p b c)/4:=by simp only[tw,pcross,psub,pmid,pscale,padd];grind
theorem q33:tw (pmid a b) (pmid b c) p=(tw p b c+tw a b p - tw a p c)/4:=by simp only[tw,pcross,psub,pmid,pscale,padd];grind
end quarter
def qT (a b c:Pt) (i:Nat):Pt×Pt×Pt:=match i with
 |0=>(a,pmid a b,pmid c a)
 |1=>(pmid a b,b,pmid b c)
 |2=>(pmid c a,pmid b c,c)
 |_=>(pmid a b,pmid b c,pmid c a)
theorem q_pos {a b c:Pt} (h:0<tw a b c) (i:Nat):0<tw (qT a b c i).1 (qT a b c i).2.1 (qT a b c i).2.2:=by
 unfold qT;split<;>simp only[q00,q10,q20,q30]<;>grind
theorem q_in {a b c p:Pt} {i:Nat} (h:inT (qT a b c i).1 (qT a b c i).2.1 (qT a b c i).2.2 p):inT a b c p:=by
 unfold qT at h;split at h<;>simp only[inT,q01,q02,q03,q11,q12,q13,q21,q22,q23,q31,q32,q33]at h ⊢<;>obtain⟨h1,h2,h3⟩:=h<;>exact⟨by grind,by grind,by grind⟩
theorem q_cl {a b c p:Pt} {i:Nat} (h:clT (qT a b c i).1 (qT a b c i).2.1 (qT a b c i).2.2 p):clT a b c p:=by
 unfold qT at h;split at h<;>simp only[clT,q01,q02,q03,q11,q12,q13,q21,q22,q23,q31,q32,q33]at h ⊢<;>obtain⟨h1,h2,h3⟩:=h<;>exact⟨by grind,by grind,by grind⟩
theorem q_dis {a b c p:Pt} {i j:Nat} (hi:i<4) (hj:j<4) (hij:i≠j) (h:inT (qT a b c i).1 (qT a b c i).2.1 (qT a b c i).2.2 p):¬clT (qT a b c j).1 (qT a b c j).2.1 (qT a b c j).2.2 p:=by
 intro k
 obtain rfl|rfl|rfl|rfl:i=0∨i=1∨i=2∨i=3:=by omega
 all_goals obtain rfl|rfl|rfl|rfl:j=0∨j=1∨j=2∨j=3:=by omega
 all_goals first|exact absurd rfl hij|(simp only[qT,inT,clT,q01,q02,q03,q11,q12,q13,q21,q22,q23,q31,q32,q33]at h k;obtain⟨h1,h2,h3⟩:=h;obtain⟨k1,k2,k3⟩:=k;grind)
theorem bl_sign {a b c p:Pt} (h:0<tw a b c) (i:Nat):(0<bl a b c p i↔0<bp a b c p i)∧(bl a b c p i<0↔bp a b c p i<0):=by
 unfold bl
 generalize bp a b c p i=x
 generalize tw a b c=t at*
 have e:x=(x/t)*t:=by rw[Rat.div_mul_cancel (by grind)]
 generalize x/t=y at*
 subst e
 constructor
 ·constructor
  ·intro hy;exact Rat.mul_pos hy h
  ·intro hy
   by_cases h0:0<y
   ·exact h0
   ·have h1:0≤ -y:=by grind
    have:=Rat.mul_nonneg h1 (Rat.le_of_lt h)
    grind
 ·constructor
  ·intro hy
   have:=Rat.mul_pos (a:= -y) (by grind) h
   grind
  ·intro hy
   by_cases h0:y<0
   ·exact h0
   ·have:=Rat.mul_nonneg (a:=y) (by grind) (Rat.le_of_lt h)
    grind
theorem sign_pos {x:Rat} (h:0<x):x.num.sign=1:=by
 refine Int.sign_eq_one_of_pos ?_
 rcases Int.lt_trichotomy x.num 0 with h1|h1|h1
 ·have:=Rat.num_nonneg.2 (Rat.le_of_lt h);omega
 ·rw[Rat.num_eq_zero]at h1;subst h1;exact absurd h (by grind)
 ·exact h1
theorem sign_neg {x:Rat} (h:x<0):x.num.sign= -1:=by
 refine Int.sign_eq_neg_one_of_neg ?_
 have:¬0≤x.num:=fun h1=>by have:=Rat.num_nonneg.1 h1;grind
 omega
theorem wh_in {a b c p:Pt} (h:0<tw a b c) (hi:inT a b c p):whF a b c p=1:=by
 unfold whF wh3
 have s0:=sign_pos ((bl_sign (p:=p) h 0).1.2 hi.1)
 have s1:=sign_pos ((bl_sign (p:=p) h 1).1.2 hi.2.1)
 have s2:=sign_pos ((bl_sign (p:=p) h 2).1.2 hi.2.2)
 rw[s0,s1,s2];decide
theorem wh_out {a b c p:Pt} (h:0<tw a b c) (hi:¬clT a b c p):whF a b c p=0:=by
 unfold whF wh3
 refine if_pos ?_
 by_cases h0:tw p b c<0
 ·exact .inl (sign_neg ((bl_sign (p:=p) h 0).2.2 h0))
 ·by_cases h1:tw a p c<0
  ·exact .inr (.inl (sign_neg ((bl_sign (p:=p) h 1).2.2 h1)))
  ·by_cases h2:tw a b p<0
   ·exact .inr (.inr (sign_neg ((bl_sign (p:=p) h 2).2.2 h2)))
   ·exact absurd ⟨by grind,by grind,by grind⟩ hi
end Go.Proofs.YthaeohlijigplaaGreat
namespace Go.Proofs.YthaeohlijigplaaGreat
open Go.Sx
set_option linter.unusedSimpArgs false
set_option linter.unusedVariables false
set_option maxRecDepth 100000
set_option maxHeartbeats 8000000
theorem ke_comm (a b:Int):ke a b=ke b a:=by
 unfold ke
 rcases Int.lt_trichotomy a b with h|h|h
 ·rw[if_neg (by omega),if_pos (by omega),if_pos (by omega),if_neg (by omega)]
 ·subst h;rfl
 ·rw[if_pos (by omega),if_neg (by omega),if_neg (by omega),if_pos (by omega)]
theorem ke_cases (a b:Int):ke a b=(a,b)∧a≤b∨ke a b=(b,a)∧b<a:=by
 unfold ke
 by_cases h:b<a
 ·right;rw[if_pos h,if_neg (by omega)];exact⟨rfl,h⟩
 ·left
  rw[if_neg h]
  by_cases h2:b>a
  ·rw[if_pos h2];exact⟨rfl,by omega⟩
  ·rw[if_neg h2];exact⟨by rw[show a=b by omega],by omega⟩
theorem ke_ke (a b:Int):ke (ke a b).1 (ke a b).2=ke a b:=by
 rcases ke_cases a b with⟨h,_⟩|⟨h,_⟩
 ·rw[h];exact h
 ·rw[h];show ke b a=_;rw[ke_comm];exact h
theorem ke_inj {a b c d:Int} (h:ke a b=ke c d):a=c∧b=d∨a=d∧b=c:=by
 rcases ke_cases a b with⟨h1,_⟩|⟨h1,_⟩<;>rcases ke_cases c d with⟨h2,_⟩|⟨h2,_⟩<;>rw[h1,h2]at h<;>cases h<;>simp
def trE (t:T3) (p:Int×Int):Prop:=p=ke t.1 t.2.1∨p=ke t.2.1 t.2.2∨p=ke t.2.2 t.1
theorem look_put {l:MapE} {t a b:Int} {p:Int×Int}:(Sx.look (putE l t a b) p).isSome=true↔(p=ke a b∨(Sx.look l p).isSome=true):=by
 unfold putE
 rw[look_updL]
 by_cases h:p=ke a b
 ·rw[if_pos h];simp[h]
 ·rw[if_neg h];simp[h]
theorem mapE_has (ts:List T3) (p:Int×Int):∀i,(Sx.look (mapE ts i) p).isSome=true↔∃j,j<i∧trE (gt ts j) p
 |0=>by simp[mapE,Sx.look,lookI]
 |i+1=>by
  simp only[mapE,triE,look_put,mapE_has ts p i]
  constructor
  ·rintro(h|h|h|⟨j,h1,h2⟩)
   ·exact⟨i,by omega,.inr (.inr h)⟩
   ·exact⟨i,by omega,.inr (.inl h)⟩
   ·exact⟨i,by omega,.inl h⟩
   ·exact⟨j,by omega,h2⟩
  ·rintro⟨j,h1,h2⟩
   by_cases hj:j=i
   ·subst hj
    rcases h2 with h|h|h
    ·exact .inr (.inr (.inl h))
    ·exact .inr (.inl h)
    ·exact .inl h
   ·exact .inr (.inr (.inr ⟨j,by omega,h2⟩))
theorem look_some_mem {β:Type} {l:List ((Int×Int)×β)} {p:Int×Int}:(Sx.look l p).isSome=true↔p∈l.map (·.1):=by
 constructor
 ·intro h
  obtain⟨v,hv⟩:=Option.isSome_iff_exists.1 h
  exact List.mem_map.2 ⟨_,look_mem hv,rfl⟩
 ·intro h
  cases hl:Sx.look l p with
  |none=>exact absurd h (look_none_mem hl)
  |some v=>rfl
theorem edgesL_mem (ts:List T3) (p:Int×Int):p∈(edgesL ts).map (fun e=>(e.1,e.2.1))↔∃j,j<ts.length∧trE (gt ts j) p:=by
 rw[((edgesL_perm ts).map (fun e:E4=>(e.1,e.2.1))).mem_iff,List.map_map]
 rw[show(mapE ts ts.length).map ((fun e:E4=>(e.1,e.2.1))∘(·.2))=(mapE ts ts.length).map (·.1)from List.map_congr_left fun x hx=>((keys_mapE ts ts.length).ends x hx).symm]
 rw[←look_some_mem,mapE_has]
structure EsOK (ts:List T3) (es:List E4):Prop where
 srt:es.Pairwise fun x y=>cmpE x y<0
 tri:∀e∈es,∃j,j<ts.length∧trE (gt ts j) (e.1,e.2.1)
theorem esok_all (ts:List T3):EsOK ts (edgesL ts):=
 ⟨edgesL_sorted ts,fun e he=>(edgesL_mem ts _).1 (List.mem_map.2 ⟨e,he,rfl⟩)⟩
theorem ge_mem {es:List E4} {k:Nat} (h:k<es.length):ge es k∈es:=by
 rw[ge,List.getD_eq_getElem?_getD,List.getElem?_eq_getElem h];exact List.getElem_mem h
theorem cutA_filter (hm:MapI) (es:List E4):∀k,k≤es.length→cutA hm es k=(es.take k).filter fun e=>decide (getI hm (e.1,e.2.1)>0)
 |0,_=>rfl
 |k+1,h=>by
  have e:es.take (k+1)=es.take k++[ge es k]:=by
   rw[List.take_add_one,ge,List.getD_eq_getElem?_getD,List.getElem?_eq_getElem (by omega)];rfl
  rw[e,List.filter_append,←cutA_filter hm es k (by omega)]
  simp only[cutA]
  split
  ·rename_i hp;rw[List.filter_cons_of_pos (by simpa using hp)];rfl
  ·rename_i hp;rw[List.filter_cons_of_neg (by simpa using hp)];simp
theorem esok_cut (m:Me) (mk:List Int):EsOK m.ts (cutL m mk):=by
 have h:=esok_all m.ts
 unfold cutL
 rw[cutA_filter _ _ _ (Nat.le_refl _),List.take_length]
 exact⟨h.srt.filter _,fun e he=>h.tri e (List.mem_filter.1 he).1⟩
theorem EsOK.inj {ts:List T3} {es:List E4} (h:EsOK ts es) {i j:Nat} (hi:i<es.length) (hj:j<es.length) (e:((ge es i).1,(ge es i).2.1)=((ge es j).1,(ge es j).2.1)):i=j:=by
 have hp:=List.pairwise_iff_getElem.1 h.srt
 have g:∀k (hk:k<es.length),ge es k=es[k]:=fun k hk=>by rw[ge,List.getD_eq_getElem?_getD,List.getElem?_eq_getElem hk];rfl
 rw[g i hi,g j hj]at e
 rw[Prod.mk.injEq]at e
 rcases Nat.lt_trichotomy i j with h1|h1|h1
 ·have:=cmpE_lt.1 (hp i j hi hj h1);omega
 ·exact h1
 ·have:=cmpE_lt.1 (hp j i hj hi h1);omega
theorem EsOK.ord {ts:List T3} {es:List E4} (h:EsOK ts es) {e:E4} (he:e∈es):ke e.1 e.2.1=(e.1,e.2.1):=by
 obtain⟨j,_,hj⟩:=h.tri e he
 rcases hj with hj|hj|hj<;>(have:=ke_ke (e.1) (e.2.1);rw[show ke e.1 e.2.1=ke (e.1,e.2.1).1 (e.1,e.2.1).2 from rfl,hj,ke_ke])
theorem trE_val {n:Nat} {t:T3} {p:Int×Int} (ht:okT (n:Int) t=true) (h:trE t p):(0≤p.1∧p.1<n)∧(0≤p.2∧p.2<n)∧p.1<p.2:=by
 obtain⟨h1,h2,h3,h4,h5,h6⟩:=okT_iff ht
 have key:∀a b:Int,(0≤a∧a<n)→(0≤b∧b<n)→a≠b→p=ke a b→(0≤p.1∧p.1<n)∧(0≤p.2∧p.2<n)∧p.1<p.2:=by
  intro a b ha hb hab hp
  rcases ke_cases a b with⟨e,_⟩|⟨e,_⟩<;>rw[e]at hp<;>subst hp<;>simp only<;>omega
 rcases h with h|h|h
 ·exact key _ _ h1 h2 h4 h
 ·exact key _ _ h2 h3 h5 h
 ·exact key _ _ h3 h1 h6 h
theorem OkTs.at {n:Nat} {ts:List T3} (h:OkTs n ts) {i:Nat} (hi:i<ts.length):okT (n:Int) (gt ts i)=true:=h i hi
theorem EsOK.val {n:Nat} {ts:List T3} {es:List E4} (h:EsOK ts es) (ht:OkTs n ts) {e:E4} (he:e∈es):(0≤e.1∧e.1<n)∧(0≤e.2.1∧e.2.1<n):=by
 obtain⟨j,hj,h1⟩:=h.tri e he
 obtain⟨a,b,_⟩:=trE_val (ht.at hj) h1
 exact⟨a,b⟩
theorem EsOK.hev {n:Nat} {ts:List T3} {es:List E4} (h:EsOK ts es) (ht:OkTs n ts):∀k,k<es.length→pv n (ge es k).1=true∧pv n (ge es k).2.1=true:=fun k hk=>by
 obtain⟨a,b⟩:=h.val ht (ge_mem hk)
 simp only[pv,Bool.and_eq_true,decide_eq_true_eq]
 exact⟨a,b⟩
def midK (key:Nat→Int×Int) (n:Nat):Nat→MapI
 |0=>[]
 |k+1=>updL (midK key n k) (key k) ((n+k:Nat):Int)
theorem midK_look {key:Nat→Int×Int} {n:Nat} {p:Int×Int} {v:Int}:∀N,(∀i j,i<N→j<N→key i=key j→i=j)→(Sx.look (midK key n N) p=some v↔∃j,j<N∧key j=p∧v=((n+j:Nat):Int))
 |0,_=>by simp[midK,Sx.look,lookI]
 |N+1,h=>by
  have ih:=midK_look (key:=key) (n:=n) (p:=p) (v:=v) N fun i j hi hj=>h i j (by omega) (by omega)
  simp only[midK]
  rw[look_updL]
  by_cases hp:p=key N
  ·rw[if_pos hp]
   constructor
   ·intro e;cases e;exact⟨N,by omega,hp.symm,rfl⟩
   ·rintro⟨j,h1,h2,h3⟩
    have:j=N:=h j N (by omega) (by omega) (by rw[h2,hp])
    subst this;rw[h3]
  ·rw[if_neg hp,ih]
   constructor
   ·rintro⟨j,h1,h2⟩;exact⟨j,by omega,h2⟩
   ·rintro⟨j,h1,h2,h3⟩
    have:j≠N:=by rintro rfl;exact hp h2.symm
    exact⟨j,by omega,h2,h3⟩
theorem midM_K (n:Nat) (es:List E4):∀k,midM n es k=midK (fun k=>ke (ge es k).1 (ge es k).2.1) n k
 |0=>rfl
 |k+1=>by simp only[midM,midK,midM_K n es k]
theorem midB_K (n:Nat) (es:List E4):∀k,midB n es k=midK (fun k=>((ge es k).1,(ge es k).2.1)) n k
 |0=>rfl
 |k+1=>by simp only[midB,midK,midB_K n es k]
theorem midM_look {ts:List T3} {es:List E4} (h:EsOK ts es) {n:Nat} {p:Int×Int} {v:Int}:Sx.look (midM n es es.length) p=some v↔∃j,j<es.length∧((ge es j).1,(ge es j).2.1)=p∧v=((n+j:Nat):Int):=by
 have e:∀k,k<es.length→ke (ge es k).1 (ge es k).2.1=((ge es k).1,(ge es k).2.1):=fun k hk=>h.ord (ge_mem hk)
 rw[midM_K,midK_look _ (fun i j hi hj hk=>h.inj hi hj (by rw[←e i hi,←e j hj];exact hk))]
 constructor
 ·rintro⟨j,h1,h2,h3⟩;exact⟨j,h1,by rw[←h2,e j h1],h3⟩
 ·rintro⟨j,h1,h2,h3⟩;exact⟨j,h1,by rw[←h2,e j h1],h3⟩
theorem midB_look {ts:List T3} {es:List E4} (h:EsOK ts es) {n:Nat} {p:Int×Int} {v:Int}:Sx.look (midB n es es.length) p=some v↔∃j,j<es.length∧((ge es j).1,(ge es j).2.1)=p∧v=((n+j:Nat):Int):=by
 rw[midB_K,midK_look _ (fun i j hi hj hk=>h.inj hi hj hk)]
theorem midP_old (ps:List Pt) (es:List E4) {i:Nat} (hi:i<ps.length):∀k,(midP ps es k).getD i (0,0)=ps.getD i (0,0)
 |0=>rfl
 |k+1=>by
  simp only[midP]
  rw[List.getD_eq_getElem?_getD,List.getElem?_append_left (by rw[midP_len];omega),←List.getD_eq_getElem?_getD,midP_old ps es hi k]
theorem midP_new (ps:List Pt) (es:List E4) {j:Nat}:∀k,j<k→(midP ps es k).getD (ps.length+j) (0,0)=pmid (gp ps (ge es j).1) (gp ps (ge es j).2.1)
 |0,h=>absurd h (by omega)
 |k+1,h=>by
  simp only[midP]
  by_cases hj:j=k
  ·subst hj
   rw[List.getD_eq_getElem?_getD,List.getElem?_append_right (by rw[midP_len];omega),midP_len,Nat.sub_self]
   rfl
  ·rw[List.getD_eq_getElem?_getD,List.getElem?_append_left (by rw[midP_len];omega),←List.getD_eq_getElem?_getD,midP_new ps es k (by omega)]
theorem pmid_comm (a b:Pt):pmid a b=pmid b a:=by simp only[pmid,pscale,padd,Prod.mk.injEq];exact⟨by grind,by grind⟩
structure Mids (ps ps':List Pt) (mm:MapI):Prop where
 val:∀a b v,Sx.look mm (ke a b)=some v→(ps.length:Int)≤v∧v<ps'.length∧gp ps' v=pmid (gp ps a) (gp ps b)
 inj:∀p q v,Sx.look mm p=some v→Sx.look mm q=some v→p=q
 old:∀i:Int,0≤i→i<ps.length→gp ps' i=gp ps i
 len:ps.length≤ps'.length
theorem mids_of {ps:List Pt} {es:List E4} {mm:MapI} (hm:∀p v,Sx.look mm p=some v↔∃j,j<es.length∧((ge es j).1,(ge es j).2.1)=p∧v=((ps.length+j:Nat):Int)):Mids ps (midP ps es es.length) mm where
 val a b v hv:=by
  obtain⟨j,h1,h2,rfl⟩:=(hm _ _).1 hv
  rw[midP_len]
  refine⟨by omega,by omega, ?_⟩
  have e:=midP_new ps es es.length h1
  rw[gp,Int.toNat_natCast,e]
  rcases ke_cases a b with⟨h3,_⟩|⟨h3,_⟩<;>rw[h3,Prod.mk.injEq]at h2<;>rw[h2.1,h2.2]
  rw[pmid_comm]
 inj p q v hp hq:=by
  obtain⟨i,h1,rfl,h3⟩:=(hm _ _).1 hp
  obtain⟨j,k1,rfl,k3⟩:=(hm _ _).1 hq
  rw[show i=j by omega]
 old i h0 hi:=by
  rw[gp,gp,midP_old ps es (by omega)]
 len:=by rw[midP_len];omega
theorem mids_M {ps:List Pt} {ts:List T3} {es:List E4} (h:EsOK ts es):Mids ps (midP ps es es.length) (midM ps.length es es.length):=mids_of fun _ _=>midM_look h
theorem mids_B {ps:List Pt} {ts:List T3} {es:List E4} (h:EsOK ts es):Mids ps (midP ps es es.length) (midB ps.length es es.length):=mids_of fun _ _=>midB_look h
theorem mid_has {ts:List T3} {n i:Nat} (hi:i<ts.length) {p:Int×Int} (hp:trE (gt ts i) p):∃v,Sx.look (midM n (edgesL ts) (edgesL ts).length) p=some v:=by
 obtain⟨e,he,rfl⟩:=List.mem_map.1 ((edgesL_mem ts p).2 ⟨i,hi,hp⟩)
 obtain⟨j,hj,rfl⟩:=List.getElem_of_mem he
 refine⟨_,(midM_look (esok_all ts)).2 ⟨j,hj, ?_,rfl⟩⟩
 rw[ge,List.getD_eq_getElem?_getD,List.getElem?_eq_getElem hj];rfl
end Go.Proofs.YthaeohlijigplaaGreat
namespace Go.Proofs.YthaeohlijigplaaGreat
open Go.Sx
set_option linter.unusedSimpArgs false
set_option linter.unusedVariables false
set_option maxRecDepth 100000
set_option maxHeartbeats 8000000
def inP (ps:List Pt) (t:T3) (p:Pt):Prop:=inT (gp ps t.1) (gp ps t.2.1) (gp ps t.2.2) p
def clP (ps:List Pt) (t:T3) (p:Pt):Prop:=clT (gp ps t.1) (gp ps t.2.1) (gp ps t.2.2) p
def twP (ps:List Pt) (t:T3):Rat:=tw (gp ps t.1) (gp ps t.2.1) (gp ps t.2.2)
theorem okT_of {n:Int} {a b c:Int} (h1:0≤a∧a<n) (h2:0≤b∧b<n) (h3:0≤c∧c<n) (h4:a≠b) (h5:b≠c) (h6:c≠a):okT n (a,b,c)=true:=by
 simp only[okT,Bool.and_eq_true,decide_eq_true_eq,Bool.not_eq_true',beq_eq_false_iff_ne]
 exact⟨⟨⟨⟨⟨h1,h2⟩,h3⟩,h4⟩,h5⟩,h6⟩
structure Pieces (ps ps':List Pt) (c:T3) (L:List T3):Prop where
 ok:∀t∈L,okT (ps'.length:Nat) t=true
 pos:0<twP ps c→∀t∈L,0<twP ps' t
 inn:∀t∈L,∀p,inP ps' t p→inP ps c p
 cl:∀t∈L,∀p,clP ps' t p→clP ps c p
 dis:L.Pairwise fun t u=>∀p,(inP ps' t p→¬clP ps' u p)∧(inP ps' u p→¬clP ps' t p)
theorem red_pieces {ps ps':List Pt} {mm:MapI} (h:Mids ps ps' mm) {t:T3} (ht:okT (ps.length:Nat) t=true) (hh:∀p,trE t p→∃v,Sx.look mm p=some v):Pieces ps ps' t (redT mm t):=by
 obtain⟨a,b,c⟩:=t
 obtain⟨h1,h2,h3,h4,h5,h6⟩:=okT_iff ht
 simp only at h1 h2 h3 h4 h5 h6
 obtain⟨x,hx⟩:=hh _ (.inl rfl)
 obtain⟨y,hy⟩:=hh _ (.inr (.inl rfl))
 obtain⟨z,hz⟩:=hh _ (.inr (.inr rfl))
 simp only at hx hy hz
 have hl:=h.len
 obtain⟨x1,x2,x3⟩:=h.val _ _ _ hx
 obtain⟨y1,y2,y3⟩:=h.val _ _ _ hy
 obtain⟨z1,z2,z3⟩:=h.val _ _ _ hz
 have hxy:x≠y:=by
  rintro rfl
  have:=ke_inj (h.inj _ _ _ hx hy);omega
 have hyz:y≠z:=by
  rintro rfl
  have:=ke_inj (h.inj _ _ _ hy hz);omega
 have hzx:z≠x:=by
  rintro rfl
  have:=ke_inj (h.inj _ _ _ hz hx);omega
 have oa:=h.old a h1.1 h1.2
 have ob:=h.old b h2.1 h2.2
 have oc:=h.old c h3.1 h3.2
 have e:redT mm (a,b,c)=[(a,x,z),(x,b,y),(z,y,c),(x,y,z)]:=by simp only[redT,getI,hx,hy,hz,Option.getD_some]
 rw[e]
 have hq:∀t,t∈[(a,x,z),(x,b,y),(z,y,c),(x,y,z)]↔t=(a,x,z)∨t=(x,b,y)∨t=(z,y,c)∨t=(x,y,z):=by simp
 have c0:(gp ps' a,gp ps' x,gp ps' z)=qT (gp ps a) (gp ps b) (gp ps c) 0:=by rw[oa,x3,z3];rfl
 have c1:(gp ps' x,gp ps' b,gp ps' y)=qT (gp ps a) (gp ps b) (gp ps c) 1:=by rw[ob,x3,y3];rfl
 have c2:(gp ps' z,gp ps' y,gp ps' c)=qT (gp ps a) (gp ps b) (gp ps c) 2:=by rw[oc,z3,y3];rfl
 have c3:(gp ps' x,gp ps' y,gp ps' z)=qT (gp ps a) (gp ps b) (gp ps c) 3:=by rw[x3,y3,z3];rfl
 have key:∀t∈[(a,x,z),(x,b,y),(z,y,c),(x,y,z)],∃i,(gp ps' t.1,gp ps' t.2.1,gp ps' t.2.2)=qT (gp ps a) (gp ps b) (gp ps c) i:=by
  intro t ht
  rcases(hq t).1 ht with rfl|rfl|rfl|rfl
  ·exact⟨0,c0⟩
  ·exact⟨1,c1⟩
  ·exact⟨2,c2⟩
  ·exact⟨3,c3⟩
 have via:∀{t:T3} {i:Nat} {p:Pt},(gp ps' t.1,gp ps' t.2.1,gp ps' t.2.2)=qT (gp ps a) (gp ps b) (gp ps c) i→
   (inP ps' t p↔inT (qT (gp ps a) (gp ps b) (gp ps c) i).1 (qT (gp ps a) (gp ps b) (gp ps c) i).2.1 (qT (gp ps a) (gp ps b) (gp ps c) i).2.2 p)∧
   (clP ps' t p↔clT (qT (gp ps a) (gp ps b) (gp ps c) i).1 (qT (gp ps a) (gp ps b) (gp ps c) i).2.1 (qT (gp ps a) (gp ps b) (gp ps c) i).2.2 p)∧
   twP ps' t=tw (qT (gp ps a) (gp ps b) (gp ps c) i).1 (qT (gp ps a) (gp ps b) (gp ps c) i).2.1 (qT (gp ps a) (gp ps b) (gp ps c) i).2.2:=by
  intro t i p e
  rw[←e];exact⟨Iff.rfl,Iff.rfl,rfl⟩
 have two:∀{t u:T3} {i j:Nat},i<4→j<4→i≠j→(gp ps' t.1,gp ps' t.2.1,gp ps' t.2.2)=qT (gp ps a) (gp ps b) (gp ps c) i→(gp ps' u.1,gp ps' u.2.1,gp ps' u.2.2)=qT (gp ps a) (gp ps b) (gp ps c) j→
   ∀p,(inP ps' t p→¬clP ps' u p)∧(inP ps' u p→¬clP ps' t p):=by
  intro t u i j hi hj hij e1 e2 p
  rw[(via e1 (p:=p)).1,(via e1 (p:=p)).2.1,(via e2 (p:=p)).1,(via e2 (p:=p)).2.1]
  exact⟨q_dis hi hj hij,q_dis hj hi (Ne.symm hij)⟩
 refine⟨fun t ht=> ?_,fun hp t ht=> ?_,fun t ht p hp=> ?_,fun t ht p hp=> ?_, ?_⟩
 ·rcases(hq t).1 ht with rfl|rfl|rfl|rfl
  ·exact okT_of (by omega) (by omega) (by omega) (by omega) (by omega) (by omega)
  ·exact okT_of (by omega) (by omega) (by omega) (by omega) (by omega) (by omega)
  ·exact okT_of (by omega) (by omega) (by omega) (by omega) (by omega) (by omega)
  ·exact okT_of (by omega) (by omega) (by omega) (by omega) (by omega) (by omega)
 ·obtain⟨i,e⟩:=key t ht
  rw[(via e (p:=(0,0))).2.2]
  exact q_pos hp i
 ·obtain⟨i,e⟩:=key t ht
  exact q_in ((via e).1.1 hp)
 ·obtain⟨i,e⟩:=key t ht
  exact q_cl ((via e).2.1.1 hp)
 ·simp only[List.pairwise_cons,List.mem_cons,List.not_mem_nil,or_false,forall_eq_or_imp,forall_eq,List.Pairwise.nil,and_true]
  exact⟨⟨two (by decide) (by decide) (by decide) c0 c1,two (by decide) (by decide) (by decide) c0 c2,two (by decide) (by decide) (by decide) c0 c3⟩,
   ⟨two (by decide) (by decide) (by decide) c1 c2,two (by decide) (by decide) (by decide) c1 c3⟩,two (by decide) (by decide) (by decide) c2 c3,fun _ h=>h.elim⟩
theorem half_pieces {ps ps':List Pt} {mm:MapI} (h:Mids ps ps' mm):∀(d:Nat) (c:T3),d≤2→okT (ps'.length:Nat) c=true→(1≤d→c.2.1<ps.length∧c.2.2<ps.length∧∀v,Sx.look mm (bas c)=some v→v≠c.1)→(2≤d→c.1<ps.length)→Pieces ps' ps' c (halveF mm d c)
 |d,c,hd,hok,h1,h2=>by
  have one:Pieces ps' ps' c [c]:=by
   refine⟨fun t ht=> ?_,fun hp t ht=> ?_,fun t ht p hp=> ?_,fun t ht p hp=> ?_,List.pairwise_singleton ..⟩<;>obtain rfl:=List.mem_singleton.1 ht
   ·exact hok
   ·exact hp
   ·exact hp
   ·exact hp
  match d with
  |0=>exact one
  |d+1=>
   simp only[halveF]
   cases hl:Sx.look mm (bas c)with
   |none=>exact one
   |some n=>
    obtain⟨x,y,z⟩:=c
    obtain⟨k1,k2,k3⟩:=h1 (by omega)
    simp only at k1 k2 k3
    have k4:=k3 n hl
    obtain⟨o1,o2,o3,o4,o5,o6⟩:=okT_iff hok
    simp only at o1 o2 o3 o4 o5 o6
    obtain⟨n1,n2,n3⟩:=h.val _ _ _ hl
    have hlen:=h.len
    rw[←h.old y o2.1 k1,←h.old z o3.1 k2]at n3
    have p1:Pieces ps' ps' (n,x,y) (halveF mm d (n,x,y)):=by
     refine half_pieces h d (n,x,y) (by omega) (okT_of (by omega) (by omega) (by omega) (by omega) (by omega) (by omega)) (fun hd1=> ?_) (fun hd2=>by omega)
     have:=h2 (by omega)
     refine⟨this,k1,fun v hv e=> ?_⟩
     simp only at e
     subst e
     have:=ke_inj (h.inj _ _ _ hl hv)
     simp only at this
     omega
    have p2:Pieces ps' ps' (n,z,x) (halveF mm d (n,z,x)):=by
     refine half_pieces h d (n,z,x) (by omega) (okT_of (by omega) (by omega) (by omega) (by omega) (by omega) (by omega)) (fun hd1=> ?_) (fun hd2=>by omega)
     have:=h2 (by omega)
     refine⟨k2,this,fun v hv e=> ?_⟩
     simp only at e
     subst e
     have:=ke_inj (h.inj _ _ _ hl hv)
     simp only at this
     omega
    simp only
    generalize halveF mm d (n,x,y)=L1 at*
    generalize halveF mm d (n,z,x)=L2 at*
    have i1:∀p,inP ps' (n,x,y) p→inP ps' (x,y,z) p:=fun p hp=>by
     simp only[inP,n3]at hp ⊢;exact half_in1 hp
    have i2:∀p,inP ps' (n,z,x) p→inP ps' (x,y,z) p:=fun p hp=>by
     simp only[inP,n3]at hp ⊢;exact half_in2 hp
    have j1:∀p,clP ps' (n,x,y) p→clP ps' (x,y,z) p:=fun p hp=>by
     simp only[clP,n3]at hp ⊢;exact half_cl1 hp
    have j2:∀p,clP ps' (n,z,x) p→clP ps' (x,y,z) p:=fun p hp=>by
     simp only[clP,n3]at hp ⊢;exact half_cl2 hp
    refine⟨fun t ht=> ?_,fun hp t ht=> ?_,fun t ht p hp=> ?_,fun t ht p hp=> ?_, ?_⟩
    ·rcases List.mem_append.1 ht with ht|ht
     ·exact p1.ok t ht
     ·exact p2.ok t ht
    ·rcases List.mem_append.1 ht with ht|ht
     ·exact p1.pos (by simp only[twP,n3]at hp ⊢;rw[hl0];grind) t ht
     ·exact p2.pos (by simp only[twP,n3]at hp ⊢;rw[hr0];grind) t ht
    ·rcases List.mem_append.1 ht with ht|ht
     ·exact i1 p (p1.inn t ht p hp)
     ·exact i2 p (p2.inn t ht p hp)
    ·rcases List.mem_append.1 ht with ht|ht
     ·exact j1 p (p1.cl t ht p hp)
     ·exact j2 p (p2.cl t ht p hp)
    ·rw[List.pairwise_append]
     refine⟨p1.dis,p2.dis,fun t ht u hu p=>⟨fun hp hq=> ?_,fun hp hq=> ?_⟩⟩
     ·have a:=p1.inn t ht p hp
      have b:=p2.cl u hu p hq
      simp only[inP,clP,n3]at a b
      exact half_12 a b
     ·have a:=p2.inn u hu p hp
      have b:=p1.cl t ht p hq
      simp only[inP,clP,n3]at a b
      exact half_21 a b
theorem bis_pieces {ps ps':List Pt} {mm:MapI} (h:Mids ps ps' mm) {t:T3} (ht:okT (ps.length:Nat) t=true):Pieces ps ps' t (halveF mm 2 t):=by
 obtain⟨h1,h2,h3,h4,h5,h6⟩:=okT_iff ht
 have hl:=h.len
 have hp:=half_pieces h 2 t (Nat.le_refl _) (by obtain⟨a,b,c⟩:=t;exact okT_of (by simp only at*;omega) (by simp only at*;omega) (by simp only at*;omega) h4 h5 h6) (fun _=>⟨h2.2,h3.2,fun v hv e=>by have:=(h.val _ _ _ hv).1;omega⟩) (fun _=>h1.2)
 have e1:=h.old _ h1.1 h1.2
 have e2:=h.old _ h2.1 h2.2
 have e3:=h.old _ h3.1 h3.2
 refine⟨hp.ok,fun k=>hp.pos ?_,fun u hu p k=> ?_,fun u hu p k=> ?_,hp.dis⟩
 ·unfold twP;rw[e1,e2,e3];exact k
 ·have:=hp.inn u hu p k
  unfold inP at this;rw[e1,e2,e3]at this;exact this
 ·have:=hp.cl u hu p k
  unfold clP at this;rw[e1,e2,e3]at this;exact this
def catA (f:Nat→List T3):Nat→List T3
 |0=>[]
 |i+1=>catA f i++f i
def catP (f:Nat→List T3):Nat→List Int
 |0=>[]
 |i+1=>catP f i++List.replicate (f i).length ((i:Nat):Int)
theorem catP_len (f:Nat→List T3):∀n,(catP f n).length=(catA f n).length
 |0=>rfl
 |n+1=>by simp[catA,catP,catP_len f n]
theorem cat_at (f:Nat→List T3):∀n j,j<(catA f n).length→∃i r,i<n∧r<(f i).length∧j=(catA f i).length+r∧gt (catA f n) j=gt (f i) r∧(catP f n).getD j 0=((i:Nat):Int)
 |0,j,h=>by simp[catA]at h
 |n+1,j,h=>by
  simp only[catA,catP]at h ⊢
  by_cases hj:j<(catA f n).length
  ·obtain⟨i,r,h1,h2,h3,h4,h5⟩:=cat_at f n j hj
   refine⟨i,r,by omega,h2,h3, ?_, ?_⟩
   ·rw[←h4,gt,gt,List.getD_eq_getElem?_getD,List.getElem?_append_left hj,List.getD_eq_getElem?_getD]
   ·rw[←h5,List.getD_eq_getElem?_getD,List.getElem?_append_left (by rw[catP_len];exact hj),List.getD_eq_getElem?_getD]
  ·rw[List.length_append]at h
   refine⟨n,j - (catA f n).length,by omega,by omega,by omega, ?_, ?_⟩
   ·rw[gt,gt,List.getD_eq_getElem?_getD,List.getElem?_append_right (by omega),List.getD_eq_getElem?_getD]
   ·rw[List.getD_eq_getElem?_getD,List.getElem?_append_right (by rw[catP_len];omega),catP_len,List.getElem?_replicate,if_pos (by omega)]
    rfl
theorem gt_mem {L:List T3} {r:Nat} (h:r<L.length):gt L r∈L:=by
 rw[gt,List.getD_eq_getElem?_getD,List.getElem?_eq_getElem h];exact List.getElem_mem h
structure Good (m:Me):Prop where
 ne:m.ts≠[]
 ok:OkTs m.ps.length m.ts
 pos:∀i,i<m.ts.length→0<twP m.ps (gt m.ts i)
 sep:∀i k,i<m.ts.length→k<m.ts.length→i≠k→∀p,inP m.ps (gt m.ts i) p→¬clP m.ps (gt m.ts k) p
structure Ref (m f:Me) (pa:List Int):Prop where
 len:pa.length=f.ts.length
 val:∀j,j<pa.length→0≤pa.getD j 0∧pa.getD j 0<(m.ts.length:Nat)
 inn:∀j,j<pa.length→∀p,inP f.ps (gt f.ts j) p→inP m.ps (gt m.ts (pa.getD j 0).toNat) p
theorem cat_good {m:Me} {ps':List Pt} {ss:List T3} {f:Nat→List T3} (hm:Good m) (hf:∀i,i<m.ts.length→Pieces m.ps ps' (gt m.ts i) (f i)) (hne:∀i,i<m.ts.length→f i≠[]):
  Good ⟨ps',catA f m.ts.length,ss⟩∧Ref m ⟨ps',catA f m.ts.length,ss⟩ (catP f m.ts.length):=by
 refine⟨⟨?_,fun j hj=> ?_,fun j hj=> ?_,fun j k hj hk hjk p hp hq=> ?_⟩,catP_len f _,fun j hj=> ?_,fun j hj p hp=> ?_⟩
 ·have:0<m.ts.length:=List.length_pos_iff.2 hm.ne
  obtain⟨n,hn⟩:∃n,m.ts.length=n+1:=⟨m.ts.length - 1,by omega⟩
  rw[hn]
  simp only[catA]
  simp[hne n (by omega)]
 ·obtain⟨i,r,h1,h2,h3,h4,h5⟩:=cat_at f _ j hj
  show okT _ (gt (catA f m.ts.length) j)=true
  rw[h4]
  exact(hf i h1).ok _ (gt_mem h2)
 ·obtain⟨i,r,h1,h2,h3,h4,h5⟩:=cat_at f _ j hj
  show 0<twP ps' (gt (catA f m.ts.length) j)
  rw[h4]
  exact(hf i h1).pos (hm.pos i h1) _ (gt_mem h2)
 ·simp only at hj hk hp hq
  obtain⟨i,r,h1,h2,h3,h4,h5⟩:=cat_at f _ j hj
  obtain⟨i',r',k1,k2,k3,k4,k5⟩:=cat_at f _ k hk
  rw[h4]at hp
  rw[k4]at hq
  by_cases hi:i=i'
  ·subst hi
   have hr:r≠r':=by rintro rfl;omega
   have hd:=List.pairwise_iff_getElem.1 (hf i h1).dis
   have g:∀r (hr:r<(f i).length),gt (f i) r=(f i)[r]:=fun r hr=>by rw[gt,List.getD_eq_getElem?_getD,List.getElem?_eq_getElem hr];rfl
   rw[g r h2]at hp
   rw[g r' k2]at hq
   rcases Nat.lt_or_gt_of_ne hr with h|h
   ·exact(hd r r' h2 k2 h p).1 hp hq
   ·exact(hd r' r k2 h2 h p).2 hp hq
  ·exact hm.sep i i' h1 k1 hi p ((hf i h1).inn _ (gt_mem h2) p hp) ((hf i' k1).cl _ (gt_mem k2) p hq)
 ·rw[catP_len]at hj
  obtain⟨i,r,h1,h2,h3,h4,h5⟩:=cat_at f _ j hj
  rw[h5];omega
 ·rw[catP_len]at hj
  obtain⟨i,r,h1,h2,h3,h4,h5⟩:=cat_at f _ j hj
  rw[h5,Int.toNat_natCast]
  simp only at hp
  rw[h4]at hp
  exact(hf i h1).inn _ (gt_mem h2) p hp
theorem redA_cat (mm:MapI) (ts:List T3):∀n,redA mm ts n=catA (fun i=>redT mm (gt ts i)) n
 |0=>rfl
 |n+1=>by simp only[redA,catA,redA_cat mm ts n]
theorem parR_cat (mm:MapI) (ts:List T3):∀n,parR n=catP (fun i=>redT mm (gt ts i)) n
 |0=>rfl
 |n+1=>by simp only[parR,catP,parR_cat mm ts n];rfl
theorem bisA_cat (mm:MapI) (ts:List T3):∀n,bisA mm ts n=catA (fun i=>halveF mm 2 (gt ts i)) n
 |0=>rfl
 |n+1=>by simp only[bisA,catA,bisA_cat mm ts n]
theorem bisP_cat (mm:MapI) (ts:List T3):∀n,bisP mm ts n=catP (fun i=>halveF mm 2 (gt ts i)) n
 |0=>rfl
 |n+1=>by simp only[bisP,catP,bisP_cat mm ts n]
theorem red_good {m:Me} (h:Good m):Good (redM m)∧Ref m (redM m) (parR m.ts.length):=by
 have:=cat_good (ps':=midP m.ps (edgesL m.ts) (edgesL m.ts).length) (ss:=(redM m).ss) h (fun i hi=>red_pieces (mids_M (esok_all m.ts)) (h.ok.at hi) fun p hp=>mid_has hi hp) (fun i _=>by simp[redT])
 rw[←redA_cat,←parR_cat]at this
 exact this
theorem bis_good {m:Me} (h:Good m) (mk:List Int):Good (bisM m mk)∧Ref m (bisM m mk) (bisP (midB m.ps.length (cutL m mk) (cutL m mk).length) m.ts m.ts.length):=by
 have:=cat_good (ps':=midP m.ps (cutL m mk) (cutL m mk).length) (ss:=(bisM m mk).ss) h (fun i hi=>bis_pieces (mids_B (esok_cut m mk)) (h.ok.at hi)) (fun i _=>halveF_ne _ _ _)
 rw[←bisA_cat,←bisP_cat]at this
 exact this
end Go.Proofs.YthaeohlijigplaaGreat
