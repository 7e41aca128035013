/- The texts G4, W9, Fz8, W10, G6, G7, W11. -/
import Derived.Test.YthaeohlijigplaaGreatQLTopFound24
import Derived.Test.YthaeohlijigplaaGreatQLTopFound25
import Derived.Test.YthaeohlijigplaaGreatQLTopFound5
import Derived.Test.YthaeohlijigplaaGreatQLTopFound8
import Derived.Test.YthaeohlijigplaaGreatQLTopFound10
import Derived.Test.YthaeohlijigplaaGreatQLTopFound9
namespace Go.Proofs.YthaeohlijigplaaGreat
open Go.Sx
set_option linter.unusedSimpArgs false
set_option linter.unusedVariables false
set_option maxRecDepth 100000
set_option maxHeartbeats 8000000
def szB:Nat→Nat
 |0=>200
 |i+1=>2*szB i+3
structure LvlOK (i:Nat) (m:Me):Prop where
 good:Good m
 pb:∀j,PB (szB i) (gp m.ps j)
 p0:m.ps≠[]
 pl:m.ps.length≤48+60*i
 tl:m.ts.length≤80
 sl:m.ss.length≤2400
theorem LvlOK.fit {i:Nat} {m:Me} (h:LvlOK i m) (hi:i≤3):m.Fit:=⟨by have:=h.pl;omega,by have:=h.tl;omega,by have:=h.sl;omega⟩
theorem szB_le {i:Nat} (h:i≤3):szB i≤1621:=by
 obtain rfl|rfl|rfl|rfl:i=0∨i=1∨i=2∨i=3:=by omega
 all_goals decide
theorem mid_pb {B:Nat} {ps:List Pt} (es:List E4) (h:∀j,PB B (gp ps j)) (j:Int):PB (2*B+3) (gp (midP ps es es.length) j):=by
 by_cases h1:j.toNat<ps.length
 ·have:=midP_old ps es h1 es.length
  rw[gp,this]
  exact(h j).mono (by omega)
 ·by_cases h2:j.toNat<ps.length+es.length
  ·have e:j.toNat=ps.length+(j.toNat - ps.length):=by omega
   rw[gp,e,midP_new ps es es.length (by omega)]
   exact((h _).mid (h _)).mono (by omega)
  ·have h0:=h j
   rw[gp,List.getD_eq_getElem?_getD,List.getElem?_eq_none (by omega)]at h0
   rw[gp,List.getD_eq_getElem?_getD,List.getElem?_eq_none (by rw[midP_len];omega)]
   exact h0.mono (by omega)
theorem halves_ok {i:Nat} {m:Me} {es:List E4} {ts:List T3} (h:LvlOK i m) (hg:Good (halvesM m es ts)) (he:es.length≤60) (ht:ts.length≤80):LvlOK (i+1) (halvesM m es ts) where
 good:=hg
 pb:=mid_pb es h.pb
 p0:=by
  have:=midP_len m.ps es es.length
  have h0:=List.length_pos_iff.2 h.p0
  intro e
  have e':midP m.ps es es.length=[]:=e
  rw[e']at this
  simp at this;omega
 pl:=by
  show(midP m.ps es es.length).length≤_
  rw[midP_len];have:=h.pl;omega
 tl:=ht
 sl:=by
  show(sideM _ _ _).length≤_
  rw[sideM_len]
  have:=rimA_len (mapC ts ts.length) (edgesL ts) (edgesL ts).length
  have:=edgesL_len ts
  unfold rimL;omega
theorem red_ok {i:Nat} {m:Me} (h:LvlOK i m) (hi:i≤2) (h4:4*m.ts.length≤80):LvlOK (i+1) (redM m)∧Ref m (redM m) (parR m.ts.length)∧CallOK Tryz.prog 41 [meA m] [] (.tup [meA (redM m),ivec .i64 (parR m.ts.length),iv 0]) [] []:=by
 have hg:=red_good h.good
 have hl:=edgesL_len m.ts
 have hb:=szB_le (i:=i) (by omega)
 have hp:=h.pl
 refine⟨halves_ok h hg.1 (by omega) (by rw[redL,redA_len];omega),hg.2, ?_⟩
 refine r_Red m (h.fit (by omega)) h.p0 h.good.ne h.good.ok h.pb (by omega) (by omega) (by omega) ((esok_all m.ts).hev h.good.ok) ?_
 have:=hg.1.ok
 rw[show(redM m).ps.length=m.ps.length+(edgesL m.ts).length from midP_len _ _ _]at this
 exact this
def bisPa (m:Me) (mk:List Int):List Int:=bisP (midB m.ps.length (cutL m mk) (cutL m mk).length) m.ts m.ts.length
theorem bis_ok {i:Nat} {m:Me} (mk:List Int) (h:LvlOK i m) (hi:i≤2) (h4:4*m.ts.length≤80) (hkl:mk.length<1000) (hmk:∀i,i<mk.length→0≤mk.getD i 0∧mk.getD i 0<(m.ts.length:Nat)):
  LvlOK (i+1) (bisM m mk)∧Ref m (bisM m mk) (bisPa m mk)∧CallOK Tryz.prog 43 [meA m,ivec .i64 mk] [] (.tup [meA (bisM m mk),ivec .i64 (bisPa m mk),iv 0]) [] []:=by
 have hg:=bis_good h.good mk
 have hl:=edgesL_len m.ts
 have hb:=szB_le (i:=i) (by omega)
 have hp:=h.pl
 have hc:(cutL m mk).length≤(edgesL m.ts).length:=cutA_len _ _ _
 have hbl:=bisA_len (midB m.ps.length (cutL m mk) (cutL m mk).length) m.ts m.ts.length
 refine⟨halves_ok h hg.1 (by omega) (by rw[bisL];omega),hg.2, ?_⟩
 have hok2:=hg.1.ok
 rw[show(bisM m mk).ps.length=m.ps.length+(cutL m mk).length from midP_len _ _ _]at hok2
 by_cases hcut:cutL m mk=[]
 ·exact b_Bisect0 m mk (h.fit (by omega)) h.p0 h.good.ne h.good.ok h.pb (by omega) (by omega) hmk (by omega) (by omega) hcut ((esok_cut m mk).hev h.good.ok) hok2
 ·exact b_Bisect m mk (h.fit (by omega)) h.p0 h.good.ne h.good.ok h.pb (by omega) (by omega) hmk (by omega) (by omega) hcut ((esok_cut m mk).hev h.good.ok) hok2
structure ChOK (c:List Lv):Prop where
 ne:c≠[]
 lv:∀i,i<c.length→LvlOK i (lvG c i).m
 pal:∀i,i<c.length→(lvG c i).pa.length≤80
 ref:∀i,i+1<c.length→Ref (lvG c i).m (lvG c (i+1)).m (lvG c (i+1)).pa
theorem lvG_app1 (c:List Lv) (l:Lv) {i:Nat} (h:i<c.length):lvG (c++[l]) i=lvG c i:=by
 unfold lvG;rw[List.getD_eq_getElem?_getD,List.getElem?_append_left h,←List.getD_eq_getElem?_getD]
theorem lvG_app2 (c:List Lv) (l:Lv):lvG (c++[l]) c.length=l:=by
 unfold lvG;rw[List.getD_eq_getElem?_getD,List.getElem?_append_right (Nat.le_refl _),Nat.sub_self];rfl
theorem ChOK.one {m:Me} (h:LvlOK 0 m):ChOK [⟨m,[]⟩] where
 ne:=by simp
 lv i hi:=by
  have:i=0:=by simpa using hi
  subst this;exact h
 pal i hi:=by
  have:i=0:=by simpa using hi
  subst this;simp[lvG]
 ref i hi:=by simp at hi
theorem ChOK.snoc {c:List Lv} {m:Me} {pa:List Int} (h:ChOK c) (hm:LvlOK c.length m) (hr:Ref (lvG c (c.length - 1)).m m pa):ChOK (c++[⟨m,pa⟩]) where
 ne:=by simp
 lv i hi:=by
  rw[List.length_append,List.length_singleton]at hi
  by_cases hj:i<c.length
  ·rw[lvG_app1 c _ hj];exact h.lv i hj
  ·obtain rfl:i=c.length:=by omega
   rw[lvG_app2];exact hm
 pal i hi:=by
  rw[List.length_append,List.length_singleton]at hi
  by_cases hj:i<c.length
  ·rw[lvG_app1 c _ hj];exact h.pal i hj
  ·obtain rfl:i=c.length:=by omega
   rw[lvG_app2]
   show pa.length≤80
   rw[hr.len];exact hm.tl
 ref i hi:=by
  rw[List.length_append,List.length_singleton]at hi
  by_cases hj:i+1<c.length
  ·rw[lvG_app1 c _ hj,lvG_app1 c _ (by omega)];exact h.ref i hj
  ·have e:i+1=c.length:=by omega
   rw[e,lvG_app2,lvG_app1 c _ (by omega)]
   have:i=c.length - 1:=by omega
   rw[this];exact hr
theorem ChOK.pa {c:List Lv} (h:ChOK c):PaOK c:=fun i hi=>⟨(h.ref i hi).len,(h.ref i hi).val⟩
theorem up_in {c:List Lv} (h:ChOK c) {L t:Nat} (hL:L<c.length) (ht:t<(lvG c L).m.ts.length) {p:Pt} (hp:inP (lvG c L).m.ps (gt (lvG c L).m.ts t) p):∀n,n≤L→inP (lvG c (L - n)).m.ps (gt (lvG c (L - n)).m.ts (upF c L t n)) p
 |0,_=>hp
 |n+1,hn=>by
  have ih:=up_in h hL ht hp n (by omega)
  have hu:=upF_lt h.pa hL ht n (by omega)
  have hr:=h.ref (L - (n+1)) (by omega)
  rw[show L - (n+1)+1=L - n by omega]at hr
  have:=hr.inn (upF c L t n) (by rw[hr.len];exact hu) p ih
  simpa only[upF]using this
theorem find_in {i:Nat} {m:Me} (h:LvlOK i m) (hi:i≤3) {B:Nat} {p:Pt} (hpb:PB B p) (hB:B≤1000000) {k:Nat} (hk:k<m.ts.length) (hp:inP m.ps (gt m.ts k) p):
  CallOK Tryz.prog 11 [meA m,ptA p] [] (.tup [iv (k:Nat),iv 1]) [] []:=by
 have hb:=szB_le hi
 have hw:whT m p k=1:=wh_in (h.good.pos k hk) hp
 have:=l_Find (B:=B+1621) m p ⟨h.fit hi,h.good.ok,fun j=>(h.pb j).mono (by omega),fun j hj=>by have:=h.good.pos j hj;unfold twP at this;unfold cor;simp only;grind⟩ (hpb.mono (by omega)) (by omega) k hk
  (fun j hj=>wh_out (h.good.pos j (by omega)) (h.good.sep k j hk (by omega) (by omega) p hp)) (by rw[hw];decide)
 rw[hw]at this
 exact this
def mkF (n:Nat) (s:List Int) (k:Nat):List Int:=(s.take k).map fun v=>v.tmod (n:Nat)
abbrev topM (c:List Lv):Me:=(lvG c (c.length - 1)).m
def stF (c:List Lv) (s:Bool×List Int):List Lv:=
 if s.1=true then c++[⟨redM (topM c),parR (topM c).ts.length⟩]else c++[⟨bisM (topM c) (mkF (topM c).ts.length s.2 8),bisPa (topM c) (mkF (topM c).ts.length s.2 8)⟩]
def chF:List (Bool×List Int)→List Lv→List Lv
 |[],c=>c
 |s::r,c=>if 4*(topM c).ts.length>80 then c else chF r (stF c s)
theorem mkF_ok {n:Nat} {s:List Int} (k:Nat) (hn:0<n) (hs:∀v∈s,0≤v):∀i,i<(mkF n s k).length→0≤(mkF n s k).getD i 0∧(mkF n s k).getD i 0<(n:Nat):=by
 intro i hi
 have hi2:i<(s.take k).length:=by simpa [mkF]using hi
 have e:(mkF n s k).getD i 0=((s.take k)[i]).tmod (n:Nat):=by
  rw[List.getD_eq_getElem?_getD,mkF,List.getElem?_map,List.getElem?_eq_getElem hi2];rfl
 rw[e]
 have h0:0≤(s.take k)[i]:=hs _ (List.mem_of_mem_take (List.getElem_mem hi2))
 exact⟨Int.tmod_nonneg _ h0,Int.tmod_lt_of_pos _ (by omega)⟩
theorem stF_len (c:List Lv) (s:Bool×List Int):(stF c s).length=c.length+1:=by
 unfold stF;split<;>simp
theorem stF_ok {c:List Lv} {s:Bool×List Int} (h:ChOK c) (hl:c.length≤3) (h4:4*(topM c).ts.length≤80) (hs:∀v∈s.2,0≤v):
  ChOK (stF c s)∧(s.1=true→CallOK Tryz.prog 41 [meA (topM c)] [] (.tup [meA (redM (topM c)),ivec .i64 (parR (topM c).ts.length),iv 0]) [] [])∧
  (CallOK Tryz.prog 43 [meA (topM c),ivec .i64 (mkF (topM c).ts.length s.2 8)] [] (.tup [meA (bisM (topM c) (mkF (topM c).ts.length s.2 8)),ivec .i64 (bisPa (topM c) (mkF (topM c).ts.length s.2 8)),iv 0]) [] []):=by
 have hp:0<c.length:=List.length_pos_iff.2 h.ne
 have ht:=h.lv (c.length - 1) (by omega)
 have hn:0<(topM c).ts.length:=List.length_pos_iff.2 ht.good.ne
 obtain⟨r1,r2,r3⟩:=red_ok ht (by omega) h4
 have hmk:=mkF_ok (n:=(topM c).ts.length) (s:=s.2) 8 hn hs
 have hml:(mkF (topM c).ts.length s.2 8).length<1000:=by
  rw[mkF,List.length_map,List.length_take];omega
 obtain⟨b1,b2,b3⟩:=bis_ok (mkF (topM c).ts.length s.2 8) ht (by omega) h4 hml hmk
 rw[show c.length - 1+1=c.length by omega]at r1 b1
 refine⟨?_,fun _=>r3,b3⟩
 unfold stF
 split
 ·exact h.snoc r1 r2
 ·exact h.snoc b1 b2
theorem chF_ok:∀(l:List (Bool×List Int)) (c:List Lv),ChOK c→c.length+l.length≤4→(∀s∈l,∀v∈s.2,0≤v)→ChOK (chF l c)∧(chF l c).length≤4
 |[],c,h,hl,_=>⟨h,by show c.length≤4;simpa using hl⟩
 |s::r,c,h,hl,hs=>by
  simp only[chF]
  rw[List.length_cons]at hl
  split
  ·exact⟨h,by omega⟩
  ·exact chF_ok r (stF c s) (stF_ok h (by omega) (by omega) (hs s (List.mem_cons_self ..))).1 (by rw[stF_len];omega) fun x hx=>hs x (List.mem_cons_of_mem _ hx)
end Go.Proofs.YthaeohlijigplaaGreat
namespace Go.Proofs.YthaeohlijigplaaGreat
open Go.Sx
set_option linter.unusedSimpArgs false
set_option linter.unusedVariables false
set_option maxRecDepth 100000
set_option maxHeartbeats 64000000
def SdOK (n:Nat) (ss:List T3):Prop:=∀i,i<ss.length→(0≤(gt ss i).1∧(gt ss i).1<(n:Nat))∧(0≤(gt ss i).2.1∧(gt ss i).2.1<(n:Nat))∧0≤(gt ss i).2.2∧(gt ss i).2.2≤255
theorem m_ptT (a:Int) (n:Nat) (h:0≤a∧a<(n:Nat)):CallOK Tryz.prog 27 [iv a,iv (n:Nat)] [] (.val (.bool true)) [] []:=by
 have k:=m_point a (n:Nat)
 rwa [decide_eq_true h.1,decide_eq_true h.2]at k
theorem m_args (m:Me) (h:LvlOK 0 m) (hs:SdOK m.ps.length m.ss):CallOK Tryz.prog 62 [meA m] [] (.val (.bool true)) [] []:=by
 have hok:=h.good.ok
 have hpos:=h.good.pos
 have hpb:=h.pb
 have hne:=h.good.ne
 have htl:=h.tl
 have hsl:=h.sl
 have hpl:=h.pl
 have hlt0:0<m.ts.length:=List.length_pos_iff.2 hne
 clear h
 obtain⟨ps,ts,ss⟩:=m
 simp only at hok hpos hpb htl hsl hs hpl hlt0
 have s0:decide ((ts.length:Int)>0)=true:=decide_eq_true (by omega)
 refine callV (Z:=[1,100005,100011]) tabOK mixedOK Tryz.func62 rfl (by kernel_rfl) rfl rfl (by kernel_rfl) rfl ?_
 intro W0 w0 ρ0 hE
 conv=>whnf
 (repeat(first|(refine g_o (op_lenM rfl rfl rfl (ev_ok rfl) (tgt rfl) rfl) ?_;conv=>whnf)|(refine g_o (op_loadA rfl (ev_ok rfl) (tgt rfl) rfl (Nat.succ_ne_zero _) rfl) ?_;conv=>whnf)|(refine g_o (op_fieldA rfl (ev_ok rfl) (tgt rfl) rfl rfl (Nat.succ_ne_zero _) rfl) ?_;conv=>whnf)))
 refine SW_loopN hE (fun k=>k) [1,3,12,13,14] [] (fun M fr hp=>∃i,M=ts.length - i∧i≤ts.length∧fr=[(1,ptrA [mvec 10 ptA ps,mvec 3 triA ts,mvec 3 triA ss]),(3,iv (ps.length:Nat)),(12,mvec 3 triA ts),(13,iv (ts.length:Nat)),(14,iv (i:Nat))]∧hp=[]) ts.length ?_ ?_ ?_
 ·kernel_rfl
 ·exact⟨0,rfl,by omega,rfl,rfl⟩
 rintro M _ _ ⟨i,rfl,hi,rfl,rfl⟩
 by_cases hlt:i<ts.length
 ·have s1:=dlt hlt
  have wk:=winc (i:=i) (by omega)
  obtain⟨h1,h2,h3,_⟩:=okT_iff (hok.at hlt)
  have hp:=sign_pos (hpos i hlt)
  have kt:=p_Turn (hpb (gt ts i).1) (hpb (gt ts i).2.1) (hpb (gt ts i).2.2) (by decide)
  rw[show tw (gp ps (gt ts i).1) (gp ps (gt ts i).2.1) (gp ps (gt ts i).2.2)=twP ps (gt ts i)from rfl,hp]at kt
  have hg:ts.getD i (0,0,0)=gt ts i:=rfl
  clear hok hpos hp hs hne hpb
  generalize gt ts i=t at*
  obtain⟨a,b,c⟩:=t
  simp only at h1 h2 h3 kt
  have k1:=m_ptT a ps.length h1
  have k2:=m_ptT b ps.length h2
  have k3:=m_ptT c ps.length h3
  have g1:ps.getD a.toNat (0,0)=gp ps a:=rfl
  have g2:ps.getD b.toNat (0,0)=gp ps b:=rfl
  have g3:ps.getD c.toNat (0,0)=gp ps c:=rfl
  conv=>whnf
  (repeat((first|refine tst_tt s1 ?_|refine g_o (op_loadA rfl (ev_ok rfl) (tgt rfl) rfl (Nat.succ_ne_zero _) rfl) ?_|refine g_o (op_indexN (α:=T3) (d:=(0,0,0)) rfl (ev_ok rfl) (ev_ok rfl) (tgt rfl) rfl (tgt rfl) rfl (by omega)) ?_|rw[s1]|rw[hg]);conv=>whnf))
  refine SWx_thn (fr1:= ?fr5) (hp1:= ?hp5) (fun K hK=>SWx_go hE ?ra5) ?rb5
  case ra5=>
   conv=>whnf
   (repeat((first|refine step_w1 rfl rfl ?_|refine step_i (by kernel_rfl) ?_|refine step_oA (by first|omega|decide|(simp only[tl1,dlen,List.length_replicate,List.length_set,List.length_map,List.length_zipWith,List.length_take,List.length_append,List.length_cons,List.length_nil];omega)) ?_|refine g_c (by assumption) ?_|refine g_o (op_pickF rfl (ev_ok rfl) (ev_ok rfl)) ?_|rw[bne_self_eq_false]|refine g_o (op_loadA rfl (ev_ok rfl) (tgt rfl) rfl (Nat.succ_ne_zero _) rfl) ?_|refine g_o (op_fieldA rfl (ev_ok rfl) (tgt rfl) rfl rfl (Nat.succ_ne_zero _) rfl) ?_|refine g_o (op_indexM (α:=Pt) (d:=(0,0)) rfl (ev_ok rfl) (ev_ok rfl) (tgt rfl) rfl (tgt rfl) rfl (by omega)) ?_|rw[g1]|rw[g2]|rw[g3]|rw[Nat.zero_add]);conv=>whnf))
   exact hK
  conv=>whnf
  (repeat(first|(refine step_w2 rfl rfl ?_;conv=>whnf)|(rw[wk];conv=>whnf)))
  exact⟨ts.length - (i+1),fun k=>k,[1,3,12,13,14],[],by omega,by kernel_rfl,i+1,rfl,by omega,rfl,rfl⟩
 ·have s1:=dge hlt
  clear hok hpos hpb hne
  conv=>whnf
  (repeat((first|refine tst_ff s1 ?_|refine g_o (op_lenM rfl rfl rfl (ev_ok rfl) (tgt rfl) rfl) ?_|refine g_o (op_loadA rfl (ev_ok rfl) (tgt rfl) rfl (Nat.succ_ne_zero _) rfl) ?_|refine g_o (op_fieldA rfl (ev_ok rfl) (tgt rfl) rfl rfl (Nat.succ_ne_zero _) rfl) ?_|rw[s1]);conv=>whnf))
  refine SW_loopN hE (fun k=>k) [1,3,61,62,63] [] (fun M fr hp=>∃i,M=ss.length - i∧i≤ss.length∧fr=[(1,ptrA [mvec 10 ptA ps,mvec 3 triA ts,mvec 3 triA ss]),(3,iv (ps.length:Nat)),(61,mvec 3 triA ss),(62,iv (ss.length:Nat)),(63,iv (i:Nat))]∧hp=[]) ss.length ?_ ?_ ?_
  ·kernel_rfl
  ·exact⟨0,rfl,by omega,rfl,rfl⟩
  rintro M _ _ ⟨i,rfl,hi,rfl,rfl⟩
  by_cases hlt:i<ss.length
  ·have s2:=dlt hlt
   have wk:=winc (i:=i) (by omega)
   obtain⟨h1,h2,h3,h4⟩:=hs i hlt
   have hg:ss.getD i (0,0,0)=gt ss i:=rfl
   clear hs
   generalize gt ss i=t at*
   obtain⟨a,b,c⟩:=t
   simp only at h1 h2 h3 h4
   have k1:=m_ptT a ps.length h1
   have k2:=m_ptT b ps.length h2
   have t1:decide (c<0)=false:=decide_eq_false (by omega)
   have t2:decide (c>255)=false:=decide_eq_false (by omega)
   conv=>whnf
   (repeat((first|refine tst_tt s2 ?_|refine g_o (op_loadA rfl (ev_ok rfl) (tgt rfl) rfl (Nat.succ_ne_zero _) rfl) ?_|refine g_o (op_indexN (α:=T3) (d:=(0,0,0)) rfl (ev_ok rfl) (ev_ok rfl) (tgt rfl) rfl (tgt rfl) rfl (by omega)) ?_|rw[s2]|rw[hg]);conv=>whnf))
   refine SWx_thn (fr1:= ?fr11) (hp1:= ?hp11) (fun K hK=>SWx_go hE ?ra11) ?rb11
   case ra11=>
    conv=>whnf
    (repeat((first|refine step_w1 rfl rfl ?_|refine g_c (by assumption) ?_|refine g_o (op_pickF rfl (ev_ok rfl) (ev_ok rfl)) ?_|rw[t1]|rw[t2]|rw[Nat.zero_add]);conv=>whnf))
    exact hK
   conv=>whnf
   (repeat(first|(refine step_w2 rfl rfl ?_;conv=>whnf)|(rw[wk];conv=>whnf)))
   exact⟨ss.length - (i+1),fun k=>k,[1,3,61,62,63],[],by omega,by kernel_rfl,i+1,rfl,by omega,rfl,rfl⟩
  ·have s2:=dge hlt
   conv=>whnf
   (repeat((first|refine tst_ff s2 ?_|refine g_o (op_lenM rfl rfl rfl (ev_ok rfl) (tgt rfl) rfl) ?_|refine g_o (op_loadA rfl (ev_ok rfl) (tgt rfl) rfl (Nat.succ_ne_zero _) rfl) ?_|refine g_o (op_fieldA rfl (ev_ok rfl) (tgt rfl) rfl rfl (Nat.succ_ne_zero _) rfl) ?_|rw[s0]);conv=>whnf))
   (first|exact Recast.refl _|exact Frz.recast (Recast.refl _) rfl|(refine Frz.one rfl rfl ?_;skip)|(refine Frz.tup ?_;skip))
theorem m_corners (m:Me) (i:Nat) (hi:i<m.ts.length) (h:okT (m.ps.length:Int) (gt m.ts i)=true):
  CallOK Tryz.prog 105 [meA m,iv (i:Nat)] [] (.agg [ptA (cor m i).1,ptA (cor m i).2.1,ptA (cor m i).2.2]) [] []:=by
 obtain⟨ps,ts,ss⟩:=m
 obtain⟨h1,h2,h3,_⟩:=okT_iff h
 unfold cor
 simp only at*
 have hg:ts.getD i (0,0,0)=gt ts i:=rfl
 generalize gt ts i=t at*
 obtain⟨a,b,c⟩:=t
 simp only at*
 have g1:ps.getD a.toNat (0,0)=gp ps a:=rfl
 have g2:ps.getD b.toNat (0,0)=gp ps b:=rfl
 have g3:ps.getD c.toNat (0,0)=gp ps c:=rfl
 refine callV (Z:=[2]) tabOK mixedOK Tryz.func105 rfl (by kernel_rfl) rfl rfl (by kernel_rfl) rfl ?_
 intro W0 w0 ρ0 hE
 conv=>whnf
 (repeat((first|refine step_i (by kernel_rfl) ?_|refine step_oA (by first|omega|decide|(simp only[tl1,dlen,List.length_replicate,List.length_set,List.length_map,List.length_zipWith,List.length_take,List.length_append,List.length_cons,List.length_nil];omega)) ?_|refine g_o (op_loadA rfl (ev_ok rfl) (tgt rfl) rfl (Nat.succ_ne_zero _) rfl) ?_|refine g_o (op_fieldA rfl (ev_ok rfl) (tgt rfl) rfl rfl (Nat.succ_ne_zero _) rfl) ?_|refine g_o (op_indexN (α:=T3) (d:=(0,0,0)) rfl (ev_ok rfl) (ev_ok rfl) (tgt rfl) rfl (tgt rfl) rfl (by omega)) ?_|refine g_o (op_indexM (α:=Pt) (d:=(0,0)) rfl (ev_ok rfl) (ev_ok rfl) (tgt rfl) rfl (tgt rfl) rfl (by omega)) ?_|rw[hg]|rw[g1]|rw[g2]|rw[g3]);conv=>whnf))
 (first|exact Recast.refl _|exact Frz.recast (Recast.refl _) rfl|(refine Frz.one rfl rfl ?_;skip)|(refine Frz.tup ?_;skip))
end Go.Proofs.YthaeohlijigplaaGreat
namespace Go.Proofs.YthaeohlijigplaaGreat
open Go.Sx Go.Sort Go.Proofs Go.Shelf Go.RowKit Go.Lib
set_option maxRecDepth 100000
set_option maxHeartbeats 8000000
def lessP (a b:Pt):Bool:=if ((a.1 - b.1).num.sign != 0)=true then decide ((a.1 - b.1).num.sign<0)else decide ((a.2 - b.2).num.sign<0)
theorem p_Less {a b:Pt} {B:Nat} (ha:PB B a) (hb:PB B b) (h:2*B≤1073741824):CallOK Tryz.prog 103 [ptA a,ptA b] [] (.val (.bool (lessP a b))) [] []:=by
 have k1:=f_Cmp a.1 b.1 (by have:=ha.1;have:=hb.1;omega)
 have k2:=f_Cmp a.2 b.2 (by have:=ha.2;have:=hb.2;omega)
 by_cases t:((a.1 - b.1).num.sign != 0)=true
 ·have e:lessP a b=decide ((a.1 - b.1).num.sign<0):=if_pos t
  rw[e]
  refine callV (Z:=[2,3]) tabOK mixedOK Tryz.func103 rfl (by kernel_rfl) rfl rfl (by kernel_rfl) rfl ?_
  intro W0 w0 ρ0 hE
  conv=>whnf
  (repeat((first|refine step_w1 rfl rfl ?_|refine g_c (by assumption) ?_|refine g_o (op_loadA rfl (ev_ok rfl) (tgt rfl) rfl (Nat.succ_ne_zero _) rfl) ?_|refine g_o (op_fieldA rfl (ev_ok rfl) (tgt rfl) rfl rfl (Nat.succ_ne_zero _) rfl) ?_|rw[t]);conv=>whnf));(first|exact Recast.refl _|exact Frz.recast (Recast.refl _) rfl|(refine Frz.one rfl rfl ?_;skip)|(refine Frz.tup ?_;skip))
 ·have t':((a.1 - b.1).num.sign != 0)=false:=by simpa using t
  have e:lessP a b=decide ((a.2 - b.2).num.sign<0):=if_neg t
  rw[e]
  refine callV (Z:=[2,3]) tabOK mixedOK Tryz.func103 rfl (by kernel_rfl) rfl rfl (by kernel_rfl) rfl ?_
  intro W0 w0 ρ0 hE
  conv=>whnf
  (repeat((first|refine step_w2 rfl rfl ?_|refine g_c (by assumption) ?_|refine g_o (op_loadA rfl (ev_ok rfl) (tgt rfl) rfl (Nat.succ_ne_zero _) rfl) ?_|refine g_o (op_fieldA rfl (ev_ok rfl) (tgt rfl) rfl rfl (Nat.succ_ne_zero _) rfl) ?_|rw[t']);conv=>whnf));(first|exact Recast.refl _|exact Frz.recast (Recast.refl _) rfl|(refine Frz.one rfl rfl ?_;skip)|(refine Frz.tup ?_;skip))
def cmpP (a b:Pt):Int:=if lessP a b=true then -1 else if lessP b a=true then 1 else 0
theorem m_cmpP {a b:Pt} {B:Nat} (ha:PB B a) (hb:PB B b) (h:2*B≤1073741824):CallOK Tryz.prog 102 [ptA a,ptA b] [] (iv (cmpP a b)) [] []:=by
 have k1:=p_Less ha hb h
 have k2:=p_Less hb ha h
 unfold cmpP
 cases h1:lessP a b with
 |true=>
  rw[h1]at k1
  rw[if_pos rfl]
  refine callV (Z:=[2,3]) tabOK mixedOK Tryz.func102 rfl (by kernel_rfl) rfl rfl (by kernel_rfl) rfl ?_
  intro W0 w0 ρ0 hE
  conv=>whnf
  (repeat(first|(refine step_w1 rfl rfl ?_;conv=>whnf)|(refine g_c (by assumption) ?_;conv=>whnf)|(refine g_o (op_loadA rfl (ev_ok rfl) (tgt rfl) rfl (Nat.succ_ne_zero _) rfl) ?_;conv=>whnf)));(first|exact Recast.refl _|exact Frz.recast (Recast.refl _) rfl|(refine Frz.one rfl rfl ?_;skip)|(refine Frz.tup ?_;skip))
 |false=>
  rw[h1]at k1
  rw[if_neg (by simp)]
  cases h2:lessP b a with
  |true=>
   rw[h2]at k2
   rw[if_pos rfl]
   refine callV (Z:=[2,3]) tabOK mixedOK Tryz.func102 rfl (by kernel_rfl) rfl rfl (by kernel_rfl) rfl ?_
   intro W0 w0 ρ0 hE
   conv=>whnf
   (repeat((first|refine step_w1 rfl rfl ?_|refine step_w2 rfl rfl ?_|refine g_c (by assumption) ?_|refine g_o (op_loadA rfl (ev_ok rfl) (tgt rfl) rfl (Nat.succ_ne_zero _) rfl) ?_);conv=>whnf));(first|exact Recast.refl _|exact Frz.recast (Recast.refl _) rfl|(refine Frz.one rfl rfl ?_;skip)|(refine Frz.tup ?_;skip))
  |false=>
   rw[h2]at k2
   rw[if_neg (by simp)]
   refine callV (Z:=[2,3]) tabOK mixedOK Tryz.func102 rfl (by kernel_rfl) rfl rfl (by kernel_rfl) rfl ?_
   intro W0 w0 ρ0 hE
   conv=>whnf
   (repeat(first|(refine step_w2 rfl rfl ?_;conv=>whnf)|(refine g_c (by assumption) ?_;conv=>whnf)|(refine g_o (op_loadA rfl (ev_ok rfl) (tgt rfl) rfl (Nat.succ_ne_zero _) rfl) ?_;conv=>whnf)));(first|exact Recast.refl _|exact Frz.recast (Recast.refl _) rfl|(refine Frz.one rfl rfl ?_;skip)|(refine Frz.tup ?_;skip))
theorem sgn_lt (a b:Rat):(a - b).num.sign<0↔a<b:=by
 rw[Int.sign_neg_iff,←Int.not_le,Rat.num_nonneg,Rat.not_le];grind
theorem sgn_eq (a b:Rat):(a - b).num.sign=0↔a=b:=by
 rw[Int.sign_eq_zero_iff_zero,Rat.num_eq_zero];grind
theorem lessP_iff (a b:Pt):lessP a b=true↔(a.1<b.1∨a.1=b.1∧a.2<b.2):=by
 unfold lessP
 by_cases h:(a.1 - b.1).num.sign=0
 ·have e:=(sgn_eq _ _).1 h
  rw[if_neg (by simpa using h),decide_eq_true_eq,sgn_lt]
  grind
 ·have e:a.1≠b.1:=fun e=>h ((sgn_eq _ _).2 e)
  rw[if_pos (by simpa using h),decide_eq_true_eq,sgn_lt]
  grind
theorem cmpP_lt (a b:Pt):cmpP a b<0↔(a.1<b.1∨a.1=b.1∧a.2<b.2):=by
 rw[←lessP_iff]
 unfold cmpP
 by_cases h:lessP a b=true
 ·rw[if_pos h];simp[h]
 ·rw[if_neg h]
  by_cases h2:lessP b a=true
  ·rw[if_pos h2];simp[h]
  ·rw[if_neg h2];simp[h]
theorem swoP:SWO (ltOf cmpP) where
 irrefl x:=by simp only[ltOf,decide_eq_false_iff_not,cmpP_lt];grind
 trans x y z h1 h2:=by simp only[ltOf,decide_eq_true_eq,cmpP_lt]at*;grind
 ntrans x y z h1 h2:=by simp only[ltOf,decide_eq_false_iff_not,cmpP_lt]at*;grind
theorem m_sortP {B:Nat} (K:Nat) {l l':List Pt} (h0:l≠[]) (hlen:l.length<1099511627776) (hb:∀x∈l,PB B x) (hB:2*B≤1073741824) (hp:l'.Perm l) (hso:l'.Pairwise fun x y=>cmpP x y<0):
  CallOK Tryz.prog 101 [.slc K 10 0 l.length,.clo 102 [] []] [(K,⟨54,true,.seq 10 (l.map ptA)⟩)] (.tup []) [] [(K,⟨54,true,.seq 10 (l'.map ptA)⟩)]:=
 call_sort (rn:=Tryz.sortPoint_ren) Tryz.sortPoint K 10 (by decide) Tryz.isAgg54 Tryz.sizeOf54 ptA (fun _=>rfl) (fun _=>rfl) (fun _=>rfl) cmpP swoP 102
  (enters_of Tryz.func102 (by kernel_rfl) rfl) ⟨_,Tryz.func102,by kernel_rfl,by kernel_rfl⟩ ⟨_,Tryz.func101,by kernel_rfl,by kernel_rfl⟩ h0 hlen (fun x hx y hy=>m_cmpP (hb x hx) (hb y hy) hB) hp hso
end Go.Proofs.YthaeohlijigplaaGreat
namespace Go.Sx
set_option linter.unusedSimpArgs false
set_option linter.unusedVariables false
set_option maxRecDepth 100000
theorem SWx_freezeP {E:Env} (t k:Nat) {c:Code} {K:Post'} {fr:List (Nat×SV)} {hp:List (Nat×Blk)} {ty:TypeId} {cs:List SV} (hW:∀b,¬E.W0 b) (ht:lk fr t=some (.ptr k 0 0 0)) (hk:find hp k=some ⟨ty,true,.one cs⟩)
  (hkl:keylessL cs=true) (hs:SWx E c K ((t,ptrA cs)::fr) (setB hp k ⟨ty,true,.dead⟩)):SWx E c K fr hp:=by
 refine⟨fun a W hR=>hs.run a W ?_⟩
 have hl:(Data.one cs).live=true:=rfl
 obtain⟨ρ,hext,hfx,hR⟩:=hR
 have hkb:(fn fr hp (.k k)).blk=some ⟨ty,true,.one cs⟩:=by simp only[fn,LV.blk];exact hk
 have hv:=hR.fr t _ (by simp only[fn,LV.sv];exact ht)
 obtain⟨x,hx,hxv⟩:=(Has_iff (c:=.ptr k 0 0 0) rfl).1 hv
 have hlayk:∀j b,(fn ((t,ptrA cs)::fr) (setB hp k ⟨ty,true,.dead⟩) (.k j)).blk=some b→(j=k∧b=⟨ty,true,.dead⟩)∨(j≠k∧(fn fr hp (.k j)).blk=some b):=by
  intro j b hb
  simp only[fn,LV.blk,find_setB]at hb ⊢
  by_cases hj:j=k
  ·rw[if_pos hj]at hb;exact .inl ⟨hj,(Option.some.inj hb).symm⟩
  ·rw[if_neg hj]at hb;exact .inr ⟨hj,hb⟩
 have fin:∀ρ':Rho,ρ'.key=ρ.key→(∀b o,ρ.imm b=some o→ρ'.imm b=some o)→(∀b o,ρ'.imm b=some o→ρ.imm b=some o∨E.w0.heap.size≤b)→(∀b o,ρ'.imm b=some o→W.heap[b]? =some o)→
   (∀j b x,j≠k→(fn fr hp (.k j)).blk=some b→b.wr=true→b.data.live=true→ρ.key j=some x→ρ'.imm x.1=none)→(∀D,W.heap[D]? =some (.deferred (some []))→ρ.imm D=none→ρ'.imm D=none)→Has ρ' (ptrA cs) (a.tmps.getD t undef)→
   RR E (fn ((t,ptrA cs)::fr) (setB hp k ⟨ty,true,.dead⟩)) a W:=by
  intro ρ' hkey himm hnew hheap hnone hmark hhas
  have hle:ρ.Le ρ':=⟨fun j y hy=>by rw[hkey];exact hy,himm⟩
  refine⟨ρ',⟨hext.le.trans hle,fun b o hb=>(hnew b o hb).elim (fun h=>hext.imm b o h) .inr,fun j hj=>by rw[hkey];exact hext.fix j hj⟩,fun j hj=> ?_,{defers:= ?_,size:=hR.size,fr:= ?_,pres:=hR.pres,hp:= ?_}⟩
  ·have:=hfx j hj
   simp only[fn,LV.blk,find_setB]at this ⊢
   split
   ·simp
   ·exact this
  ·obtain⟨Ds,d1,d2,d3⟩:=hR.defers
   refine⟨Ds,d1,d2,fun D hD=> ?_⟩
   obtain⟨e1,e2,e3⟩:=d3 D hD
   refine⟨e1,e2, ?_⟩
   exact hmark D e2 e3
  ·intro u sv hu
   simp only[fn,LV.sv,lk]at hu
   cases hb:Nat.beq t u with
   |true=>
    rw[hb]at hu
    simp only[Option.some.injEq]at hu
    subst hu
    rw[←Nat.eq_of_beq_eq_true hb]
    exact hhas
   |false=>rw[hb]at hu;exact Has.mono hle _ _ (hR.fr u sv (by simp only[fn,LV.sv];exact hu))
  ·constructor
   ·intro j b hb
    rcases hlayk j b hb with⟨rfl,rfl⟩|⟨hj,hb⟩
    ·exact .inl rfl
    ·rcases hR.hp.blk j b hb with g0|⟨b',t',vs,ex,g1,g2,g3,g4⟩|⟨g1,g2⟩
     ·exact .inl g0
     ·exact .inr (.inl ⟨b',t',vs,ex,by rw[hkey];exact g1,(by rw[Data.obj_le hle g3];exact g2),g3.mono hle,g4⟩)
     ·exact .inr (.inr ⟨by rw[hkey];exact g1,g2⟩)
   ·intro j j' y y' b b' hy hy' hne hyy hb hb' hl1 hl2
    rw[hkey]at hy hy'
    rcases hlayk j b hb with⟨_,rfl⟩|⟨_,hb⟩
    ·cases hl1
    rcases hlayk j' b' hb' with⟨_,rfl⟩|⟨_,hb'⟩
    ·cases hl2
    exact hR.hp.sep j j' y y' b b' hy hy' hne hyy hb hb' hl1 hl2
   ·intro j b y hb hwr hl1 hy
    rw[hkey]at hy
    rcases hlayk j b hb with⟨_,rfl⟩|⟨_,hb⟩
    ·cases hl1
    exact hR.hp.own j b y hb hwr hl1 hy
   ·intro j y hy
    rw[hkey]at hy
    obtain⟨b,hb⟩:=hR.hp.dom j y hy
    simp only[fn,LV.blk,find_setB]at hb ⊢
    split
    ·exact⟨_,rfl⟩
    ·exact⟨b,hb⟩
   ·exact hheap
   ·intro j b y hb hwr hl1 hy
    rw[hkey]at hy
    rcases hlayk j b hb with⟨_,rfl⟩|⟨hj,hb⟩
    ·cases hl1
    exact hnone j b y hj hb hwr hl1 hy
 simp only[HasC]at hx
 obtain⟨b,t',h1,rfl⟩:=hx
 rcases hR.hp.blk k _ hkb with g0|⟨b',t'',vs,ex,g1,g2,g3,g4,g5⟩|⟨g1,_⟩
 ·cases g0
 ·rw[h1]at g1
  cases g1
  rw[Data.obj_cells rfl]at g2
  have h2:W.heap[b]? =some (.cells (vs++ex).toArray ty (0,0)):=g2
  simp only[DataC]at g3
  obtain⟨z,z1,rfl⟩:=g3
  have hB:E.w0.heap.size≤b:=(hR.hp.own k _ _ hkb rfl hl h1).resolve_right (hW _)
  obtain⟨u,hup⟩:=(Up.refl ρ W E.w0.heap.size).add hR.hp.imm hB h2
  refine fin ⟨ρ.key,_,u.glob⟩ rfl u.le (fun b o hb=>(u.new b o hb).imp id (fun h=>h.1)) (fun c p hc=> ?_) (fun j blk y hj hb hwr hl1 hy=> ?_) (fun D hD1 hD2=> ?_) ?_
  ·rcases u.new c p hc with h|h
   ·exact hR.hp.imm c p h
   ·exact h.2
  ·show(if y.1=b then some _ else ρ.imm y.1)=none
   rw[if_neg]
   ·exact hR.hp.immw j blk y hb hwr hl1 hy
   ·intro he2
    have:=hR.hp.sep k j (b,t') y _ _ h1 hy (fun h=>hj h.symm) he2.symm hkb hb hl hl1
    cases this
  ·show(if D=b then some _ else ρ.imm D)=none
   rw[if_neg,hD2]
   rintro rfl
   rw[hD1]at h2;cases h2
  ·rw[hxv]
   have hz:HasZ (bareR (fun x=>if x=b then some (.cells (z.flatten++ex).toArray ty (0,0))else ρ.imm x) u.glob) cs z:=keylessL_has (ρ:=ρ) u.le cs z hkl z1
   refine ptrA_has ⟨b,z,[],ex,ty,(0,0),if_pos rfl,hz, ?_⟩
   simp[mkV,SV.isOne]
 ·rw[h1]at g1;cases g1
section
variable {P:Program} {o:Oper} {ft:List (Nat×SV)} {fk:List (Nat×Blk)}
theorem op_sliceArr {t e:TypeId} {x:Operand} {ti te:TI} {n w:Nat} {cs xs:List SV} (ho:o.op= .slice t x none none none) (hx:EvOK ft x (ptrA cs)) (ht:TOK P t ti) (hk:ti.kind= .arr n e) (he:TOK P e te) (hs:te.size=w) (hxs:xs.length=n)
  (hw:∀c∈xs,c.width=w) (hd:∀ρ z,HasZ ρ cs z→∃z',HasZ ρ xs z'∧z'.flatten=z.flatten):OpOK P o ft fk (vecA w xs) [] []:=
 ok_pure fun ρ a W hp=>by
  have hu:=ht.kind;rw[hk]at hu
  obtain⟨b,z,pre,ex,ty,fz,h1,h2,hv⟩:=has_ptrA (hx ρ a hp.hft)
  obtain⟨z',g1,g2⟩:=hd _ z h2
  have hzl:z'.length=xs.length:=HasZ_length g1
  have hzw:=HasZ_widths xs z' g1 hw
  have hfl:=flatten_len (s:=w) z' hzw
  refine⟨.slice (some ⟨b,pre.length,none⟩) n n, ?_,vec_has (.inr ⟨b,n,z',pre,ex,ty,fz,by rw[g2];exact h1,g1,hw,by omega, ?_,by rw[hxs]⟩)⟩
  ·have hb:(Instr.sliceBounds false n n none none none).run P W= .ok (0,n,n) W:=by simp[Instr.sliceBounds]
   have ha:(if n=0 then(⟨b,pre.length,none⟩:Addr)else(⟨b,pre.length,none⟩:Addr).add (0*w))=⟨b,pre.length,none⟩:=by
    split
    ·rfl
    ·simp[Addr.add]
   simp only[execOp,ho,Option.map_none,Instr.sliceAt,Sem.run_bind,run_underlying hu,Result.andThen_ok,Instr.sureAddr,hv,hb,he.sizeOf,hs,Sem.run_pure,ha,Nat.sub_zero]
  ·rw[List.length_append,hfl,hzl,hxs];omega
end
end Go.Sx
namespace Go.Proofs.YthaeohlijigplaaGreat
open Go.Sx
set_option linter.unusedSimpArgs false
set_option linter.unusedVariables false
set_option maxRecDepth 100000
set_option maxHeartbeats 64000000
theorem g_IndexP (p:Pt→Bool) (g:FuncId) (cs ds:List SV) (l:List Pt) (hl:l.length<1099511627776) (h:∀i,i<l.length→CallOK Tryz.prog g ([]++([ptA (l.getD i (0,0))]++[ptrA cs,ptrA ds])) [] (.val (.bool (p (l.getD i (0,0))))) [] []):
  CallOK Tryz.prog 154 [mvec 10 ptA l,.clo g [] [ptrA cs,ptrA ds]] [] (iv (idxF p l 0)) [] []:=by
 refine callV (Z:=[]) tabOK mixedOK Tryz.func154 rfl (by kernel_rfl) rfl rfl (by kernel_rfl) rfl ?_
 intro W0 w0 ρ0 hE
 conv=>whnf
 (repeat(first|(refine g_o (op_lenM rfl rfl rfl (ev_ok rfl) (tgt rfl) rfl) ?_;conv=>whnf)))
 refine SW_loopN hE (fun k=>k) [0,1,4,6,7,8] [] (fun m fr hp=>∃i,m=l.length - i∧i≤l.length∧idxF p l 0=idxF p (l.drop i) i∧fr=[(0,mvec 10 ptA l),(1,.clo g [] [ptrA cs,ptrA ds]),(4,iv 0),(6,mvec 10 ptA l),(7,iv (l.length:Nat)),(8,iv (i:Nat))]∧hp=[]) l.length ?_ ?_ ?_
 ·kernel_rfl
 ·exact⟨0,rfl,Nat.zero_le _,rfl,rfl,rfl⟩
 rintro m _ _ ⟨i,rfl,hi,hx,rfl,rfl⟩
 conv=>whnf
 by_cases hlt:i<l.length
 ·have t1:decide (((i:Nat):Int)<((l.length:Nat):Int))=true:=decide_eq_true (by omega)
  have t2:=winc (i:=i) (by omega)
  have k1:=h i hlt
  have hd:=idxF_drop p (0,0) hlt
  rw[hx,hd]
  cases hp:p (l.getD i (0,0))with
  |true=>
   rw[hp]at k1
   (repeat((first|refine step_w1 rfl rfl ?_|refine g_c (by assumption) ?_|refine tst_tt t1 ?_|refine g_o (op_loadA rfl (ev_ok rfl) (tgt rfl) rfl (Nat.succ_ne_zero _) rfl) ?_|refine g_o (op_indexM (α:=Pt) (d:=(0,0)) rfl (ev_ok rfl) (ev_ok rfl) (tgt rfl) rfl (tgt rfl) rfl (by omega)) ?_);conv=>whnf));(first|exact Recast.refl _|exact Frz.recast (Recast.refl _) rfl|(refine Frz.one rfl rfl ?_;skip)|(refine Frz.tup ?_;skip))
  |false=>
   rw[hp]at k1
   (repeat((first|refine step_w2 rfl rfl ?_|refine g_c (by assumption) ?_|refine tst_tt t1 ?_|refine g_o (op_loadA rfl (ev_ok rfl) (tgt rfl) rfl (Nat.succ_ne_zero _) rfl) ?_|refine g_o (op_indexM (α:=Pt) (d:=(0,0)) rfl (ev_ok rfl) (ev_ok rfl) (tgt rfl) rfl (tgt rfl) rfl (by omega)) ?_|rw[t1]|rw[t2]|rw[Int.toNat_natCast]);conv=>whnf))
   exact⟨l.length - (i+1),fun k=>k,[0,1,4,6,7,8],[],by omega,by kernel_rfl,i+1,rfl,hlt,by simp,rfl,rfl⟩
 ·have t1:decide (((i:Nat):Int)<((l.length:Nat):Int))=false:=decide_eq_false (by omega)
  rw[hx,List.drop_of_length_le (by omega)]
  (repeat(first|(refine tst_ff t1 ?_;conv=>whnf)));(first|exact Recast.refl _|exact Frz.recast (Recast.refl _) rfl|(refine Frz.one rfl rfl ?_;skip)|(refine Frz.tup ?_;skip))
theorem g_IndexPc (p:Pt→Bool) (g:FuncId) (cs ds:List SV) (l:List Pt) (hl:l.length<1099511627776) (h:∀i,i<l.length→CallOK Tryz.prog g ([]++([ptA (l.getD i (0,0))]++[ptrA cs,ptrA ds])) [] (.val (.bool (p (l.getD i (0,0))))) [] []):
  CallOK Tryz.prog 132 [mvec 10 ptA l,.clo g [] [ptrA cs,ptrA ds]] [] (.val (.bool (l.any p))) [] []:=by
 have k1:=g_IndexP p g cs ds l hl h
 rw[←idxF_any p l 0]
 refine callV (Z:=[]) tabOK mixedOK Tryz.func132 rfl (by kernel_rfl) rfl rfl (by kernel_rfl) rfl ?_
 intro W0 w0 ρ0 hE
 conv=>whnf
 (repeat(first|(refine g_c (by assumption) ?_;conv=>whnf)));(first|exact Recast.refl _|exact Frz.recast (Recast.refl _) rfl|(refine Frz.one rfl rfl ?_;skip)|(refine Frz.tup ?_;skip))
def leftB (p q r:Pt):Bool:=decide ((tw p q r).num.sign>0)
theorem m_bey1 {p q r:Pt} {B:Nat} (hp:PB B p) (hq:PB B q) (hr:PB B r) (h:8*B≤1073741824):CallOK Tryz.prog 133 ([]++([ptA r]++[ptrA [.frac p.1,.frac p.2],ptrA [.frac q.1,.frac q.2]])) [] (.val (.bool (leftB p q r))) [] []:=by
 have k1:=p_Turn hp hq hr h
 unfold leftB
 clear hp hq hr
 generalize tw p q r=x at*
 obtain⟨p1,p2⟩:=p
 obtain⟨q1,q2⟩:=q
 obtain⟨r1,r2⟩:=r
 refine callV (Z:=[3]) tabOK mixedOK Tryz.func133 rfl (by kernel_rfl) rfl rfl (by kernel_rfl) rfl ?_
 intro W0 w0 ρ0 hE
 conv=>whnf
 (repeat(first|(refine g_c (by assumption) ?_;conv=>whnf)|(refine g_o (op_loadA rfl (ev_ok rfl) (tgt rfl) rfl (Nat.succ_ne_zero _) rfl) ?_;conv=>whnf)));(first|exact Recast.refl _|exact Frz.recast (Recast.refl _) rfl|(refine Frz.one rfl rfl ?_;skip)|(refine Frz.tup ?_;skip))
def nbF (p q:Pt) (d:List Pt):Bool:=d.any (leftB p q)
def beyF (a b c:Pt) (d:List Pt):Bool:= !nbF a b d||(!nbF b c d|| !nbF c a d)
def iv3:Nat→SV
 |0=>iv 0
 |1=>iv 1
 |2=>iv 2
 |_=>iv 3
theorem m_beyond {a b c d e f:Pt} {B:Nat} (ha:PB B a) (hb:PB B b) (hc:PB B c) (hd:PB B d) (he:PB B e) (hf:PB B f) (h:8*B≤1073741824):
  CallOK Tryz.prog 106 [.agg [ptA a,ptA b,ptA c],.agg [ptA d,ptA e,ptA f]] [] (.val (.bool (beyF a b c [d,e,f]))) [] []:=by
 have hm:∀i,i<[d,e,f].length→PB B ([d,e,f].getD i (0,0)):=fun i hi=>by
  obtain rfl|rfl|rfl:i=0∨i=1∨i=2:=by simp at hi;omega
  ·exact hd
  ·exact he
  ·exact hf
 have k1:=g_IndexPc (leftB a b) 133 [.frac a.1,.frac a.2] [.frac b.1,.frac b.2] [d,e,f] (by simp) fun i hi=>m_bey1 ha hb (hm i hi) h
 have k2:=g_IndexPc (leftB b c) 133 [.frac b.1,.frac b.2] [.frac c.1,.frac c.2] [d,e,f] (by simp) fun i hi=>m_bey1 hb hc (hm i hi) h
 have k3:=g_IndexPc (leftB c a) 133 [.frac c.1,.frac c.2] [.frac a.1,.frac a.2] [d,e,f] (by simp) fun i hi=>m_bey1 hc ha (hm i hi) h
 rw[show[d,e,f].any (leftB a b)=nbF a b [d,e,f]from rfl]at k1
 rw[show[d,e,f].any (leftB b c)=nbF b c [d,e,f]from rfl]at k2
 rw[show[d,e,f].any (leftB c a)=nbF c a [d,e,f]from rfl]at k3
 unfold beyF
 clear ha hb hc hd he hf hm
 generalize nbF a b [d,e,f]=x at*
 generalize nbF b c [d,e,f]=y at*
 generalize nbF c a [d,e,f]=z at*
 refine callF (Z:=[2,3,100005]) tabOK mixedOK Tryz.func106 rfl (by kernel_rfl) (by first|rfl|(simp[keylessL,keyless,keylessL_map, *];done)) (by first|rfl|(simp[keylessL,keyless,keylessL_map, *];done)) (by kernel_rfl) rfl ?_
 intro w0 ρ0 hE
 conv=>whnf
 skip
 refine SW_loopN hE (fun k=>k) [2,3,8] [] (fun M fr hp=>∃i,M=3 - i∧i≤3∧(0<i→x=true)∧(1<i→y=true)∧(2<i→z=true)∧fr=[(2,ptrA [ptA a,ptA b,ptA c]),(3,ptrA [ptA d,ptA e,ptA f]),(8,iv3 i)]∧hp=[]) 3 ?_ ?_ ?_
 ·kernel_rfl
 ·exact⟨0,rfl,by omega,by omega,by omega,by omega,rfl,rfl⟩
 rintro M _ _ ⟨i,rfl,hi,h1,h2,h3,rfl,rfl⟩
 obtain rfl|rfl|rfl|rfl:i=0∨i=1∨i=2∨i=3:=by omega
 all_goals conv=>whnf
 ·have wm:(IntKind.i64.wrap (0+1)).tmod 3=1:=by decide
  (repeat((first|refine step_w1 rfl rfl ?_|refine step_i (by kernel_rfl) ?_|refine step_oN (by first|omega|decide|(simp only[tl1,dlen,List.length_replicate,List.length_set,List.length_map,List.length_zipWith,List.length_take,List.length_append,List.length_cons,List.length_nil];omega)) ?_|refine g_o (op_loadA rfl (ev_ok rfl) (tgt rfl) rfl (Nat.succ_ne_zero _) rfl) ?_|refine g_o (op_indexArrA rfl (ev_ok rfl) (ev_ok rfl) (tgt rfl) rfl (tgt rfl) (by omega) (by omega) (Nat.succ_ne_zero _) rfl) ?_|rw[wm]);conv=>whnf))
  refine SWx_freezeP 6 6 (fun _ h=>h) rfl rfl rfl ?_
  refine SWx_freezeP 7 7 (fun _ h=>h) rfl rfl rfl ?_
  refine SWx_go hE ?_
  conv=>whnf
  cases x with
  |true=>
   (repeat(first|(refine step_w2 rfl rfl ?_;conv=>whnf)|(refine g_c (by assumption) ?_;conv=>whnf)|(refine g_o (op_makeFunc rfl rfl rfl) ?_;conv=>whnf)|(refine g_o (op_sliceArr (xs:=[ptA d,ptA e,ptA f]) rfl (ev_ok rfl) (tgt rfl) rfl (tgt rfl) rfl rfl (fun c hc=>by simp only[List.mem_cons,List.not_mem_nil,or_false]at hc;rcases hc with rfl|rfl|rfl<;>rfl) (fun ρ z h=>⟨z,h,rfl⟩)) ?_;conv=>whnf)))
   exact⟨3 - 1,fun k=>k,[2,3,8],[],by omega,by kernel_rfl,1,rfl,by omega,by first|exact fun _=>rfl|exact fun _=>h1 (by decide)|(intro hh;omega),by first|exact fun _=>rfl|exact fun _=>h2 (by decide)|(intro hh;omega),by first|exact fun _=>rfl|exact fun _=>h3 (by decide)|(intro hh;omega),rfl,rfl⟩
  |false=>
   try (have ex:x=true:=h1 (by decide))
   try (have ey:y=true:=h2 (by decide))
   try subst ex
   try subst ey
   (repeat(first|(refine step_w1 rfl rfl ?_;conv=>whnf)|(refine g_c (by assumption) ?_;conv=>whnf)|(refine g_o (op_makeFunc rfl rfl rfl) ?_;conv=>whnf)|(refine g_o (op_sliceArr (xs:=[ptA d,ptA e,ptA f]) rfl (ev_ok rfl) (tgt rfl) rfl (tgt rfl) rfl rfl (fun c hc=>by simp only[List.mem_cons,List.not_mem_nil,or_false]at hc;rcases hc with rfl|rfl|rfl<;>rfl) (fun ρ z h=>⟨z,h,rfl⟩)) ?_;conv=>whnf)))
   (first|exact Recast.refl _|exact Frz.recast (Recast.refl _) rfl|(refine Frz.one rfl rfl ?_;skip)|(refine Frz.tup ?_;skip))
 ·have wm:(IntKind.i64.wrap (1+1)).tmod 3=2:=by decide
  (repeat((first|refine step_w1 rfl rfl ?_|refine step_i (by kernel_rfl) ?_|refine step_oN (by first|omega|decide|(simp only[tl1,dlen,List.length_replicate,List.length_set,List.length_map,List.length_zipWith,List.length_take,List.length_append,List.length_cons,List.length_nil];omega)) ?_|refine g_o (op_loadA rfl (ev_ok rfl) (tgt rfl) rfl (Nat.succ_ne_zero _) rfl) ?_|refine g_o (op_indexArrA rfl (ev_ok rfl) (ev_ok rfl) (tgt rfl) rfl (tgt rfl) (by omega) (by omega) (Nat.succ_ne_zero _) rfl) ?_|rw[wm]);conv=>whnf))
  refine SWx_freezeP 6 6 (fun _ h=>h) rfl rfl rfl ?_
  refine SWx_freezeP 7 7 (fun _ h=>h) rfl rfl rfl ?_
  refine SWx_go hE ?_
  conv=>whnf
  cases y with
  |true=>
   (repeat(first|(refine step_w2 rfl rfl ?_;conv=>whnf)|(refine g_c (by assumption) ?_;conv=>whnf)|(refine g_o (op_makeFunc rfl rfl rfl) ?_;conv=>whnf)|(refine g_o (op_sliceArr (xs:=[ptA d,ptA e,ptA f]) rfl (ev_ok rfl) (tgt rfl) rfl (tgt rfl) rfl rfl (fun c hc=>by simp only[List.mem_cons,List.not_mem_nil,or_false]at hc;rcases hc with rfl|rfl|rfl<;>rfl) (fun ρ z h=>⟨z,h,rfl⟩)) ?_;conv=>whnf)))
   exact⟨3 - 2,fun k=>k,[2,3,8],[],by omega,by kernel_rfl,2,rfl,by omega,by first|exact fun _=>rfl|exact fun _=>h1 (by decide)|(intro hh;omega),by first|exact fun _=>rfl|exact fun _=>h2 (by decide)|(intro hh;omega),by first|exact fun _=>rfl|exact fun _=>h3 (by decide)|(intro hh;omega),rfl,rfl⟩
  |false=>
   try (have ex:x=true:=h1 (by decide))
   try (have ey:y=true:=h2 (by decide))
   try subst ex
   try subst ey
   (repeat(first|(refine step_w1 rfl rfl ?_;conv=>whnf)|(refine g_c (by assumption) ?_;conv=>whnf)|(refine g_o (op_makeFunc rfl rfl rfl) ?_;conv=>whnf)|(refine g_o (op_sliceArr (xs:=[ptA d,ptA e,ptA f]) rfl (ev_ok rfl) (tgt rfl) rfl (tgt rfl) rfl rfl (fun c hc=>by simp only[List.mem_cons,List.not_mem_nil,or_false]at hc;rcases hc with rfl|rfl|rfl<;>rfl) (fun ρ z h=>⟨z,h,rfl⟩)) ?_;conv=>whnf)))
   (first|exact Recast.refl _|exact Frz.recast (Recast.refl _) rfl|(refine Frz.one rfl rfl ?_;skip)|(refine Frz.tup ?_;skip))
 ·have wm:(IntKind.i64.wrap (2+1)).tmod 3=0:=by decide
  (repeat((first|refine step_w1 rfl rfl ?_|refine step_i (by kernel_rfl) ?_|refine step_oN (by first|omega|decide|(simp only[tl1,dlen,List.length_replicate,List.length_set,List.length_map,List.length_zipWith,List.length_take,List.length_append,List.length_cons,List.length_nil];omega)) ?_|refine g_o (op_loadA rfl (ev_ok rfl) (tgt rfl) rfl (Nat.succ_ne_zero _) rfl) ?_|refine g_o (op_indexArrA rfl (ev_ok rfl) (ev_ok rfl) (tgt rfl) rfl (tgt rfl) (by omega) (by omega) (Nat.succ_ne_zero _) rfl) ?_|rw[wm]);conv=>whnf))
  refine SWx_freezeP 6 6 (fun _ h=>h) rfl rfl rfl ?_
  refine SWx_freezeP 7 7 (fun _ h=>h) rfl rfl rfl ?_
  refine SWx_go hE ?_
  conv=>whnf
  cases z with
  |true=>
   (repeat(first|(refine step_w2 rfl rfl ?_;conv=>whnf)|(refine g_c (by assumption) ?_;conv=>whnf)|(refine g_o (op_makeFunc rfl rfl rfl) ?_;conv=>whnf)|(refine g_o (op_sliceArr (xs:=[ptA d,ptA e,ptA f]) rfl (ev_ok rfl) (tgt rfl) rfl (tgt rfl) rfl rfl (fun c hc=>by simp only[List.mem_cons,List.not_mem_nil,or_false]at hc;rcases hc with rfl|rfl|rfl<;>rfl) (fun ρ z h=>⟨z,h,rfl⟩)) ?_;conv=>whnf)))
   exact⟨3 - 3,fun k=>k,[2,3,8],[],by omega,by kernel_rfl,3,rfl,by omega,by first|exact fun _=>rfl|exact fun _=>h1 (by decide)|(intro hh;omega),by first|exact fun _=>rfl|exact fun _=>h2 (by decide)|(intro hh;omega),by first|exact fun _=>rfl|exact fun _=>h3 (by decide)|(intro hh;omega),rfl,rfl⟩
  |false=>
   try (have ex:x=true:=h1 (by decide))
   try (have ey:y=true:=h2 (by decide))
   try subst ex
   try subst ey
   (repeat(first|(refine step_w1 rfl rfl ?_;conv=>whnf)|(refine g_c (by assumption) ?_;conv=>whnf)|(refine g_o (op_makeFunc rfl rfl rfl) ?_;conv=>whnf)|(refine g_o (op_sliceArr (xs:=[ptA d,ptA e,ptA f]) rfl (ev_ok rfl) (tgt rfl) rfl (tgt rfl) rfl rfl (fun c hc=>by simp only[List.mem_cons,List.not_mem_nil,or_false]at hc;rcases hc with rfl|rfl|rfl<;>rfl) (fun ρ z h=>⟨z,h,rfl⟩)) ?_;conv=>whnf)))
   (first|exact Recast.refl _|exact Frz.recast (Recast.refl _) rfl|(refine Frz.one rfl rfl ?_;skip)|(refine Frz.tup ?_;skip))
 ·have ex:x=true:=h1 (by decide)
  have ey:y=true:=h2 (by decide)
  have ez:z=true:=h3 (by decide)
  subst ex ey ez
  (repeat(first|(refine step_w2 rfl rfl ?_;conv=>whnf)));(first|exact Recast.refl _|exact Frz.recast (Recast.refl _) rfl|(refine Frz.one rfl rfl ?_;skip)|(refine Frz.tup ?_;skip))
end Go.Proofs.YthaeohlijigplaaGreat
namespace Go.Proofs.YthaeohlijigplaaGreat
open Go.Sx
set_option linter.unusedSimpArgs false
set_option linter.unusedVariables false
set_option maxRecDepth 100000
set_option maxHeartbeats 8000000
def detM (x:M6):Int:=(kk x).1*(kk x).2.2.2 - (kk x).2.1*(kk x).2.2.1
theorem det_pos (x:M6):0<detM x:=by
 unfold detM kk
 simp only
 generalize x.k0.tmod 4=a
 generalize x.k1.tmod 4=b
 generalize x.k2.tmod 4=c
 generalize x.k3.tmod 4=d
 split
 ·decide
 ·split
  ·simp only[Int.mul_neg];omega
  ·simp only;omega
def PP (x:M6) (p:I2):Pt:=ptD (denM x) (movP x p)
def scl (x:M6):Rat:=((denM x:Int):Rat)⁻¹
theorem tw_PP (x:M6) (a b c:I2):tw (PP x a) (PP x b) (PP x c)=((detM x*twI a b c:Int):Rat)*(scl x*scl x):=by
 unfold PP ptD scl tw pcross psub movP detM twI
 simp only[Rat.div_def]
 generalize ((denM x:Int):Rat)⁻¹=r
 obtain⟨k0,k1,k2,k3⟩:=kk x
 obtain⟨a1,a2⟩:=a
 obtain⟨b1,b2⟩:=b
 obtain⟨c1,c2⟩:=c
 simp only[Rat.intCast_add,Rat.intCast_mul,Rat.intCast_sub]
 grind
theorem den_pos {x:M6} (h:0≤x.den):0<denM x:=by
 have:=Int.tmod_nonneg 6 h
 unfold denM;omega
theorem scl_pos {x:M6} (h:0≤x.den):0<scl x*scl x:=by
 have h1:(0:Rat)<((denM x:Int):Rat):=by exact_mod_cast den_pos h
 have h2:0<scl x:=Rat.inv_pos.2 h1
 exact Rat.mul_pos h2 h2
theorem tw_sgn {x:M6} (h:0≤x.den) (a b c:I2):(0<tw (PP x a) (PP x b) (PP x c)↔0<twI a b c)∧(tw (PP x a) (PP x b) (PP x c)<0↔twI a b c<0):=by
 have hs:=scl_pos h
 have hd:=det_pos x
 rw[tw_PP]
 generalize scl x*scl x=s at*
 generalize detM x=d at*
 generalize twI a b c=t at*
 have key1:0<t→(0:Rat)<((d*t:Int):Rat)*s:=fun ht=>Rat.mul_pos (by exact_mod_cast Int.mul_pos hd ht) hs
 have key2:t<0→((d*t:Int):Rat)*s<0:=fun ht=>by
  have h1:(0:Rat)<((d*(-t):Int):Rat)*s:=Rat.mul_pos (by exact_mod_cast Int.mul_pos hd (by omega)) hs
  rw[Int.mul_neg,Rat.intCast_neg]at h1
  grind
 have key3:t=0→((d*t:Int):Rat)*s=0:=fun ht=>by rw[ht,Int.mul_zero];simp
 rcases Int.lt_trichotomy t 0 with ht|ht|ht
 ·have:=key2 ht
  exact⟨⟨fun h=>by grind,fun h=>by omega⟩,⟨fun _=>ht,fun _=>this⟩⟩
 ·have:=key3 ht
  exact⟨⟨fun h=>by grind,fun h=>by omega⟩,⟨fun h=>by grind,fun h=>by omega⟩⟩
 ·have:=key1 ht
  exact⟨⟨fun _=>ht,fun _=>this⟩,⟨fun h=>by grind,fun h=>by omega⟩⟩
theorem num_pos (q:Rat):decide (q.num.sign>0)=decide (0<q):=by
 by_cases h:0<q
 ·rw[sign_pos h,decide_eq_true h];decide
 ·rw[decide_eq_false h]
  refine decide_eq_false fun h1=> ?_
  have h2:0<q.num:=by
   rcases Int.lt_trichotomy q.num 0 with h3|h3|h3
   ·rw[Int.sign_eq_neg_one_of_neg h3]at h1;omega
   ·rw[h3]at h1;simp at h1
   ·exact h3
  have h3:=Rat.num_nonneg.1 (Int.le_of_lt h2)
  have h4:q≠0:=fun e=>by rw[e]at h2;simp at h2
  grind
theorem left_PP {x:M6} (h:0≤x.den) (p q r:I2):leftB (PP x p) (PP x q) (PP x r)=leftI p q r:=by
 unfold leftB leftI
 rw[num_pos,decide_eq_decide]
 exact(tw_sgn h p q r).1
theorem bey_PP {x:M6} (h:0≤x.den) (t u:P3):beyF (PP x t.1) (PP x t.2.1) (PP x t.2.2) [PP x u.1,PP x u.2.1,PP x u.2.2]=beyI t u:=by
 unfold beyF beyI nbF anyI
 simp only[List.any_cons,List.any_nil,left_PP h,Bool.or_false]
def nuT (n:T3) (i:Nat):Int:=match i with
 |0=>n.1
 |1=>n.2.1
 |_=>n.2.2
theorem nuT_set (n:T3) {i j:Nat} (hi:i<3) (hj:j<3) (v:Int):nuT (setT n i v) j=if j=i then v else nuT n j:=by
 obtain rfl|rfl|rfl:i=0∨i=1∨i=2:=by omega
 all_goals obtain rfl|rfl|rfl:j=0∨j=1∨j=2:=by omega
 all_goals rfl
theorem findP_no {pl:List I2} {p:I2}:∀k,findP pl p k<0→∀j,j<k→pl.getD j (0,0)≠p
 |0,_,j,hj=>by omega
 |k+1,h,j,hj=>by
  simp only[findP]at h
  split at h
  ·omega
  ·rename_i hn
   by_cases hjk:j=k
   ·subst hjk;exact hn
   ·exact findP_no k h j (by omega)
theorem findP_yes {pl:List I2} {p:I2}:∀k,0≤findP pl p k→pl.getD (findP pl p k).toNat (0,0)=p
 |0,h=>by simp[findP]at h
 |k+1,h=>by
  simp only[findP]at h ⊢
  split
  ·rename_i hp;rw[Int.toNat_natCast];exact hp
  ·rename_i hp;rw[if_neg hp]at h;exact findP_yes k h
theorem getD_app {α:Type} {l e:List α} {d:α} {k:Nat} (h:k<l.length):(l++e).getD k d=l.getD k d:=by
 rw[List.getD_eq_getElem?_getD,List.getElem?_append_left h,←List.getD_eq_getElem?_getD]
theorem getD_inj {l:List I2} (hn:l.Nodup) {i j:Nat} (hi:i<l.length) (hj:j<l.length) (e:l.getD i (0,0)=l.getD j (0,0)):i=j:=by
 rw[List.getD_eq_getElem?_getD,List.getElem?_eq_getElem hi,List.getD_eq_getElem?_getD,List.getElem?_eq_getElem hj]at e
 exact(List.getElem_inj hn).1 (by simpa using e)
theorem add_spec {q:List I2} (hn:q.Nodup) (p:I2):(∃e,addP q p=q++e∧e.length≤1)∧(addP q p).Nodup∧(0≤numP q p∧numP q p<(addP q p).length)∧(addP q p).getD (numP q p).toNat (0,0)=p∧
  (∀k,q.length≤k→k<(addP q p).length→(k:Int)=numP q p):=by
 have hl:=findP_lt q p q.length
 by_cases h:findP q p q.length<0
 ·have ha:addP q p=q++[p]:=if_pos h
  have hm:numP q p=(q.length:Int):=if_pos h
  rw[ha,hm,List.length_append,List.length_singleton]
  refine⟨⟨[p],rfl,by simp⟩, ?_,by omega, ?_,fun k h1 h2=>by omega⟩
  ·rw[List.nodup_append]
   refine⟨hn,by simp,fun a hA b hb=> ?_⟩
   rw[List.mem_singleton]at hb
   subst hb
   rintro rfl
   obtain⟨j,hj,e⟩:=List.getElem_of_mem hA
   refine findP_no _ h j hj ?_
   rw[List.getD_eq_getElem?_getD,List.getElem?_eq_getElem hj,←e];rfl
  ·rw[Int.toNat_natCast,List.getD_eq_getElem?_getD,List.getElem?_append_right (Nat.le_refl _),Nat.sub_self];rfl
 ·have ha:addP q p=q:=if_neg h
  have hm:numP q p=findP q p q.length:=if_neg h
  rw[ha,hm]
  refine⟨⟨[],by simp,by simp⟩,hn,by omega,findP_yes _ (by omega),fun k h1 h2=>by omega⟩
structure CorOK (F:Nat) (tc:P3) (t:Nat) (pl:List I2) (i:Nat) (q:List I2) (n:T3):Prop where
 ext:∃e,q=pl++e
 nd:q.Nodup
 at':∀j,j<i→(0≤nuT n j∧nuT n j<q.length)∧q.getD (nuT n j).toNat (0,0)=rotC tc (rotI F t j)
 us:∀k:Nat,pl.length≤k→k<q.length→∃j,j<i∧(k:Int)=nuT n j
theorem corS_ok {F:Nat} {tc:P3} {t:Nat} {pl:List I2} (hn:pl.Nodup):∀i,i≤3→CorOK F tc t pl i (corS F tc t pl i).1 (corS F tc t pl i).2
 |0,_=>⟨⟨[],by simp[corS]⟩,hn,fun j hj=>by omega,fun k h1 h2=>by simp only[corS]at h2;omega⟩
 |i+1,hi=>by
  have ih:=corS_ok (F:=F) (tc:=tc) (t:=t) hn i (by omega)
  simp only[corS]
  generalize (corS F tc t pl i).1=q at*
  generalize (corS F tc t pl i).2=n at*
  generalize hp:rotC tc (rotI F t i)=p at*
  obtain⟨⟨e,he,hel⟩,h2,h3,h4,h5⟩:=add_spec ih.nd p
  refine⟨?_,h2,fun j hj=> ?_,fun k h6 h7=> ?_⟩
  ·obtain⟨e',he'⟩:=ih.ext
   exact⟨e'++e,by rw[he,he',List.append_assoc]⟩
  ·rw[nuT_set n (by omega) (by omega)]
   by_cases hji:j=i
   ·subst hji
    rw[if_pos rfl]
    exact⟨h3,by rw[h4,hp]⟩
   ·rw[if_neg hji]
    obtain⟨g1,g2⟩:=ih.at' j (by omega)
    have hll:q.length≤(addP q p).length:=by rw[he,List.length_append];omega
    refine⟨by omega, ?_⟩
    rw[he,getD_app (by omega)]
    exact g2
  ·by_cases hk:k<q.length
   ·obtain⟨j,g1,g2⟩:=ih.us k h6 hk
    exact⟨j,by omega,by rw[nuT_set n (by omega) (by omega),if_neg (by omega)];exact g2⟩
   ·exact⟨i,by omega,by rw[nuT_set n (by omega) (by omega),if_pos rfl];exact h5 k (by omega) h7⟩
structure TriOK (F:Nat) (l:List P3) (t:Nat) (pl:List I2) (ts:List T3):Prop where
 nd:pl.Nodup
 len:ts.length=t
 at':∀j,j<t→∀i,i<3→(0≤nuT (gt ts j) i∧nuT (gt ts j) i<pl.length)∧pl.getD (nuT (gt ts j) i).toNat (0,0)=rotC (g3 l j) (rotI F j i)
 us:∀k:Nat,k<pl.length→∃j i,j<t∧i<3∧(k:Int)=nuT (gt ts j) i
theorem triS_ok (F:Nat) (l:List P3):∀t,TriOK F l t (triS F l t).1 (triS F l t).2
 |0=>⟨by simp[triS],rfl,fun j hj=>by omega,fun k hk=>by simp[triS]at hk⟩
 |t+1=>by
  have ih:=triS_ok F l t
  have hc:=corS_ok (F:=F) (tc:=g3 l t) (t:=t) ih.nd 3 (Nat.le_refl _)
  simp only[triS]
  generalize (triS F l t).1=pl at*
  generalize (triS F l t).2=ts at*
  generalize (corS F (g3 l t) t pl 3).1=q at*
  generalize (corS F (g3 l t) t pl 3).2=n at*
  obtain⟨e,he⟩:=hc.ext
  have hlq:pl.length≤q.length:=by rw[he,List.length_append];omega
  have hold:∀j,j<t→gt (ts++[n]) j=gt ts j:=fun j hj=>by rw[gt,gt,getD_app (by rw[ih.len];exact hj)]
  have hnew:gt (ts++[n]) t=n:=by
   rw[gt,List.getD_eq_getElem?_getD,List.getElem?_append_right (by rw[ih.len];exact Nat.le_refl _),ih.len,Nat.sub_self];rfl
  refine⟨hc.nd,by rw[List.length_append,ih.len];rfl,fun j hj i hi=> ?_,fun k hk=> ?_⟩
  ·by_cases hjt:j=t
   ·subst hjt
    rw[hnew];exact hc.at' i hi
   ·rw[hold j (by omega)]
    obtain⟨g1,g2⟩:=ih.at' j (by omega) i hi
    refine⟨by omega, ?_⟩
    rw[he,getD_app (by omega)]
    exact g2
  ·by_cases hk2:k<pl.length
   ·obtain⟨j,i,g1,g2,g3⟩:=ih.us k hk2
    exact⟨j,i,by omega,g2,by rw[hold j g1];exact g3⟩
   ·obtain⟨i,g1,g2⟩:=hc.us k (by omega) hk
    exact⟨t,i,by omega,g1,by rw[hnew];exact g2⟩
theorem rot3_at (t:P3) (F j:Nat) {i:Nat} (hi:i<3):rotC t (rotI F j i)=rotC (rot3 t ((F+j*(F/3)) % 3)) i:=by
 have e:rotI F j i=((F+j*(F/3)) % 3+i) % 3:=by unfold rotI;omega
 rw[e]
 have hs:(F+j*(F/3)) % 3<3:=Nat.mod_lt _ (by decide)
 generalize (F+j*(F/3)) % 3=s at*
 obtain rfl|rfl|rfl:s=0∨s=1∨s=2:=by omega
 all_goals obtain rfl|rfl|rfl:i=0∨i=1∨i=2:=by omega
 all_goals rfl
end Go.Proofs.YthaeohlijigplaaGreat
namespace Go.Proofs.YthaeohlijigplaaGreat
open Go.Sx
set_option linter.unusedSimpArgs false
set_option linter.unusedVariables false
set_option maxRecDepth 100000
set_option maxHeartbeats 8000000
def ltP (p q:Int×Int):Prop:=p.1<q.1∨p.1=q.1∧p.2<q.2
theorem sorted_ext:∀{l m:List (Int×Int)},l.Pairwise ltP→m.Pairwise ltP→(∀x,x∈l↔x∈m)→l=m
 |[],[],_,_,_=>rfl
 |[],b::m,_,_,h=>absurd ((h b).2 (List.mem_cons_self ..)) (by simp)
 |a::l,[],_,_,h=>absurd ((h a).1 (List.mem_cons_self ..)) (by simp)
 |a::l,b::m,hl,hm,h=>by
  obtain⟨hl1,hl2⟩:=List.pairwise_cons.1 hl
  obtain⟨hm1,hm2⟩:=List.pairwise_cons.1 hm
  have hab:a=b:=by
   rcases List.mem_cons.1 ((h a).1 (List.mem_cons_self ..))with e|e
   ·exact e
   ·rcases List.mem_cons.1 ((h b).2 (List.mem_cons_self ..))with e2|e2
    ·exact e2.symm
    ·have h1:=hm1 a e
     have h2:=hl1 b e2
     unfold ltP at h1 h2;omega
  subst hab
  have irr:∀x,ltP a x→x≠a:=fun x hx e=>by subst e;unfold ltP at hx;omega
  rw[sorted_ext hl2 hm2 fun x=> ?_]
  constructor
  ·intro hx
   rcases List.mem_cons.1 ((h x).1 (List.mem_cons_of_mem _ hx))with e|e
   ·exact absurd e (irr x (hl1 x hx))
   ·exact e
  ·intro hx
   rcases List.mem_cons.1 ((h x).2 (List.mem_cons_of_mem _ hx))with e|e
   ·exact absurd e (irr x (hm1 x hx))
   ·exact e
def spL (l:List T3):List (Int×Int):=l.map fun s=>(s.1,s.2.1)
theorem spL_eq {l m:List T3} (h:spL l=spL m):l.length=m.length∧∀i,i<l.length→(gt l i).1=(gt m i).1∧(gt l i).2.1=(gt m i).2.1:=by
 have hl:l.length=m.length:=by have:=congrArg List.length h;simpa [spL]using this
 refine⟨hl,fun i hi=> ?_⟩
 have e:=congrArg (fun x=>x[i]?) h
 simp only[spL,List.getElem?_map]at e
 rw[List.getElem?_eq_getElem hi,List.getElem?_eq_getElem (by omega)]at e
 simp only[Option.map_some,Option.some.injEq,Prod.mk.injEq]at e
 rw[gt,gt,List.getD_eq_getElem?_getD,List.getElem?_eq_getElem hi,List.getD_eq_getElem?_getD,List.getElem?_eq_getElem (by omega)]
 exact e
theorem rimA_filter (mc:MapI) (es:List E4):∀k,k≤es.length→spL (rimA mc es k)=((es.take k).filter fun e=>decide (getI mc (e.1,e.2.1)=1)).map fun e=>(e.1,e.2.1)
 |0,_=>rfl
 |k+1,h=>by
  have e:es.take (k+1)=es.take k++[ge es k]:=by
   rw[List.take_add_one,ge,List.getD_eq_getElem?_getD,List.getElem?_eq_getElem (by omega)];rfl
  have ih:=rimA_filter mc es k (by omega)
  rw[e,List.filter_append,List.map_append,←ih]
  simp only[rimA]
  split
  ·rename_i hp;rw[List.filter_cons_of_pos (by simpa using hp),spL,List.map_append];rfl
  ·rename_i hp;rw[List.filter_cons_of_neg (by simpa using hp)];simp
theorem rim_sorted (ts:List T3):(spL (rimL ts)).Pairwise ltP:=by
 unfold rimL
 rw[rimA_filter _ _ _ (Nat.le_refl _),List.take_length,List.pairwise_map]
 refine((edgesL_sorted ts).filter _).imp fun {x y} h=> ?_
 have:=cmpE_lt.1 h
 exact this
theorem rim_mem (ts:List T3) (p:Int×Int):p∈spL (rimL ts)↔(∃j,j<ts.length∧trE (gt ts j) p)∧getI (mapC ts ts.length) p=1:=by
 unfold rimL
 rw[rimA_filter _ _ _ (Nat.le_refl _),List.take_length,←edgesL_mem]
 simp only[List.mem_map,List.mem_filter,decide_eq_true_eq]
 constructor
 ·rintro⟨e,⟨h1,h2⟩,rfl⟩;exact⟨⟨e,h1,rfl⟩,h2⟩
 ·rintro⟨⟨e,h1,rfl⟩,h2⟩;exact⟨e,⟨h1,h2⟩,rfl⟩
instance (t:T3) (p:Int×Int):Decidable (trE t p):=by unfold trE;infer_instance
def cntE (ts:List T3) (p:Int×Int):Nat→Nat
 |0=>0
 |k+1=>if trE (gt ts k) p then cntE ts p k+1 else cntE ts p k
theorem cntE_le (ts:List T3) (p:Int×Int):∀k,cntE ts p k≤k
 |0=>Nat.le_refl _
 |k+1=>by
  have:=cntE_le ts p k
  simp only[cntE];split<;>omega
theorem triC_get {l:MapI} {n:T3} {N:Nat} (hn:okT (N:Int) n=true) (q:Int×Int):getI (triC l n 3) q=if trE n q then IntKind.i64.wrap (getI l q+1)else getI l q:=by
 obtain⟨_,_,_,h4,h5,h6⟩:=okT_iff hn
 obtain⟨a,b,c⟩:=n
 simp only at h4 h5 h6
 have k12:ke a b≠ke b c:=fun e=>by have:=ke_inj e;omega
 have k13:ke a b≠ke c a:=fun e=>by have:=ke_inj e;omega
 have k23:ke b c≠ke c a:=fun e=>by have:=ke_inj e;omega
 simp only[triC,cntU,getI_upd,trE]
 by_cases h1:q=ke a b
 ·subst h1
  simp[k12,k13]
 ·by_cases h2:q=ke b c
  ·subst h2
   simp[k12.symm,k23]
  ·by_cases h3:q=ke c a
   ·subst h3
    simp[k13.symm,k23.symm]
   ·simp[h1,h2,h3]
theorem mapC_get {ts:List T3} {N:Nat} (hok:OkTs N ts) (hl:ts.length≤1000) (q:Int×Int):∀k,k≤ts.length→getI (mapC ts k) q=(cntE ts q k:Int)
 |0,_=>by simp[mapC,cntE,getI,Sx.look,lookI]
 |k+1,h=>by
  have ih:=mapC_get hok hl q k (by omega)
  have hc:=cntE_le ts q k
  simp only[mapC,cntE]
  rw[triC_get (hok.at (show k<ts.length by omega)),ih]
  split
  ·rw[wrap_i64 (by omega) (by omega)];omega
  ·rfl
theorem trE_has {N:Nat} {t:T3} (h:okT (N:Int) t=true) {a b:Int} (hab:a<b):trE t (a,b)↔(hasT t a=true∧hasT t b=true):=by
 obtain⟨_,_,_,h4,h5,h6⟩:=okT_iff h
 obtain⟨x,y,z⟩:=t
 simp only at h4 h5 h6
 have kk:∀u v:Int,u≠v→((a,b)=ke u v↔(a=u∧b=v∨a=v∧b=u)):=fun u v huv=>by
  rcases ke_cases u v with⟨e,h⟩|⟨e,h⟩<;>rw[e,Prod.mk.injEq]<;>omega
 simp only[trE,hasT,Bool.or_eq_true,beq_iff_eq]
 rw[kk x y h4,kk y z h5,kk z x h6]
 omega
theorem cnt_eq {ts:List T3} {N:Nat} (hok:OkTs N ts) {a b:Int} (hab:a<b):∀k,k≤ts.length→cntE ts (a,b) k=cntB ts a b k
 |0,_=>rfl
 |k+1,h=>by
  have ih:=cnt_eq hok hab k (by omega)
  simp only[cntE,cntB]
  rw[ih]
  have:=trE_has (hok.at (show k<ts.length by omega)) hab
  by_cases ht:trE (gt ts k) (a,b)
  ·rw[if_pos ht,if_pos (this.1 ht)]
  ·rw[if_neg ht,if_neg (fun hh=>ht (this.2 hh))]
theorem cntE_pos {ts:List T3} {p:Int×Int}:∀k,0<cntE ts p k→∃j,j<k∧trE (gt ts j) p
 |0,h=>by simp[cntE]at h
 |k+1,h=>by
  simp only[cntE]at h
  split at h
  ·rename_i ht;exact⟨k,by omega,ht⟩
  ·obtain⟨j,h1,h2⟩:=cntE_pos k h;exact⟨j,by omega,h2⟩
theorem sidB_mem (F:Nat) (ts:List T3) (a:Nat) (p:Int×Int):∀m,p∈spL (sidB F ts a m)↔∃j,j<m∧p=(((a:Nat):Int),((a+1+j:Nat):Int))∧cntB ts (a:Nat) (a+1+j:Nat) ts.length=1
 |0=>by simp[sidB,spL]
 |m+1=>by
  have ih:=sidB_mem F ts a p m
  simp only[sidB]
  split
  ·rename_i hc
   rw[spL,List.map_append,List.mem_append,←spL,ih]
   simp only[List.map_cons,List.map_nil,List.mem_singleton]
   constructor
   ·rintro(⟨j,h1,h2,h3⟩|h)
    ·exact⟨j,by omega,h2,h3⟩
    ·exact⟨m,by omega,h,hc⟩
   ·rintro⟨j,h1,h2,h3⟩
    by_cases hj:j=m
    ·subst hj;exact .inr h2
    ·exact .inl ⟨j,by omega,h2,h3⟩
  ·rename_i hc
   rw[ih]
   constructor
   ·rintro⟨j,h1,h2,h3⟩;exact⟨j,by omega,h2,h3⟩
   ·rintro⟨j,h1,h2,h3⟩
    have:j≠m:=by rintro rfl;exact hc h3
    exact⟨j,by omega,h2,h3⟩
theorem sidA_mem (F:Nat) (ts:List T3) (N:Nat) (p:Int×Int):∀m,m≤N→(p∈spL (sidA F ts N m)↔∃a b:Nat,a<m∧a<b∧b<N∧p=((a:Int),(b:Int))∧cntB ts (a:Nat) (b:Nat) ts.length=1)
 |0,_=>by simp[sidA,spL]
 |m+1,h=>by
  have ih:=sidA_mem F ts N p m (by omega)
  simp only[sidA]
  rw[spL,List.map_append,List.mem_append,←spL,←spL,ih,sidB_mem]
  constructor
  ·rintro(⟨a,b,h1,h2⟩|⟨j,h1,h2,h3⟩)
   ·exact⟨a,b,by omega,h2⟩
   ·exact⟨m,m+1+j,by omega,by omega,by omega,h2,h3⟩
  ·rintro⟨a,b,h1,h2,h3,h4,h5⟩
   by_cases ha:a=m
   ·subst ha
    refine .inr ⟨b - (a+1),by omega, ?_, ?_⟩
    ·rw[h4,show a+1+(b - (a+1))=b by omega]
    ·rw[show a+1+(b - (a+1))=b by omega];exact h5
   ·exact .inl ⟨a,b,by omega,h2,h3,h4,h5⟩
theorem sidB_sorted (F:Nat) (ts:List T3) (a:Nat):∀m,(spL (sidB F ts a m)).Pairwise ltP
 |0=>by simp[sidB,spL]
 |m+1=>by
  have ih:=sidB_sorted F ts a m
  simp only[sidB]
  split
  ·rw[spL,List.map_append,List.pairwise_append]
   refine⟨ih,by simp,fun x hx y hy=> ?_⟩
   obtain⟨j,h1,rfl,_⟩:=(sidB_mem F ts a x m).1 hx
   simp only[List.map_cons,List.map_nil,List.mem_singleton]at hy
   subst hy
   exact .inr ⟨rfl,by simp only;omega⟩
  ·exact ih
theorem sidA_sorted (F:Nat) (ts:List T3) (N:Nat):∀m,m≤N→(spL (sidA F ts N m)).Pairwise ltP
 |0,_=>by simp[sidA,spL]
 |m+1,h=>by
  have ih:=sidA_sorted F ts N m (by omega)
  simp only[sidA]
  rw[spL,List.map_append,List.pairwise_append]
  refine⟨ih,sidB_sorted F ts m _,fun x hx y hy=> ?_⟩
  obtain⟨a,b,h1,h2,h3,rfl,_⟩:=(sidA_mem F ts N x m (by omega)).1 hx
  obtain⟨j,g1,rfl,_⟩:=(sidB_mem F ts m y _).1 hy
  unfold ltP;simp only;omega
theorem side_rim {F N:Nat} {ts:List T3} (hok:OkTs N ts) (hl:ts.length≤1000):spL (sidA F ts N N)=spL (rimL ts):=by
 refine sorted_ext (sidA_sorted F ts N N (Nat.le_refl _)) (rim_sorted ts) fun p=> ?_
 rw[sidA_mem F ts N p N (Nat.le_refl _),rim_mem,mapC_get hok hl p ts.length (Nat.le_refl _)]
 constructor
 ·rintro⟨a,b,h1,h2,h3,rfl,h5⟩
  have hc:=cnt_eq hok (a:=(a:Int)) (b:=(b:Int)) (by omega) ts.length (Nat.le_refl _)
  exact⟨cntE_pos ts.length (by omega),by omega⟩
 ·rintro⟨⟨j,hj,ht⟩,h2⟩
  obtain⟨v1,v2,v3⟩:=trE_val (hok.at hj) ht
  obtain⟨p1,p2⟩:=p
  simp only at v1 v2 v3
  obtain⟨a,rfl⟩:=Int.eq_ofNat_of_zero_le v1.1
  obtain⟨b,rfl⟩:=Int.eq_ofNat_of_zero_le v2.1
  have hc:=cnt_eq hok (a:=(a:Int)) (b:=(b:Int)) v3 ts.length (Nat.le_refl _)
  exact⟨a,b,by omega,by omega,by omega,rfl,by omega⟩
theorem sidA_ok (F:Nat) (ts:List T3) (N:Nat):∀s∈sidA F ts N N,(0≤s.1∧s.1<(N:Nat))∧(0≤s.2.1∧s.2.1<(N:Nat))∧0≤s.2.2∧s.2.2≤255:=by
 have hb:∀a m,a+1+m≤N→∀s∈sidB F ts a m,(0≤s.1∧s.1<(N:Nat))∧(0≤s.2.1∧s.2.1<(N:Nat))∧0≤s.2.2∧s.2.2≤255:=by
  intro a m
  induction m with
  |zero=>intro _ s hs;simp[sidB]at hs
  |succ m ih=>
   intro hm s hs
   simp only[sidB]at hs
   split at hs
   ·rcases List.mem_append.1 hs with hs|hs
    ·exact ih (by omega) s hs
    ·rw[List.mem_singleton]at hs
     subst hs
     simp only;omega
   ·exact ih (by omega) s hs
 have ha:∀m,m≤N→∀s∈sidA F ts N m,(0≤s.1∧s.1<(N:Nat))∧(0≤s.2.1∧s.2.1<(N:Nat))∧0≤s.2.2∧s.2.2≤255:=by
  intro m
  induction m with
  |zero=>intro _ s hs;simp[sidA]at hs
  |succ m ih=>
   intro hm s hs
   simp only[sidA]at hs
   rcases List.mem_append.1 hs with hs|hs
   ·exact ih (by omega) s hs
   ·exact hb m _ (by omega) s hs
 exact ha N (Nat.le_refl _)
end Go.Proofs.YthaeohlijigplaaGreat
namespace Go.Proofs.YthaeohlijigplaaGreat
open Go.Sx
set_option linter.unusedSimpArgs false
set_option linter.unusedVariables false
set_option maxRecDepth 100000
set_option maxHeartbeats 64000000
theorem g_IxI (v:Int) (l:List Int) (hl:l.length<1099511627776):CallOK Tryz.prog 134 [mvec 1 (iel .i64) l,(iel .i64) v] [] (iv (idxF (fun x=>v==x) l 0)) [] []:=by
 refine callV (Z:=[]) tabOK mixedOK Tryz.func134 rfl (by kernel_rfl) rfl rfl (by kernel_rfl) rfl ?_
 intro W0 w0 ρ0 hE
 conv=>whnf
 (repeat(first|(refine g_o (op_lenM rfl rfl rfl (ev_ok rfl) (tgt rfl) rfl) ?_;conv=>whnf)))
 refine SW_loopN hE (fun k=>k) [0,1,4,6,7,8] [] (fun m fr hp=>∃i,m=l.length - i∧i≤l.length∧idxF (fun x=>v==x) l 0=idxF (fun x=>v==x) (l.drop i) i∧fr=[(0,mvec 1 (iel .i64) l),(1,(iel .i64) v),(4,iv 0),(6,mvec 1 (iel .i64) l),(7,iv (l.length:Nat)),(8,iv (i:Nat))]∧hp=[]) l.length ?_ ?_ ?_
 ·kernel_rfl
 ·exact⟨0,rfl,Nat.zero_le _,rfl,rfl,rfl⟩
 rintro m _ _ ⟨i,rfl,hi,hx,rfl,rfl⟩
 conv=>whnf
 by_cases hlt:i<l.length
 ·have t1:decide (((i:Nat):Int)<((l.length:Nat):Int))=true:=decide_eq_true (by omega)
  have t2:=winc (i:=i) (by omega)
  have hd:=idxF_drop (fun x=>v==x) 0 hlt
  rw[hx,hd]
  cases hp:v==l.getD i 0 with
  |true=>
   (repeat((first|refine tst_tt t1 ?_|refine tst_tt hp ?_|refine g_o (op_loadA rfl (ev_ok rfl) (tgt rfl) rfl (Nat.succ_ne_zero _) rfl) ?_|refine g_o (op_indexN (α:=Int) (d:=0) rfl (ev_ok rfl) (ev_ok rfl) (tgt rfl) rfl (tgt rfl) rfl (by omega)) ?_);conv=>whnf));(first|exact Recast.refl _|exact Frz.recast (Recast.refl _) rfl|(refine Frz.one rfl rfl ?_;skip)|(refine Frz.tup ?_;skip))
  |false=>
   (repeat((first|refine tst_tt t1 ?_|refine tst_ff hp ?_|refine g_o (op_loadA rfl (ev_ok rfl) (tgt rfl) rfl (Nat.succ_ne_zero _) rfl) ?_|refine g_o (op_indexN (α:=Int) (d:=0) rfl (ev_ok rfl) (ev_ok rfl) (tgt rfl) rfl (tgt rfl) rfl (by omega)) ?_|rw[t1]|rw[t2]|rw[hp]);conv=>whnf))
   exact⟨l.length - (i+1),fun k=>k,[0,1,4,6,7,8],[],by omega,by kernel_rfl,i+1,rfl,hlt,by simp,rfl,rfl⟩
 ·have t1:decide (((i:Nat):Int)<((l.length:Nat):Int))=false:=decide_eq_false (by omega)
  rw[hx,List.drop_of_length_le (by omega)]
  (repeat(first|(refine tst_ff t1 ?_;conv=>whnf)));(first|exact Recast.refl _|exact Frz.recast (Recast.refl _) rfl|(refine Frz.one rfl rfl ?_;skip)|(refine Frz.tup ?_;skip))
theorem g_IxIc (v:Int) (l:List Int) (hl:l.length<1099511627776):CallOK Tryz.prog 107 [mvec 1 (iel .i64) l,(iel .i64) v] [] (.val (.bool (l.any (fun x=>v==x)))) [] []:=by
 have k1:=g_IxI v l hl
 rw[←idxF_any (fun x=>v==x) l 0]
 refine callV (Z:=[]) tabOK mixedOK Tryz.func107 rfl (by kernel_rfl) rfl rfl (by kernel_rfl) rfl ?_
 intro W0 w0 ρ0 hE
 conv=>whnf
 (repeat(first|(refine g_c (by assumption) ?_;conv=>whnf)));(first|exact Recast.refl _|exact Frz.recast (Recast.refl _) rfl|(refine Frz.one rfl rfl ?_;skip)|(refine Frz.tup ?_;skip))
theorem w_iv3 (a b c:Int):∀x∈[iv a,iv b,iv c],x.width=1:=fun x hx=>by
 simp only[List.mem_cons,List.not_mem_nil,or_false]at hx
 rcases hx with rfl|rfl|rfl<;>rfl
theorem z_tri (a b c:Int):∀ρ z,HasZ ρ [triA (a,b,c)] z→∃z',HasZ ρ [iv a,iv b,iv c] z'∧z'.flatten=z.flatten:=fun ρ z h=>by
 simp only[HasZ,HasC]at h
 obtain⟨_,_,rfl,⟨z',h1,rfl⟩,rfl⟩:=h
 refine⟨z', ?_,by simp⟩
 simpa only[HasZ,HasC]using h1
theorem m_apart (m:Me) (h:LvlOK 0 m) (hA:∀i k,i<m.ts.length→k<i→beyF (cor m i).1 (cor m i).2.1 (cor m i).2.2 [(cor m k).1,(cor m k).2.1,(cor m k).2.2]=true∨beyF (cor m k).1 (cor m k).2.1 (cor m k).2.2 [(cor m i).1,(cor m i).2.1,(cor m i).2.2]=true)
  (hB:∀i (p:Nat),i<m.ts.length→p<m.ps.length→[(gt m.ts i).1,(gt m.ts i).2.1,(gt m.ts i).2.2].any (fun x=>(p:Int)==x)=false→whT m (gp m.ps p) i=0):
  CallOK Tryz.prog 64 [meA m] [] (.val (.bool true)) [] []:=by
 have hok:=h.good.ok
 have hpos:=h.good.pos
 have hpb:=h.pb
 have htl:=h.tl
 have hpl:=h.pl
 have kcr:∀i,i<m.ts.length→CallOK Tryz.prog 105 [meA m,iv (i:Nat)] [] (.agg [ptA (cor m i).1,ptA (cor m i).2.1,ptA (cor m i).2.2]) [] []:=fun i hi=>m_corners m i hi (hok.at hi)
 have kby:∀i k,CallOK Tryz.prog 106 [.agg [ptA (cor m i).1,ptA (cor m i).2.1,ptA (cor m i).2.2],.agg [ptA (cor m k).1,ptA (cor m k).2.1,ptA (cor m k).2.2]] [] (.val (.bool (beyF (cor m i).1 (cor m i).2.1 (cor m i).2.2 [(cor m k).1,(cor m k).2.1,(cor m k).2.2]))) [] []:=fun i k=>m_beyond (hpb _) (hpb _) (hpb _) (hpb _) (hpb _) (hpb _) (by decide)
 have kwh:∀i (p:Nat),i<m.ts.length→CallOK Tryz.prog 34 [ptA (cor m i).1,ptA (cor m i).2.1,ptA (cor m i).2.2,ptA (gp m.ps p)] [] (iv (whT m (gp m.ps p) i)) [] []:=fun i p hi=>t_Where (hpb _) (hpb _) (hpb _) (hpb _) (by decide) (by have:=hpos i hi;unfold twP at this;unfold cor;simp only;grind)
 clear h hok hpos hpb
 refine callF (Z:=[1,100009,100015]) tabOK mixedOK Tryz.func64 rfl (by kernel_rfl) (by first|rfl|(simp[keylessL,keyless,keylessL_map, *];done)) (by first|rfl|(simp[keylessL,keyless,keylessL_map, *];done)) (by kernel_rfl) rfl ?_
 intro w0 ρ0 hE
 conv=>whnf
 (repeat(first|(refine g_o (op_lenM rfl rfl rfl (ev_ok rfl) (tgt rfl) rfl) ?_;conv=>whnf)|(refine g_o (op_loadA rfl (ev_ok rfl) (tgt rfl) rfl (Nat.succ_ne_zero _) rfl) ?_;conv=>whnf)|(refine g_o (op_fieldA rfl (ev_ok rfl) (tgt rfl) rfl rfl (Nat.succ_ne_zero _) rfl) ?_;conv=>whnf)))
 refine SW_loopN hE (fun k=>k) [1,10,11,12] [] (fun M fr hp=>∃i,M=m.ts.length - i∧i≤m.ts.length∧fr=[(1,ptrA [mvec 10 ptA m.ps,mvec 3 triA m.ts,mvec 3 triA m.ss]),(10,mvec 3 triA m.ts),(11,iv (m.ts.length:Nat)),(12,iv (i:Nat))]∧hp=[]) m.ts.length ?_ ?_ ?_
 ·kernel_rfl
 ·exact⟨0,rfl,by omega,rfl,rfl⟩
 rintro M _ _ ⟨i,rfl,hi,rfl,rfl⟩
 by_cases hlt:i<m.ts.length
 ·have s1:=dlt hlt
  have wk:=winc (i:=i) (by omega)
  have kc:=kcr i hlt
  conv=>whnf
  (repeat((first|refine g_c (by assumption) ?_|refine tst_tt s1 ?_|refine g_o (op_loadA rfl (ev_ok rfl) (tgt rfl) rfl (Nat.succ_ne_zero _) rfl) ?_|rw[s1]);conv=>whnf))
  refine SW_loopN hE (fun k=>k) [1,3,4,10,11,12,18,19] [4] (fun M fr hp=>∃k,M=i - k∧k≤i∧fr=[(1,ptrA [mvec 10 ptA m.ps,mvec 3 triA m.ts,mvec 3 triA m.ss]),(3,iv (i:Nat)),(4,.ptr 4 0 0 0),(10,mvec 3 triA m.ts),(11,iv (m.ts.length:Nat)),(12,iv (i:Nat)),(18,iv (i:Nat)),(19,iv (k:Nat))]∧
   hp=[(4,⟨94,true,.one [ptA (cor m i).1,ptA (cor m i).2.1,ptA (cor m i).2.2]⟩)]) i ?_ ?_ ?_
  ·kernel_rfl
  ·exact⟨0,rfl,by omega,rfl,rfl⟩
  rintro M _ _ ⟨k,rfl,hk,rfl,rfl⟩
  by_cases hki:k<i
  ·have s2:=dlt hki
   have wk2:=winc (i:=k) (by omega)
   have kc2:=kcr k (by omega)
   have b1:=kby i k
   have b2:=kby k i
   have hAik:=hA i k hlt hki
   clear kcr kby kwh hA hB kc
   generalize beyF (cor m i).1 (cor m i).2.1 (cor m i).2.2 [(cor m k).1,(cor m k).2.1,(cor m k).2.2]=x at*
   generalize beyF (cor m k).1 (cor m k).2.1 (cor m k).2.2 [(cor m i).1,(cor m i).2.1,(cor m i).2.2]=y at*
   generalize cor m i=ci at*
   generalize cor m k=ck at*
   obtain⟨a1,a2,a3⟩:=ci
   obtain⟨c1,c2,c3⟩:=ck
   conv=>whnf
   (repeat((first|refine g_c (by assumption) ?_|refine tst_tt s2 ?_|refine g_o (op_loadA rfl (ev_ok rfl) (tgt rfl) rfl (Nat.succ_ne_zero _) rfl) ?_|rw[s2]);conv=>whnf))
   cases x with
   |true=>
    refine SWx_thn (fr1:= ?fr9) (hp1:= ?hp9) (fun K hK=>SWx_go hE ?ra9) ?rb9
    case ra9=>
     conv=>whnf
     (repeat(first|(refine step_w2 rfl rfl ?_;conv=>whnf)|(refine g_c (by assumption) ?_;conv=>whnf)|(refine g_o (op_pickF rfl (ev_ok rfl) (ev_ok rfl)) ?_;conv=>whnf)))
     exact hK
    conv=>whnf
    (repeat(first|(refine step_w2 rfl rfl ?_;conv=>whnf)|(rw[wk2];conv=>whnf)))
    exact⟨i - (k+1),fun k=>k,[1,3,4,10,11,12,18,19],[4],by omega,by kernel_rfl,k+1,rfl,by omega,rfl,rfl⟩
   |false=>
    obtain rfl:y=true:=by simpa using hAik
    refine SWx_thn (fr1:= ?fr10) (hp1:= ?hp10) (fun K hK=>SWx_go hE ?ra10) ?rb10
    case ra10=>
     conv=>whnf
     (repeat(first|(refine step_w1 rfl rfl ?_;conv=>whnf)|(refine g_c (by assumption) ?_;conv=>whnf)|(refine g_o (op_pickT rfl (ev_ok rfl) (ev_ok rfl)) ?_;conv=>whnf)))
     exact hK
    conv=>whnf
    (repeat(first|(refine step_w2 rfl rfl ?_;conv=>whnf)|(rw[wk2];conv=>whnf)))
    exact⟨i - (k+1),fun k=>k,[1,3,4,10,11,12,18,19],[4],by omega,by kernel_rfl,k+1,rfl,by omega,rfl,rfl⟩
  ·have s2:=dge hki
   conv=>whnf
   (repeat((first|refine tst_ff s2 ?_|refine g_o (op_lenM rfl rfl rfl (ev_ok rfl) (tgt rfl) rfl) ?_|refine g_o (op_loadA rfl (ev_ok rfl) (tgt rfl) rfl (Nat.succ_ne_zero _) rfl) ?_|refine g_o (op_fieldA rfl (ev_ok rfl) (tgt rfl) rfl rfl (Nat.succ_ne_zero _) rfl) ?_|rw[s2]);conv=>whnf))
   refine SW_loopN hE (fun k=>k) [1,3,4,10,11,12,37,38,39] [4] (fun M fr hp=>∃p,M=m.ps.length - p∧p≤m.ps.length∧fr=[(1,ptrA [mvec 10 ptA m.ps,mvec 3 triA m.ts,mvec 3 triA m.ss]),(3,iv (i:Nat)),(4,.ptr 4 0 0 0),(10,mvec 3 triA m.ts),(11,iv (m.ts.length:Nat)),(12,iv (i:Nat)),(37,mvec 10 ptA m.ps),(38,iv (m.ps.length:Nat)),(39,iv (p:Nat))]∧
    hp=[(4,⟨94,true,.one [ptA (cor m i).1,ptA (cor m i).2.1,ptA (cor m i).2.2]⟩)]) m.ps.length ?_ ?_ ?_
   ·kernel_rfl
   ·exact⟨0,rfl,by omega,rfl,rfl⟩
   rintro M _ _ ⟨p,rfl,hp,rfl,rfl⟩
   by_cases hpl2:p<m.ps.length
   ·have s3:=dlt hpl2
    have wk3:=winc (i:=p) (by omega)
    have kw:=kwh i p hlt
    have hBp:=hB i p hlt hpl2
    have kin:=g_IxIc (p:Int) [(gt m.ts i).1,(gt m.ts i).2.1,(gt m.ts i).2.2] (by simp)
    have hg:m.ts.getD i (0,0,0)=gt m.ts i:=rfl
    have hgp:m.ps.getD p (0,0)=gp m.ps p:=rfl
    clear kcr kby kwh hA hB kc
    generalize cor m i=ci at*
    generalize gp m.ps p=q at*
    generalize whT m q i=wv at*
    generalize hgt:gt m.ts i=t at*
    obtain⟨a1,a2,a3⟩:=ci
    obtain⟨t1,t2,t3⟩:=t
    simp only at hBp kin kw
    generalize [t1,t2,t3].any (fun x=>(p:Int)==x)=inb at*
    conv=>whnf
    (repeat((first|refine tst_tt s3 ?_|refine g_o (op_loadA rfl (ev_ok rfl) (tgt rfl) rfl (Nat.succ_ne_zero _) rfl) ?_|refine g_o (op_indexM (α:=Pt) (d:=(0,0)) rfl (ev_ok rfl) (ev_ok rfl) (tgt rfl) rfl (tgt rfl) rfl (by omega)) ?_|rw[s3]|rw[hgp]|rw[Int.toNat_natCast]);conv=>whnf))
    cases inb with
    |true=>
     refine SWx_thn (fr1:= ?fr15) (hp1:= ?hp15) (fun K hK=>SWx_go hE ?ra15) ?rb15
     case ra15=>
      conv=>whnf
      (repeat((first|refine step_w2 rfl rfl ?_|refine g_c (by assumption) ?_|refine g_o (op_pickF rfl (ev_ok rfl) (ev_ok rfl)) ?_|refine g_o (op_loadA rfl (ev_ok rfl) (tgt rfl) rfl (Nat.succ_ne_zero _) rfl) ?_|refine g_o (op_fieldA rfl (ev_ok rfl) (tgt rfl) rfl rfl (Nat.succ_ne_zero _) rfl) ?_|refine g_o (op_indexN (α:=T3) (d:=(0,0,0)) rfl (ev_ok rfl) (ev_ok rfl) (tgt rfl) rfl (tgt rfl) rfl (by omega)) ?_|refine g_o (op_sliceArr (w:=1) (xs:=[iv t1,iv t2,iv t3]) rfl (ev_ok rfl) (tgt rfl) rfl (tgt rfl) rfl rfl (w_iv3 t1 t2 t3) (z_tri t1 t2 t3)) ?_|rw[hg]);conv=>whnf))
      exact hK
     conv=>whnf
     (repeat(first|(refine step_w2 rfl rfl ?_;conv=>whnf)|(rw[wk3];conv=>whnf)))
     exact⟨m.ps.length - (p+1),fun k=>k,[1,3,4,10,11,12,37,38,39],[4],by omega,by kernel_rfl,p+1,rfl,by omega,rfl,rfl⟩
    |false=>
     obtain rfl:wv=0:=hBp rfl
     refine SWx_thn (fr1:= ?fr16) (hp1:= ?hp16) (fun K hK=>SWx_go hE ?ra16) ?rb16
     case ra16=>
      conv=>whnf
      (repeat((first|refine step_w1 rfl rfl ?_|refine step_oA (by first|omega|decide|(simp only[tl1,dlen,List.length_replicate,List.length_set,List.length_map,List.length_zipWith,List.length_take,List.length_append,List.length_cons,List.length_nil];omega)) ?_|refine g_c (by assumption) ?_|refine g_o (op_pickT rfl (ev_ok rfl) (ev_ok rfl)) ?_|rw[bne_self_eq_false]|refine g_o (op_loadA rfl (ev_ok rfl) (tgt rfl) rfl (Nat.succ_ne_zero _) rfl) ?_|refine g_o (op_fieldA rfl (ev_ok rfl) (tgt rfl) rfl rfl (Nat.succ_ne_zero _) rfl) ?_|refine g_o (op_indexN (α:=T3) (d:=(0,0,0)) rfl (ev_ok rfl) (ev_ok rfl) (tgt rfl) rfl (tgt rfl) rfl (by omega)) ?_|refine g_o (op_sliceArr (w:=1) (xs:=[iv t1,iv t2,iv t3]) rfl (ev_ok rfl) (tgt rfl) rfl (tgt rfl) rfl rfl (w_iv3 t1 t2 t3) (z_tri t1 t2 t3)) ?_|rw[hg]|rw[Nat.zero_add]);conv=>whnf))
      exact hK
     conv=>whnf
     (repeat(first|(refine step_w2 rfl rfl ?_;conv=>whnf)|(rw[wk3];conv=>whnf)))
     exact⟨m.ps.length - (p+1),fun k=>k,[1,3,4,10,11,12,37,38,39],[4],by omega,by kernel_rfl,p+1,rfl,by omega,rfl,rfl⟩
   ·have s3:=dge hpl2
    conv=>whnf
    (repeat(first|(refine tst_ff s3 ?_;conv=>whnf)|(rw[s3];conv=>whnf)|(rw[wk];conv=>whnf)))
    exact⟨m.ts.length - (i+1),fun k=>k,[1,10,11,12],[],by omega,by kernel_rfl,i+1,rfl,by omega,rfl,rfl⟩
 ·have s1:=dge hlt
  conv=>whnf
  (repeat(first|(refine tst_ff s1 ?_;conv=>whnf)))
  (first|exact Recast.refl _|exact Frz.recast (Recast.refl _) rfl|(refine Frz.one rfl rfl ?_;skip)|(refine Frz.tup ?_;skip))
end Go.Proofs.YthaeohlijigplaaGreat
