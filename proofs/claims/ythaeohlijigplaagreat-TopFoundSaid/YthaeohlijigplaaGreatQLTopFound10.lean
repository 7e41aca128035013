/- The texts W8, Fs, Fr, Shelf, Fu. -/
import Derived.Shelf.SlSortCmp.WholeK
import Derived.Lib.QuietBelow
import Derived.Shelf.SlGeneric
import Derived.Ground.SlsfProg
import Derived.Test.YthaeohlijigplaaGreatProg
import Derived.Test.YthaeohlijigplaaGreatQLTopFound8
import Derived.Test.YthaeohlijigplaaGreatQLTopFound7
import Derived.Test.YthaeohlijigplaaGreatQLTopFound5
import Derived.Test.YthaeohlijigplaaGreatQLTopFound2
namespace Go.Proofs.YthaeohlijigplaaGreat
open Go.Sx
set_option linter.unusedSimpArgs false
set_option linter.unusedVariables false
set_option maxRecDepth 100000
set_option maxHeartbeats 64000000
abbrev q1A (n d:Int):SV:=.agg [iv n,.val (.int .u32 d)]
theorem k_QOf (n d:Int) (hn: -1000000≤n∧n≤1000000) (hd:1≤d∧d≤100):CallOK Tryz.prog 75 [q1A n d] [] (.frac ((n:Rat)/(d:Rat))) [] []:=by
 have e1:(if (1:Int)>d then 1 else d)=d:=if_neg (by omega)
 have e2:IntKind.i64.wrap (if (1:Int)>d then 1 else d)=d:=by rw[e1];exact wrap_i64 (by omega) (by omega)
 have g2:=fs_int (n:=n) (by omega) (by omega)
 have g3:=fs_int (n:=d) (by omega) (by omega)
 have k1:=c_fOf natBig n d (by unfold fs at g2 g3;omega) (by omega) (by omega) (by omega) (by omega) (by omega)
 refine callV (Z:=[]) tabOK mixedOK Tryz.func75 rfl (by kernel_rfl) rfl rfl (by kernel_rfl) rfl ?_
 intro W0 w0 ρ0 hE
 conv=>whnf
 (repeat(first|(refine g_c (by assumption) ?_;conv=>whnf)|(rw[e2];conv=>whnf)));(first|exact Recast.refl _|exact Frz.recast (Recast.refl _) rfl|(refine Frz.one rfl rfl ?_;skip)|(refine Frz.tup ?_;skip))
def ptD (d:Int) (p:I2):Pt:=((p.1:Rat)/(d:Rat),(p.2:Rat)/(d:Rat))
theorem k_POf (p:I2) (d:Int) (h1: -1000000≤p.1∧p.1≤1000000) (h2: -1000000≤p.2∧p.2≤1000000) (hd:1≤d∧d≤100):CallOK Tryz.prog 39 [.agg [q1A p.1 d,q1A p.2 d]] [] (ptA (ptD d p)) [] []:=by
 have k1:=k_QOf p.1 d h1 hd
 have k2:=k_QOf p.2 d h2 hd
 unfold ptD
 generalize (p.1:Rat)/(d:Rat)=x at*
 generalize (p.2:Rat)/(d:Rat)=y at*
 refine callV (Z:=[1]) tabOK mixedOK Tryz.func39 rfl (by kernel_rfl) rfl rfl (by kernel_rfl) rfl ?_
 intro W0 w0 ρ0 hE
 conv=>whnf
 (repeat((first|refine step_i (by kernel_rfl) ?_|refine g_c (by assumption) ?_|refine g_o (op_loadA rfl (ev_ok rfl) (tgt rfl) rfl (Nat.succ_ne_zero _) rfl) ?_|refine g_o (op_fieldA rfl (ev_ok rfl) (tgt rfl) rfl rfl (Nat.succ_ne_zero _) rfl) ?_);conv=>whnf));(first|exact Recast.refl _|exact Frz.recast (Recast.refl _) rfl|(refine Frz.one rfl rfl ?_;skip)|(refine Frz.tup ?_;skip))
def denM (x:M6):Int:=x.den.tmod 6+1
abbrev pB (l:List Pt):Blk:=⟨54,true,.seq 10 (l.map ptA)⟩
abbrev sB (l:List T3):Blk:=⟨112,true,.seq 3 (l.map triA)⟩
theorem app_pB (l:List Pt) (t:Pt):pB (l++[t])=⟨54,true,.seq 10 (List.take l.length (l.map ptA)++List.take 1 (List.drop 0 [ptA t]))⟩:=by
 rw[pB,List.map_append,List.take_of_length_le (by simp)];rfl
theorem app_sB (l:List T3) (t:T3):sB (l++[t])=⟨112,true,.seq 3 (List.take l.length (l.map triA)++List.take 1 (List.drop 0 [triA t]))⟩:=by
 rw[sB,List.map_append,List.take_of_length_le (by simp)];rfl
theorem take_mapG {α β:Type} (f:α→β) (d:α) {l:List α} {j:Nat} (h:j<l.length):(l.take (j+1)).map f=(l.take j).map f++[f (l.getD j d)]:=by
 rw[List.take_add_one,List.getD_eq_getElem?_getD,List.getElem?_eq_getElem h,List.map_append];rfl
theorem m_Mesh0 (x:M6) (hx:x.OK) (ps:List I2) (ts ss:List T3) (hp:∀p∈ps,(-1000000≤p.1∧p.1≤1000000)∧(-1000000≤p.2∧p.2≤1000000)) (hpl:ps.length<1000) (hsl:ss.length<100000)
  (kw:CallOK Tryz.prog 38 [m6A x] [] (.agg [mvec 2 p2A ps,mvec 3 triA ts,mvec 3 triA ss]) [] []):
  CallOK Tryz.prog 14 [m6A x] [] (meA ⟨ps.map (ptD (denM x)),ts,ss⟩) [] []:=by
 have hd6:0≤x.den.tmod 6∧x.den.tmod 6<6:=⟨Int.tmod_nonneg _ hx.den.1,Int.tmod_lt_of_pos _ (by decide)⟩
 have w1:IntKind.u8.wrap (1+x.den.tmod 6)=denM x:=by rw[wrap_u8c (by omega) (by omega),denM];omega
 have w2:IntKind.u32.wrap (denM x)=denM x:=wrap_u32 (by unfold denM;omega) (by unfold denM;omega)
 have hD:1≤denM x∧denM x≤100:=by unfold denM;omega
 generalize denM x=D at*
 refine callF (Z:=[1,100007,100008,100009,100013,100014]) tabOK mixedOK Tryz.func14 rfl (by kernel_rfl) (by first|rfl|(simp[keylessL,keyless,keylessL_map, *];done)) (by first|rfl|(simp[keylessL,keyless,keylessL_map, *];done)) (by kernel_rfl) rfl ?_
 intro w0 ρ0 hE
 conv=>whnf
 (repeat((first|refine step_oN (by first|omega|decide|(simp only[tl1,dlen,List.length_replicate,List.length_set,List.length_map,List.length_zipWith,List.length_take,List.length_append,List.length_cons,List.length_nil];omega)) ?_|refine g_c (by assumption) ?_|refine g_o (op_loadA rfl (ev_ok rfl) (tgt rfl) rfl (Nat.succ_ne_zero _) rfl) ?_|refine g_o (op_fieldA rfl (ev_ok rfl) (tgt rfl) rfl rfl (Nat.succ_ne_zero _) rfl) ?_|rw[w1]|rw[w2]);conv=>whnf))
 refine SWx_adoptB (j:=4) (k:=2001) (s:=10) (p:=0) (blk:=pB []) rfl rfl rfl rfl rfl ?_
 refine SW_loopN hE (fun k=>k) [2,3,4,5,6] [2,3,4,2001] (fun M fr hp=>∃i,M=ps.length - i∧i≤ps.length∧fr=[(2,.ptr 2 0 0 0),(3,.ptr 3 0 0 0),(4,.ptr 4 0 0 0),(5,.val (.int .u32 D)),(6,iv (i:Nat))]∧
  hp=[(2,⟨35,true,.one [.val (.slice none 0 0),.val (.slice none 0 0),.val (.slice none 0 0)]⟩),(3,⟨102,true,.one [mvec 2 p2A ps,mvec 3 triA ts,mvec 3 triA ss]⟩),(4,⟨35,true,.one [.slc 2001 10 0 i,.val (.slice none 0 0),.val (.slice none 0 0)]⟩),(2001,pB ((ps.take i).map (ptD D)))]) ps.length ?_ ?_ ?_
 ·kernel_rfl
 ·exact⟨0,rfl,by omega,rfl,rfl⟩
 rintro M _ _ ⟨i,rfl,hi,rfl,rfl⟩
 by_cases hlt:i<ps.length
 ·have s1:=dlt hlt
  have wk:=winc (i:=i) (by omega)
  have hpi:=hp _ (List.getElem_mem hlt)
  have hgi:ps.getD i (0,0)=ps[i]:=by rw[List.getD_eq_getElem?_getD,List.getElem?_eq_getElem hlt];rfl
  have hsn:=take_mapG (ptD D) (0,0) hlt
  rw[hgi]at hsn
  have hil:((ps.take i).map (ptD D)).length=i:=by rw[List.length_map,List.length_take];omega
  generalize ps[i]=p at*
  have kp:=k_POf p D hpi.1 hpi.2 hD
  have hap:=app_pB ((ps.take i).map (ptD D)) (ptD D p)
  rw[hil,←hsn]at hap
  conv=>whnf
  (repeat((first|refine tst_tt s1 ?_|refine g_o (op_lenM rfl rfl rfl (ev_ok rfl) (tgt rfl) rfl) ?_|rw[s1]|rw[Nat.zero_add]);conv=>whnf))
  refine SWx_thn (fr1:= ?fr7) (hp1:= ?hp7) (fun K hK=>SWx_go hE ?ra7) ?rb7
  case ra7=>
   conv=>whnf
   (repeat((first|refine step_i (by kernel_rfl) ?_|refine g_o (op_loadA rfl (ev_ok rfl) (tgt rfl) rfl (Nat.succ_ne_zero _) rfl) ?_|refine g_o (op_indexN (α:=Int×Int) (d:=(0,0)) rfl (ev_ok rfl) (ev_ok rfl) (tgt rfl) rfl (tgt rfl) rfl (by omega)) ?_|refine g_o (op_indexArrA rfl (ev_ok rfl) (ev_ok rfl) (tgt rfl) rfl (tgt rfl) (by omega) (by omega) (Nat.succ_ne_zero _) rfl) ?_|rw[hgi]|rw[Nat.zero_add]);conv=>whnf))
   exact hK
  conv=>whnf
  skip
  refine SWx_thn (fr1:= ?fr8) (hp1:= ?hp8) (fun K hK=>SWx_go hE ?ra8) ?rb8
  case ra8=>
   conv=>whnf
   (repeat((first|refine step_i (by kernel_rfl) ?_|refine step_oA (by first|omega|decide|(simp only[tl1,dlen,List.length_replicate,List.length_set,List.length_map,List.length_zipWith,List.length_take,List.length_append,List.length_cons,List.length_nil];omega)) ?_|refine g_c (by assumption) ?_|rw[Nat.zero_add]);conv=>whnf))
   exact hK
  conv=>whnf
  (repeat(first|(rw[wk];conv=>whnf)))
  exact⟨ps.length - (i+1),renBy [(45,2001)],[2,3,4,5,6],[2,3,4,45],by omega,by kernel_rfl,i+1,rfl,by omega,rfl,by rw[hap];rfl⟩
 ·have s1:=dge hlt
  obtain rfl:i=ps.length:=by omega
  rw[List.take_length]
  have hpl2:(ps.map (ptD D)).length=ps.length:=List.length_map ..
  generalize ps.map (ptD D)=qs at*
  conv=>whnf
  (repeat((first|refine tst_ff s1 ?_|refine g_o (op_lenM rfl rfl rfl (ev_ok rfl) (tgt rfl) rfl) ?_|rw[s1]|rw[Nat.zero_add]);conv=>whnf))
  refine SWx_freezeB (xs:=qs.map ptA) 4 0 2001 (fun _ h=>h) rfl (by decide) rfl rfl ?fz1 ?fz2 ?fz3
  case fz1=>exact keylessL_map (fun _=>rfl) _
  case fz2=>rw[List.length_map];exact hpl2.symm
  refine SWx_go hE ?_
  conv=>whnf
  (repeat(first|(rw[Nat.zero_add];conv=>whnf)))
  refine SWx_adoptB (j:=4) (k:=2002) (s:=3) (p:=2) (blk:=sB []) rfl rfl rfl rfl rfl ?_
  refine SW_loopN hE (fun k=>k) [2,3,4,8] [2,3,4,2002] (fun M fr hp=>∃i,M=ss.length - i∧i≤ss.length∧fr=[(2,.ptr 2 0 0 0),(3,.ptr 3 0 0 0),(4,.ptr 4 0 0 0),(8,iv (i:Nat))]∧
   hp=[(2,⟨35,true,.one [.val (.slice none 0 0),.val (.slice none 0 0),.val (.slice none 0 0)]⟩),(3,⟨102,true,.one [mvec 2 p2A ps,mvec 3 triA ts,mvec 3 triA ss]⟩),(4,⟨35,true,.one [mvec 10 ptA qs,mvec 3 triA ts,.slc 2002 3 0 i]⟩),(2002,sB (ss.take i))]) ss.length ?_ ?_ ?_
  ·kernel_rfl
  ·exact⟨0,rfl,by omega,rfl,rfl⟩
  rintro M _ _ ⟨i,rfl,hi,rfl,rfl⟩
  by_cases hlt:i<ss.length
  ·have s1:=dlt hlt
   have wk:=winc (i:=i) (by omega)
   have hgi:ss.getD i (0,0,0)=ss[i]:=by rw[List.getD_eq_getElem?_getD,List.getElem?_eq_getElem hlt];rfl
   have hsn:ss.take (i+1)=ss.take i++[ss[i]]:=by rw[List.take_add_one,List.getElem?_eq_getElem hlt];rfl
   have hil:(ss.take i).length=i:=by rw[List.length_take];omega
   generalize ss[i]=p at*
   have hap:=app_sB (ss.take i) p
   rw[hil,←hsn]at hap
   conv=>whnf
   (repeat((first|refine tst_tt s1 ?_|refine g_o (op_lenM rfl rfl rfl (ev_ok rfl) (tgt rfl) rfl) ?_|rw[s1]|rw[Nat.zero_add]);conv=>whnf))
   refine SWx_thn (fr1:= ?fr13) (hp1:= ?hp13) (fun K hK=>SWx_go hE ?ra13) ?rb13
   case ra13=>
    conv=>whnf
    (repeat((first|refine step_i (by kernel_rfl) ?_|refine step_oA (by first|omega|decide|(simp only[tl1,dlen,List.length_replicate,List.length_set,List.length_map,List.length_zipWith,List.length_take,List.length_append,List.length_cons,List.length_nil];omega)) ?_|refine g_o (op_loadA rfl (ev_ok rfl) (tgt rfl) rfl (Nat.succ_ne_zero _) rfl) ?_|refine g_o (op_indexArrA rfl (ev_ok rfl) (ev_ok rfl) (tgt rfl) rfl (tgt rfl) (by omega) (by omega) (Nat.succ_ne_zero _) rfl) ?_|refine g_o (op_indexN (α:=T3) (d:=(0,0,0)) rfl (ev_ok rfl) (ev_ok rfl) (tgt rfl) rfl (tgt rfl) rfl (by omega)) ?_|rw[hgi]|rw[Nat.zero_add]);conv=>whnf))
    exact hK
   conv=>whnf
   (repeat(first|(rw[wk];conv=>whnf)))
   exact⟨ss.length - (i+1),renBy [(79,2002)],[2,3,4,8],[2,3,4,79],by omega,by kernel_rfl,i+1,rfl,by omega,rfl,by rw[hap];rfl⟩
  ·have s1:=dge hlt
   obtain rfl:i=ss.length:=by omega
   rw[List.take_length]
   conv=>whnf
   (repeat((first|refine tst_ff s1 ?_|refine g_o (op_lenM rfl rfl rfl (ev_ok rfl) (tgt rfl) rfl) ?_|rw[s1]|rw[Nat.zero_add]);conv=>whnf))
   refine SWx_freezeB (xs:=ss.map triA) 4 2 2002 (fun _ h=>h) rfl (by decide) rfl rfl (keylessL_map (fun _=>rfl) _) (by simp) ?_
   refine SWx_go hE ?_
   conv=>whnf
   skip
   (first|exact Recast.refl _|exact Frz.recast (Recast.refl _) rfl|(refine Frz.one rfl rfl ?_;skip)|(refine Frz.tup ?_;skip))
end Go.Proofs.YthaeohlijigplaaGreat
namespace Go.Proofs.YthaeohlijigplaaGreat
open Go.Sx
set_option linter.unusedSimpArgs false
set_option linter.unusedVariables false
set_option maxRecDepth 100000
set_option maxHeartbeats 8000000
def cmpI (a b:Int):Int:=if a<b then -1 else if b<a then 1 else 0
theorem c_isNaN (a:Int):CallOK Tryz.prog 156 [iv a] [] (.val (.bool false)) [] []:=by
 have h:(a != a)=false:=by simp
 refine callV (Z:=[]) tabOK mixedOK Tryz.func156 rfl (by kernel_rfl) rfl rfl (by kernel_rfl) rfl ?_
 intro W0 w0 ρ0 hE
 conv=>whnf
 (repeat(first|(rw[bne_self_eq_false];conv=>whnf)));(first|exact Recast.refl _|exact Frz.recast (Recast.refl _) rfl|(refine Frz.one rfl rfl ?_;skip)|(refine Frz.tup ?_;skip))
theorem c_Compare (a b:Int):CallOK Tryz.prog 138 [iv a,iv b] [] (iv (cmpI a b)) [] []:=by
 have k1:=c_isNaN a
 have k2:=c_isNaN b
 by_cases h:a<b
 ·have e:cmpI a b= -1:=by simp[cmpI,h]
  have t1:decide (a<b)=true:=decide_eq_true h
  rw[e]
  refine callV (Z:=[]) tabOK mixedOK Tryz.func138 rfl (by kernel_rfl) rfl rfl (by kernel_rfl) rfl ?_
  intro W0 w0 ρ0 hE
  conv=>whnf
  (repeat((first|refine step_w1 rfl rfl ?_|refine step_w2 rfl rfl ?_|refine g_c (by assumption) ?_|rw[t1]);conv=>whnf));(first|exact Recast.refl _|exact Frz.recast (Recast.refl _) rfl|(refine Frz.one rfl rfl ?_;skip)|(refine Frz.tup ?_;skip))
 ·have t1:decide (a<b)=false:=decide_eq_false h
  by_cases h2:b<a
  ·have e:cmpI a b=1:=by simp[cmpI,h,h2]
   have t2:decide (a>b)=true:=decide_eq_true h2
   rw[e]
   refine callV (Z:=[]) tabOK mixedOK Tryz.func138 rfl (by kernel_rfl) rfl rfl (by kernel_rfl) rfl ?_
   intro W0 w0 ρ0 hE
   conv=>whnf
   (repeat((first|refine step_w1 rfl rfl ?_|refine step_w2 rfl rfl ?_|refine g_c (by assumption) ?_|rw[t1]|rw[t2]);conv=>whnf));(first|exact Recast.refl _|exact Frz.recast (Recast.refl _) rfl|(refine Frz.one rfl rfl ?_;skip)|(refine Frz.tup ?_;skip))
  ·have e:cmpI a b=0:=by simp[cmpI,h,h2]
   have t2:decide (a>b)=false:=decide_eq_false h2
   rw[e]
   refine callV (Z:=[]) tabOK mixedOK Tryz.func138 rfl (by kernel_rfl) rfl rfl (by kernel_rfl) rfl ?_
   intro W0 w0 ρ0 hE
   conv=>whnf
   (repeat((first|refine step_w2 rfl rfl ?_|refine g_c (by assumption) ?_|rw[t1]|rw[t2]);conv=>whnf));(first|exact Recast.refl _|exact Frz.recast (Recast.refl _) rfl|(refine Frz.one rfl rfl ?_;skip)|(refine Frz.tup ?_;skip))
theorem c_Or (a b:Int):CallOK Tryz.prog 137 [ivec .i64 [a,b]] [] (iv (if a≠0 then a else b)) [] []:=by
 refine callV (Z:=[]) tabOK mixedOK Tryz.func137 rfl (by kernel_rfl) rfl rfl (by kernel_rfl) rfl ?_
 intro W0 w0 ρ0 hE
 conv=>whnf
 (repeat(first|(refine g_o (op_lenM rfl rfl rfl (ev_ok rfl) (tgt rfl) rfl) ?_;conv=>whnf)))
 refine SW_loopN hE (fun k=>k) [2,3,6,7,8] [] (fun m fr hp=>∃(i:Nat),m=2 - i∧i≤2∧(0<i→a=0)∧(1<i→b=0)∧fr=[(2,iv 0),(3,iv 0),(6,ivec .i64 [a,b]),(7,iv 2),(8,iv (i:Nat))]∧hp=[]) 2 ?_ ?_ ?_
 ·kernel_rfl
 ·exact⟨0,rfl,by decide,by omega,by omega,rfl,rfl⟩
 rintro m _ _ ⟨i,rfl,hi,h1,h2,rfl,rfl⟩
 obtain rfl|rfl|rfl:i=0∨i=1∨i=2:=by omega
 all_goals conv=>whnf
 ·by_cases h:a=0
  ·subst h
   (repeat((first|refine step_w1 rfl rfl ?_|refine step_w2 rfl rfl ?_|rw[bne_self_eq_false]|refine g_o (op_loadA rfl (ev_ok rfl) (tgt rfl) rfl (Nat.succ_ne_zero _) rfl) ?_|refine g_o (op_indexA rfl (ev_ok rfl) (ev_ok rfl) (tgt rfl) rfl (tgt rfl) rfl (by omega) (by first|decide|(simp;done)|omega) rfl) ?_|rw[Int.toNat_natCast]);conv=>whnf))
   exact⟨1,fun k=>k,[2,3,6,7,8],[],by omega,by kernel_rfl,1,rfl,by decide,fun _=>rfl,by omega,rfl,rfl⟩
  ·have t2:(a != 0)=true:=by simpa using h
   rw[if_pos h]
   (repeat((first|refine step_w1 rfl rfl ?_|refine g_o (op_loadA rfl (ev_ok rfl) (tgt rfl) rfl (Nat.succ_ne_zero _) rfl) ?_|refine g_o (op_indexA rfl (ev_ok rfl) (ev_ok rfl) (tgt rfl) rfl (tgt rfl) rfl (by omega) (by first|decide|(simp;done)|omega) rfl) ?_|rw[t2]);conv=>whnf));(first|exact Recast.refl _|exact Frz.recast (Recast.refl _) rfl|(refine Frz.one rfl rfl ?_;skip)|(refine Frz.tup ?_;skip))
 ·have e:=h1 (by decide)
  subst e
  by_cases h:b=0
  ·subst h
   (repeat((first|refine step_w1 rfl rfl ?_|refine step_w2 rfl rfl ?_|rw[bne_self_eq_false]|refine g_o (op_loadA rfl (ev_ok rfl) (tgt rfl) rfl (Nat.succ_ne_zero _) rfl) ?_|refine g_o (op_indexA rfl (ev_ok rfl) (ev_ok rfl) (tgt rfl) rfl (tgt rfl) rfl (by omega) (by first|decide|(simp;done)|omega) rfl) ?_|rw[Int.toNat_natCast]);conv=>whnf))
   exact⟨0,fun k=>k,[2,3,6,7,8],[],by omega,by kernel_rfl,2,rfl,by decide,fun _=>rfl,fun _=>rfl,rfl,rfl⟩
  ·have t2:(b != 0)=true:=by simpa using h
   rw[if_neg (by simp)]
   (repeat((first|refine step_w1 rfl rfl ?_|refine g_o (op_loadA rfl (ev_ok rfl) (tgt rfl) rfl (Nat.succ_ne_zero _) rfl) ?_|refine g_o (op_indexA rfl (ev_ok rfl) (ev_ok rfl) (tgt rfl) rfl (tgt rfl) rfl (by omega) (by first|decide|(simp;done)|omega) rfl) ?_|rw[t2]);conv=>whnf));(first|exact Recast.refl _|exact Frz.recast (Recast.refl _) rfl|(refine Frz.one rfl rfl ?_;skip)|(refine Frz.tup ?_;skip))
 ·have e:=h1 (by decide)
  have e2:=h2 (by decide)
  subst e;subst e2
  rw[if_neg (by simp)]
  (repeat(first|(refine step_w2 rfl rfl ?_;conv=>whnf)));(first|exact Recast.refl _|exact Frz.recast (Recast.refl _) rfl|(refine Frz.one rfl rfl ?_;skip)|(refine Frz.tup ?_;skip))
def cmpE (x y:E4):Int:=if cmpI x.1 y.1≠0 then cmpI x.1 y.1 else cmpI x.2.1 y.2.1
theorem m_cmpE (x y:E4):CallOK Tryz.prog 136 [edA x,edA y] [] (iv (cmpE x y)) [] []:=by
 have k1:=c_Compare x.1 y.1
 have k2:=c_Compare x.2.1 y.2.1
 have k3:=c_Or (cmpI x.1 y.1) (cmpI x.2.1 y.2.1)
 refine callV (Z:=[15]) tabOK mixedOK Tryz.func136 rfl (by kernel_rfl) rfl rfl (by kernel_rfl) rfl ?_
 intro W0 w0 ρ0 hE
 conv=>whnf
 (repeat(first|(refine step_i (by kernel_rfl) ?_;conv=>whnf)|(refine g_c (by assumption) ?_;conv=>whnf)));(first|exact Recast.refl _|exact Frz.recast (Recast.refl _) rfl|(refine Frz.one rfl rfl ?_;skip)|(refine Frz.tup ?_;skip))
end Go.Proofs.YthaeohlijigplaaGreat
namespace Go.Sx
set_option linter.unusedSimpArgs false
set_option linter.unusedVariables false
open Go.Proofs Go.Shelf Go.RowKit Go.Sort Go.Lib
set_option maxRecDepth 100000
theorem sorted_uniq {α:Type} {lt:α→α→Prop}:∀{l1 l2:List α},l1.Perm l2→l2.Pairwise lt→l1.Pairwise (fun x y=>¬lt y x)→l1=l2
 |[],l2,hp,_,_=>by simpa using hp.nil_eq
 |b::s,[],hp,_,_=>by simpa using hp.length_eq
 |b::s,a::t,hp,h2,h1=>by
  by_cases hba:b=a
  ·subst hba
   rw[sorted_uniq ((List.perm_cons b).1 hp) (List.pairwise_cons.1 h2).2 (List.pairwise_cons.1 h1).2]
  ·exfalso
   have ha:a∈s:=by
    have:a∈b::s:=hp.mem_iff.2 (List.mem_cons_self ..)
    rcases List.mem_cons.1 this with h|h
    ·exact absurd h.symm hba
    ·exact h
   have hb:b∈t:=by
    have:b∈a::t:=hp.mem_iff.1 (List.mem_cons_self ..)
    rcases List.mem_cons.1 this with h|h
    ·exact absurd h hba
    ·exact h
   exact(List.pairwise_cons.1 h1).1 a ha ((List.pairwise_cons.1 h2).1 b hb)
theorem flat_get {β:Type} {k:Nat} (hk:0<k):∀(L:List (List β)),(∀r∈L,r.length=k)→∀t,L.flatten[t]? =(L[t/k]?).bind (·[t % k]?)
 |[],_,t=>by simp
 |r::L,h,t=>by
  have hr:=h r (List.mem_cons_self ..)
  rw[List.flatten_cons]
  by_cases ht:t<k
  ·rw[List.getElem?_append_left (by omega),Nat.div_eq_of_lt ht,Nat.mod_eq_of_lt ht];rfl
  ·rw[List.getElem?_append_right (by omega),hr,flat_get hk L (fun r h'=>h r (List.mem_cons_of_mem _ h'))]
   have e:t=(t - k)+k:=by omega
   have e1:t/k=(t - k)/k+1:=by conv=>lhs;rw[e]
                               exact Nat.add_div_right _ hk
   have e2:t % k=(t - k) % k:=by conv=>lhs;rw[e]
                                 exact Nat.add_mod_right _ _
   rw[e1,e2,List.getElem?_cons_succ]
theorem flatK_list {α:Type} [Inhabited α] {enc:α→List Value} {k:Nat} (hk0:0<k) (hk:∀x,(enc x).length=k) (d:Array α):flatK enc k d=(d.toList.map enc).flatten.toArray:=by
 have hl:((d.toList.map enc).flatten).length=d.size*k:=by
  rw[List.length_flatten,List.map_map]
  have:∀l:List α,(l.map (List.length∘enc)).sum=l.length*k:=by
   intro l
   induction l with
   |nil=>simp
   |cons a l ih=>simp[ih,hk,Nat.add_mul];omega
  rw[this,Array.length_toList]
 refine ext_get! (by simp only[size_flatK,List.size_toArray,hl]) fun t ht=> ?_
 have ht':t<d.size*k:=by simpa using ht
 rw[get_flatK _ _ _ _ ht']
 have hd:t/k<d.size:=(Nat.div_lt_iff_lt_mul hk0).2 ht'
 have hm:t % k<k:=Nat.mod_lt _ hk0
 have e:=flat_get hk0 (d.toList.map enc) (by intro r hr;obtain⟨x,_,rfl⟩:=List.mem_map.1 hr;exact hk x) t
 have e0:d.toList[t/k]? =some d[t/k]:=by rw[Array.getElem?_toList,Array.getElem?_eq_getElem hd]
 rw[List.getElem?_map,e0]at e
 simp only[Option.map_some,Option.bind_some]at e
 rw[getElem!_pos d _ hd]
 have hm':t % k<(enc d[t/k]).length:=by rw[hk];exact hm
 rw[getElem!_pos (enc d[t/k]) (t % k) hm']
 rw[List.getElem?_eq_getElem hm']at e
 obtain⟨h1,h2⟩:=List.getElem?_eq_some_iff.1 e
 rw[getElem!_pos ((d.toList.map enc).flatten.toArray) t (by simpa using h1)]
 simpa using h2.symm
theorem rows_pairs {α:Type} {ρ:Rho} {f:α→SV}:∀(l:List α) (z:List (List Value)),HasZ ρ (l.map f) z→∃ps:List (α×List Value),ps.map (·.1)=l∧ps.map (·.2)=z∧∀p∈ps,p.1∈l∧HasC ρ (f p.1) p.2
 |[],z,h=>by simp only[List.map_nil,HasZ]at h;subst h;exact⟨[],rfl,rfl,by simp⟩
 |a::l,z,h=>by
  simp only[List.map_cons,HasZ]at h
  obtain⟨x,r,rfl,h1,h2⟩:=h
  obtain⟨ps,p1,p2,p3⟩:=rows_pairs l r h2
  refine⟨(a,x)::ps,by simp[p1],by simp[p2], ?_⟩
  intro p hp
  rcases List.mem_cons.1 hp with rfl|hp
  ·exact⟨List.mem_cons_self ..,h1⟩
  ·exact⟨List.mem_cons_of_mem _ (p3 p hp).1,(p3 p hp).2⟩
theorem lift_sub {α:Type} {Q:α→Prop}:∀(ps:List α),(∀p∈ps,Q p)→∃dl:List {p//Q p},dl.map (fun p=>p.1)=ps
 |[],_=>⟨[],rfl⟩
 |p::ps,h=>by
  obtain⟨dl,e⟩:=lift_sub ps fun q hq=>h q (List.mem_cons_of_mem _ hq)
  exact⟨⟨p,h p (List.mem_cons_self ..)⟩::dl,by rw[List.map_cons,e]⟩
theorem hasZ_of {α:Type} {ρ:Rho} {f:α→SV}:∀(ps:List (α×List Value)),(∀p∈ps,HasC ρ (f p.1) p.2)→HasZ ρ ((ps.map (·.1)).map f) (ps.map (·.2))
 |[],_=>by simp[HasZ]
 |p::ps,h=>by
  simp only[List.map_cons,HasZ]
  exact⟨p.2,_,rfl,h p (List.mem_cons_self ..),hasZ_of ps fun q hq=>h q (List.mem_cons_of_mem _ hq)⟩
theorem putCells_front (vs vs' ex:List Value) (h:vs'.length=vs.length):putCells id 0 vs'.toArray (vs++ex).toArray=(vs'++ex).toArray:=by
 apply Array.ext_getElem?
 intro j
 simp only[putCells,Array.getElem?_mapIdx,List.getElem?_toArray,List.size_toArray,Nat.zero_add,Nat.zero_le,true_and,Nat.sub_zero,id]
 by_cases hj:j<vs.length
 ·rw[List.getElem?_append_left hj,List.getElem?_append_left (by omega),List.getElem?_eq_getElem hj,List.getElem?_eq_getElem (by omega)]
  simp only[Option.map_some]
  rw[if_pos (by omega),getElem!_pos _ _ (by simp;omega)]
  simp
 ·rw[List.getElem?_append_right (by omega),List.getElem?_append_right (by omega),h]
  cases ex[j - vs.length]? with
  |none=>rfl
  |some x=>simp only[Option.map_some];rw[if_neg (by omega)]
set_option maxHeartbeats 2000000 in
theorem call_sort {P:Program} {rn:Ren} {α:Type} (L:SlLaysF0.n6 P rn) (K k:Nat) (k0:0<k) (aE:∀w,(isAgg (rn.t 24)).run P w= .ok true w) (zE:∀w,(Go.sizeOf (rn.t 24)).run P w= .ok k w)
  (f:α→SV) (hw:∀x,(f x).width=k) (h1:∀x,(f x).isOne=false) (hkl:∀x,keyless (f x)=true) (cf:α→α→Int) (hO:SWO (ltOf cf)) (g:Nat) (eg:∀args w,(callFunc g args).run P w= .ok (.enter g args) w) (hg:FnOK P g) (hs:FnOK P (rn.f 6)) {l l':List α} (h0:l≠[]) (hlen:l.length<1099511627776)
  (hc:∀x∈l,∀y∈l,CallOK P g [f x,f y] [] (.val (.int .i64 (cf x y))) [] []) (hp:l'.Perm l) (hso:l'.Pairwise fun x y=>cf x y<0) {ty:TypeId}:
  CallOK P (rn.f 6) [.slc K k 0 l.length,.clo g [] []] [(K,⟨ty,true,.seq k (l.map f)⟩)] (.tup []) [] [(K,⟨ty,true,.seq k (l'.map f)⟩)]:=by
 refine .inl ⟨hs,fun ρ w z hz hpre=> ?_⟩
 simp only[HasZ,HasC]at hz
 obtain⟨x,_,rfl,hx,y,_,rfl,⟨fz,cz,rfl,rfl,rfl⟩,rfl⟩:=hz
 have hl0:l.length≠0:=by simpa using h0
 obtain⟨b,t,cap,e1,e2,e3,rfl⟩:=hx.resolve_right fun h=>hl0 h.1
 have hblkK:=hpre.hfk K _ (List.mem_cons_self ..)
 rcases hblkK with hd|⟨b',t',vs,ex,g1,g2,g3,g4,g5⟩|⟨g1,_⟩
 ·cases hd
 ·rw[e1]at g1;cases g1
  simp only[DataC]at g3
  obtain⟨z,z1,z2,z3⟩:=g3
  obtain⟨ps,p1,p2,p3⟩:=rows_pairs l z z1
  have himm:ρ.imm b=none:=hpre.immw K _ _ (List.mem_cons_self ..) rfl rfl e1
  have hb:b<w.heap.size:=(Array.getElem?_eq_some_iff.1 g2).1
  let β:={p:α×List Value//p.1∈l∧HasC (bareR ρ.imm ρ.glob) (f p.1) p.2}
  let enc:β→List Value:=fun p=>p.1.2
  let cf':β→β→Int:=fun p q=>cf p.1.1 q.1.1
  have hk':∀p:β,(enc p).length=k:=fun p=>by rw[(HasC.len _ _ p.2.2).1,hw]
  have h1':∀p:β,∀v∈enc p,v.oneCell'=true:=fun p=>(HasC.len _ _ p.2.2).2
  have hO':SWO (ltOf cf'):=⟨fun p=>hO.irrefl p.1.1,fun p q r=>hO.trans p.1.1 q.1.1 r.1.1,fun p q r=>hO.ntrans p.1.1 q.1.1 r.1.1⟩
  obtain⟨dl,d1⟩:∃dl:List β,dl.map (fun p=>p.1)=ps:=lift_sub ps p3
  have d2:dl.map enc=z:=by
   have e:dl.map enc=(dl.map (fun p=>p.1)).map (·.2):=(List.map_map ..).symm
   rw[e,d1,p2]
  have d3:dl.map (fun p=>p.1.1)=l:=by
   have e:dl.map (fun p=>p.1.1)=(dl.map (fun p=>p.1)).map (·.1):=(List.map_map ..).symm
   rw[e,d1,p1]
  have d4:dl.length=l.length:=by
   have e:=congrArg List.length d3
   rwa [List.length_map]at e
  have:Inhabited β:=⟨dl.head (by intro h;rw[h]at d4;exact hl0 d4.symm)⟩
  have hvs:(flatK enc k dl.toArray).toList=vs:=by
   rw[flatK_list k0 hk',z2,←d2]
  have hH:HoldsK enc k w b (0*k) dl.toArray:=by
   intro j hj
   have hj':j<vs.length:=by rw[←hvs];simpa using hj
   have hcell:w.heap[b]? =some (.cells (vs++ex).toArray ty (0,0)):=g2
   rw[Nat.zero_mul,Nat.zero_add]
   constructor
   ·simp only[World.cell?,hcell]
    simp only[Option.isSome_none,Bool.false_eq_true,if_false,List.getElem?_toArray]
    rw[List.getElem?_append_left hj',List.getElem?_eq_getElem hj',getElem!_pos (flatK enc k dl.toArray) j hj]
    simp only[id,←hvs,Array.getElem_toList]
   ·simp[World.frozen?,hcell]
  have hcmp:CmpLays P g #[] enc k cf' b (0*k) dl.toArray.size w:=by
   intro m os dk hdk p q
   have hW:PreW [] [] ρ (sortWorldK enc k w b (0*k) m dk os):=by
    refine⟨(fun _ _ h=>by cases h),(fun _ _ _ _ _ _ h=>by cases h),fun b' o ho=> ?_,(fun _ _ _ h=>by cases h),(fun _ _ h=>by cases h)⟩
    have hne:b'≠b:=fun h=>by rw[h,himm]at ho;cases ho
    have h':=hpre.imm b' o ho
    have hlt:b'<w.heap.size:=(Array.getElem?_eq_some_iff.1 h').1
    show((w.heap.modify b _)++os)[b']? =_
    rw[Array.getElem?_append_left (by simpa using hlt),Array.getElem?_modify,if_neg (fun h=>hne h.symm)]
    exact h'
   have hzz:HasZ ρ [f p.1.1,f q.1.1] [p.1.2,q.1.2]:=by
    simp only[HasZ]
    exact⟨_,_,rfl,HasC.mono (bareR_up ρ _) _ _ p.2.2,_,_,rfl,HasC.mono (bareR_up ρ _) _ _ q.2.2,rfl⟩
   have hcall:=CallOK.calls hg (hc p.1.1 p.2.1 q.1.1 q.2.1) hzz hW
   have ea:(List.zipWith mkV [f p.1.1,f q.1.1] [p.1.2,q.1.2]).toArray= #[.agg (enc p).toArray,.agg (enc q).toArray]++ #[]:=by
    simp[mkV,h1,enc]
   rw[ea]at hcall
   refine hcall.mono ?_
   rintro e w' ⟨v,ρ',rfl,hpo⟩
   rw[of_has_val hpo.has]
   refine⟨rfl, ?_⟩
   have hb2:=(hpo.pres.mono (W':=fun _=>False) (fun b _ ⟨k,blk,t,hm,_⟩=>by cases hm)).below
   obtain⟨pr,hpr⟩:=regrown_of_below hb2
   have hdr:=hpo.pres.drawn
   refine⟨w'.drawn - (sortWorldK enc k w b (0*k) m dk os).drawn,pr.os, ?_⟩
   have e2:w'.drawn=pr.d:=by rw[hpr];rfl
   have e3:(sortWorldK enc k w b (0*k) m dk os).drewN (w'.drawn - (sortWorldK enc k w b (0*k) m dk os).drawn)=redrawn (sortWorldK enc k w b (0*k) m dk os) pr.d:=by
    unfold World.drewN redrawn
    congr 1
    omega
   rw[e3];exact hpr
  have hcon:=AnyQ.slices_SortFunc L k aE zE enc hk' h1' cf' hO' g #[] b (0*k) cap dl.toArray w eg hcmp hH hb (by simp only[List.size_toArray];omega)
  have ea:(List.zipWith mkV [SV.slc K k 0 l.length,SV.clo g [] []] [[.slice (some ⟨b,0*k,none⟩) l.length cap],[.func (.func g) (List.zipWith mkV [] []).toArray (List.zipWith mkV [] []).toArray]]).toArray= #[.slice (some ⟨b,0*k,none⟩) dl.toArray.size cap,.func (.func g) #[] #[]]:=by
   simp[mkV,SV.isOne,d4]
  rw[ea]
  refine hcon.mono ?_
  rintro e w' ⟨rfl,d',n,os,hpm,hsr,rfl⟩
  obtain⟨q1,_,q3⟩:=hpm
  have hsz:d'.size=l.length:=by rw[q1,List.size_toArray,d4]
  have q3':d'.toList.Perm dl:=by
   have:d'.extract 0 dl.toArray.size=d':=by apply Array.extract_eq_self_of_le;rw[q1];exact Nat.le_refl _
   rw[this]at q3
   simpa using q3
  have hl':d'.toList.map (fun p=>p.1.1)=l':=by
   refine sorted_uniq (lt:=fun x y=>cf x y<0) ?_ hso ?_
   ·have h:=q3'.map (fun p:β=>p.1.1)
    rw[d3]at h
    exact h.trans hp.symm
   ·rw[List.pairwise_map,List.pairwise_iff_getElem]
    intro i j hi hj hij
    have hi':i<d'.size:=by simpa using hi
    have hj':j<d'.size:=by simpa using hj
    have h:=hsr i j (Nat.zero_le _) hij (by simp only[List.size_toArray,d4];omega)
    rw[getElem!_pos d' i hi',getElem!_pos d' j hj']at h
    simp only[ltOf,decide_eq_false_iff_not]at h
    simpa [cf']using h
  have hvl:((d'.toList.map enc).flatten).length=vs.length:=by
   have:=q3'.map enc
   have:=this.flatten.length_eq
   rw[this,d2,←z2]
  have hheap:(sortWorldK enc k w b (0*k) n d' os).heap[b]? =some (.cells ((d'.toList.map enc).flatten++ex).toArray ty (0,0)):=by
   have hcell:w.heap[b]? =some (.cells (vs++ex).toArray ty (0,0)):=g2
   show((w.heap.modify b _)++os)[b]? =_
   rw[Array.getElem?_append_left (by simpa using hb),Array.getElem?_modify,if_pos rfl]
   show(w.heap[b]?).map _=_
   rw[hcell]
   simp only[Option.map_some,onCells,Nat.zero_mul]
   rw[flatK_list k0 hk',putCells_front vs _ ex hvl]
  refine⟨_,ρ,rfl,.refl ρ, ?_,fun _ _=>rfl,⟨rfl,rfl,rfl, ?_, ?_, ?_⟩, ?_, ?_,(fun _ _ _ h=>by cases h),(fun _ _ _ _ _ _ h=>by cases h),fun b o h=>.inl h⟩
  ·simp only[Has];exact⟨[],by simp[HasZ],by simp⟩
  ·exact size_sortWorldK_c enc k w b (0*k) n d' os
  ·intro i hi hn
   have hne:i≠b:=fun h=>hn ⟨K,_,t,List.mem_cons_self ..,by rw[h];exact e1⟩
   show((w.heap.modify b _)++os)[i]? =_
   rw[Array.getElem?_append_left (by simpa using hi),Array.getElem?_modify,if_neg (fun h=>hne h.symm)]
  ·exact Nat.le_add_right _ _
  ·intro j bj hj
   rcases hj with hj|hj
   ·simp only[List.mem_singleton,Prod.mk.injEq]at hj
    obtain⟨rfl,rfl⟩:=hj
    refine .inr (.inl ⟨b,t,(d'.toList.map enc).flatten,ex,e1,hheap, ?_, ?_,g5⟩)
    ·simp only[DataC]
     refine⟨d'.toList.map enc, ?_,rfl, ?_⟩
     ·have h:=hasZ_of (ρ:=bareR ρ.imm ρ.glob) (f:=f) (d'.toList.map (fun p=>p.1)) (by
       intro p hp
       obtain⟨q,_,rfl⟩:=List.mem_map.1 hp
       exact q.2.2)
      rw[←hl']
      simpa [List.map_map,Function.comp_def,enc]using h
     ·intro x hx
      obtain⟨a,_,rfl⟩:=List.mem_map.1 hx
      exact hw a
    ·rw[List.length_append,hvl,←List.length_append];exact g4
   ·cases hj
  ·intro j c c' h1 h2 h3 h4
   simp only[List.mem_singleton,Prod.mk.injEq]at h1
   obtain⟨_,rfl⟩:=h1
   cases h3
 ·rw[e1]at g1;cases g1
end Go.Sx
namespace Go.Proofs
open Go.Shelf
def Tryz.sortEdge_ren:Go.Shelf.Ren:=⟨fun|6=>135|15=>130|14=>155|28=>141|29=>152|20=>164|21=>165|22=>166|23=>167|24=>168|25=>169|26=>170|27=>171|46=>174|47=>159|48=>160|49=>175|50=>176|57=>177|n=>n,fun|22=>150|24=>154|25=>221|3=>3|39=>131|0=>0|53=>104|55=>39|4=>4|46=>228|45=>227|50=>165|5=>5|9=>9|66=>238|70=>242|76=>249|77=>60|n=>n,fun|n=>n⟩
theorem Tryz.sortEdge:Go.Proofs.SlLaysF0.n6 Tryz.prog Tryz.sortEdge_ren:={
 mixed:=by kernel_rfl
 f6:=⟨Tryz.f135.name,by decide,Tryz.func135.trans (congrArg some (by kernel_rfl))⟩
 f14:=⟨Tryz.f155.name,by decide,Tryz.func155.trans (congrArg some (by kernel_rfl))⟩
 f15:=Tryz.func130.trans (congrArg some (by kernel_rfl))
 f20:=⟨Tryz.f164.name,by decide,Tryz.func164.trans (congrArg some (by kernel_rfl))⟩
 f21:=⟨Tryz.f165.name,by decide,Tryz.func165.trans (congrArg some (by kernel_rfl))⟩
 f22:=⟨Tryz.f166.name,by decide,Tryz.func166.trans (congrArg some (by kernel_rfl))⟩
 f23:=⟨Tryz.f167.name,by decide,Tryz.func167.trans (congrArg some (by kernel_rfl))⟩
 f24:=⟨Tryz.f168.name,by decide,Tryz.func168.trans (congrArg some (by kernel_rfl))⟩
 f25:=⟨Tryz.f169.name,by decide,Tryz.func169.trans (congrArg some (by kernel_rfl))⟩
 f26:=⟨Tryz.f170.name,by decide,Tryz.func170.trans (congrArg some (by kernel_rfl))⟩
 f27:=⟨Tryz.f171.name,by decide,Tryz.func171.trans (congrArg some (by kernel_rfl))⟩
 f28:=Tryz.func141.trans (congrArg some (by kernel_rfl))
 f29:=Tryz.func152.trans (congrArg some (by kernel_rfl))
 f46:=⟨Tryz.f174.name,by decide,Tryz.func174.trans (congrArg some (by kernel_rfl))⟩
 f47:=Tryz.func159.trans (congrArg some (by kernel_rfl))
 f48:=Tryz.func160.trans (congrArg some (by kernel_rfl))
 f49:=⟨Tryz.f175.name,by decide,Tryz.func175.trans (congrArg some (by kernel_rfl))⟩
 f50:=⟨Tryz.f176.name,by decide,Tryz.func176.trans (congrArg some (by kernel_rfl))⟩
 f57:=⟨Tryz.f177.name,by decide,Tryz.func177.trans (congrArg some (by kernel_rfl))⟩
 t0:=Tryz.underlying0
 a0:=Tryz.isAgg0
 z0:=Tryz.sizeOf0
 v0:=Tryz.zeroValue0
 t3:=Tryz.underlying3
 a3:=Tryz.isAgg3
 z3:=Tryz.sizeOf3
 v3:=Tryz.zeroValue3
 t4:=Tryz.underlying4
 a4:=Tryz.isAgg4
 z4:=Tryz.sizeOf4
 v4:=Tryz.zeroValue4
 t5:=Tryz.underlying5
 a5:=Tryz.isAgg5
 z5:=Tryz.sizeOf5
 v5:=Tryz.zeroValue5
 t9:=Tryz.underlying9
 a9:=Tryz.isAgg9
 z9:=Tryz.sizeOf9
 v9:=Tryz.zeroValue9
 t22:=Tryz.underlying150
 a22:=Tryz.isAgg150
 z22:=Tryz.sizeOf150
 v22:=Tryz.zeroValue150
 t25:=Tryz.underlying221
 a25:=Tryz.isAgg221
 z25:=Tryz.sizeOf221
 v25:=Tryz.zeroValue221
 t39:=Tryz.underlying131
 a39:=Tryz.isAgg131
 z39:=Tryz.sizeOf131
 v39:=Tryz.zeroValue131
 t45:=Tryz.underlying227
 a45:=Tryz.isAgg227
 z45:=Tryz.sizeOf227
 v45:=Tryz.zeroValue227
 t46:=Tryz.underlying228
 a46:=Tryz.isAgg228
 z46:=Tryz.sizeOf228
 v46:=Tryz.zeroValue228
 t50:=Tryz.underlying165
 a50:=Tryz.isAgg165
 z50:=Tryz.sizeOf165
 v50:=Tryz.zeroValue165
 t53:=Tryz.underlying104
 a53:=Tryz.isAgg104
 z53:=Tryz.sizeOf104
 v53:=Tryz.zeroValue104
 t55:=Tryz.underlying39
 a55:=Tryz.isAgg39
 z55:=Tryz.sizeOf39
 v55:=Tryz.zeroValue39
 t66:=Tryz.underlying238
 a66:=Tryz.isAgg238
 z66:=Tryz.sizeOf238
 v66:=Tryz.zeroValue238
 t70:=Tryz.underlying242
 a70:=Tryz.isAgg242
 z70:=Tryz.sizeOf242
 v70:=Tryz.zeroValue242
 t76:=Tryz.underlying249
 a76:=Tryz.isAgg249
 z76:=Tryz.sizeOf249
 v76:=Tryz.zeroValue249
 t77:=Tryz.underlying60
 a77:=Tryz.isAgg60
 z77:=Tryz.sizeOf60
 v77:=Tryz.zeroValue60}
def Tryz.sortPoint_ren:Go.Shelf.Ren:=⟨fun|6=>101|15=>130|14=>129|28=>141|29=>152|20=>144|21=>145|22=>146|23=>147|24=>148|25=>149|26=>150|27=>151|46=>158|47=>159|48=>160|49=>161|50=>162|57=>173|n=>n,fun|22=>31|24=>54|25=>184|3=>3|39=>131|0=>0|53=>104|55=>39|4=>4|46=>228|45=>227|50=>165|5=>5|9=>9|66=>238|70=>242|76=>249|77=>60|n=>n,fun|n=>n⟩
theorem Tryz.sortPoint:Go.Proofs.SlLaysF0.n6 Tryz.prog Tryz.sortPoint_ren:={
 mixed:=by kernel_rfl
 f6:=⟨Tryz.f101.name,by decide,Tryz.func101.trans (congrArg some (by kernel_rfl))⟩
 f14:=⟨Tryz.f129.name,by decide,Tryz.func129.trans (congrArg some (by kernel_rfl))⟩
 f15:=Tryz.func130.trans (congrArg some (by kernel_rfl))
 f20:=⟨Tryz.f144.name,by decide,Tryz.func144.trans (congrArg some (by kernel_rfl))⟩
 f21:=⟨Tryz.f145.name,by decide,Tryz.func145.trans (congrArg some (by kernel_rfl))⟩
 f22:=⟨Tryz.f146.name,by decide,Tryz.func146.trans (congrArg some (by kernel_rfl))⟩
 f23:=⟨Tryz.f147.name,by decide,Tryz.func147.trans (congrArg some (by kernel_rfl))⟩
 f24:=⟨Tryz.f148.name,by decide,Tryz.func148.trans (congrArg some (by kernel_rfl))⟩
 f25:=⟨Tryz.f149.name,by decide,Tryz.func149.trans (congrArg some (by kernel_rfl))⟩
 f26:=⟨Tryz.f150.name,by decide,Tryz.func150.trans (congrArg some (by kernel_rfl))⟩
 f27:=⟨Tryz.f151.name,by decide,Tryz.func151.trans (congrArg some (by kernel_rfl))⟩
 f28:=Tryz.func141.trans (congrArg some (by kernel_rfl))
 f29:=Tryz.func152.trans (congrArg some (by kernel_rfl))
 f46:=⟨Tryz.f158.name,by decide,Tryz.func158.trans (congrArg some (by kernel_rfl))⟩
 f47:=Tryz.func159.trans (congrArg some (by kernel_rfl))
 f48:=Tryz.func160.trans (congrArg some (by kernel_rfl))
 f49:=⟨Tryz.f161.name,by decide,Tryz.func161.trans (congrArg some (by kernel_rfl))⟩
 f50:=⟨Tryz.f162.name,by decide,Tryz.func162.trans (congrArg some (by kernel_rfl))⟩
 f57:=⟨Tryz.f173.name,by decide,Tryz.func173.trans (congrArg some (by kernel_rfl))⟩
 t0:=Tryz.underlying0
 a0:=Tryz.isAgg0
 z0:=Tryz.sizeOf0
 v0:=Tryz.zeroValue0
 t3:=Tryz.underlying3
 a3:=Tryz.isAgg3
 z3:=Tryz.sizeOf3
 v3:=Tryz.zeroValue3
 t4:=Tryz.underlying4
 a4:=Tryz.isAgg4
 z4:=Tryz.sizeOf4
 v4:=Tryz.zeroValue4
 t5:=Tryz.underlying5
 a5:=Tryz.isAgg5
 z5:=Tryz.sizeOf5
 v5:=Tryz.zeroValue5
 t9:=Tryz.underlying9
 a9:=Tryz.isAgg9
 z9:=Tryz.sizeOf9
 v9:=Tryz.zeroValue9
 t22:=Tryz.underlying31
 a22:=Tryz.isAgg31
 z22:=Tryz.sizeOf31
 v22:=Tryz.zeroValue31
 t25:=Tryz.underlying184
 a25:=Tryz.isAgg184
 z25:=Tryz.sizeOf184
 v25:=Tryz.zeroValue184
 t39:=Tryz.underlying131
 a39:=Tryz.isAgg131
 z39:=Tryz.sizeOf131
 v39:=Tryz.zeroValue131
 t45:=Tryz.underlying227
 a45:=Tryz.isAgg227
 z45:=Tryz.sizeOf227
 v45:=Tryz.zeroValue227
 t46:=Tryz.underlying228
 a46:=Tryz.isAgg228
 z46:=Tryz.sizeOf228
 v46:=Tryz.zeroValue228
 t50:=Tryz.underlying165
 a50:=Tryz.isAgg165
 z50:=Tryz.sizeOf165
 v50:=Tryz.zeroValue165
 t53:=Tryz.underlying104
 a53:=Tryz.isAgg104
 z53:=Tryz.sizeOf104
 v53:=Tryz.zeroValue104
 t55:=Tryz.underlying39
 a55:=Tryz.isAgg39
 z55:=Tryz.sizeOf39
 v55:=Tryz.zeroValue39
 t66:=Tryz.underlying238
 a66:=Tryz.isAgg238
 z66:=Tryz.sizeOf238
 v66:=Tryz.zeroValue238
 t70:=Tryz.underlying242
 a70:=Tryz.isAgg242
 z70:=Tryz.sizeOf242
 v70:=Tryz.zeroValue242
 t76:=Tryz.underlying249
 a76:=Tryz.isAgg249
 z76:=Tryz.sizeOf249
 v76:=Tryz.zeroValue249
 t77:=Tryz.underlying60
 a77:=Tryz.isAgg60
 z77:=Tryz.sizeOf60
 v77:=Tryz.zeroValue60}
end Go.Proofs
namespace Go.Proofs.YthaeohlijigplaaGreat
open Go.Sx Go.Sort Go.Proofs Go.Shelf Go.RowKit Go.Lib
set_option maxRecDepth 100000
set_option maxHeartbeats 4000000
theorem cmpI_lt {a b:Int}:cmpI a b<0↔a<b:=by
 unfold cmpI;split
 ·simp;assumption
 ·split<;>simp<;>omega
theorem cmpI_z {a b:Int}:cmpI a b=0↔a=b:=by
 unfold cmpI;split
 ·simp;omega
 ·split
  ·simp;omega
  ·simp;omega
theorem cmpE_lt {x y:E4}:cmpE x y<0↔(x.1<y.1∨x.1=y.1∧x.2.1<y.2.1):=by
 unfold cmpE
 by_cases h:cmpI x.1 y.1=0
 ·rw[if_neg (by simpa using h),cmpI_lt]
  have:=cmpI_z.1 h
  omega
 ·rw[if_pos h,cmpI_lt]
  have:x.1≠y.1:=fun e=>h (cmpI_z.2 e)
  omega
theorem swoE:SWO (ltOf cmpE) where
 irrefl x:=by simp only[ltOf,decide_eq_false_iff_not,cmpE_lt];omega
 trans x y z h1 h2:=by simp only[ltOf,decide_eq_true_eq,cmpE_lt]at*;omega
 ntrans x y z h1 h2:=by simp only[ltOf,decide_eq_false_iff_not,cmpE_lt]at*;omega
theorem m_sortE (K:Nat) {l l':List E4} (h0:l≠[]) (hlen:l.length<1099511627776) (hp:l'.Perm l) (hso:l'.Pairwise fun x y=>cmpE x y<0):
  CallOK Tryz.prog 135 [.slc K 4 0 l.length,.clo 136 [] []] [(K,⟨154,true,.seq 4 (l.map edA)⟩)] (.tup []) [] [(K,⟨154,true,.seq 4 (l'.map edA)⟩)]:=
 call_sort (rn:=Tryz.sortEdge_ren) Tryz.sortEdge K 4 (by decide) Tryz.isAgg154 Tryz.sizeOf154 edA (fun _=>rfl) (fun _=>rfl) (fun _=>rfl) cmpE swoE 136
  (enters_of Tryz.func136 (by kernel_rfl) rfl) ⟨_,Tryz.func136,by kernel_rfl,by kernel_rfl⟩ ⟨_,Tryz.func135,by kernel_rfl,by kernel_rfl⟩ h0 hlen (fun x _ y _=>m_cmpE x y) hp hso
end Go.Proofs.YthaeohlijigplaaGreat
