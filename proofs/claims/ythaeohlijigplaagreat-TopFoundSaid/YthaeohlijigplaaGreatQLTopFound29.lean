/- The texts W3. -/
import Derived.Test.YthaeohlijigplaaGreatQLTopFound26
import Derived.Test.YthaeohlijigplaaGreatQLTopFound28
import Derived.Test.YthaeohlijigplaaGreatQLTopFound5
namespace Go.Proofs.YthaeohlijigplaaGreat
open Go.Sx
set_option linter.unusedSimpArgs false
set_option linter.unusedVariables false
set_option maxRecDepth 100000
set_option maxHeartbeats 32000000
abbrev Stp:=Bool×List Int
abbrev stA:Stp→SV:=ag2 bel (mvec 1 (iel .u8))
abbrev iBk (l:List Int):Blk:=⟨3,true,.ints .i64 l⟩
theorem app_int {l:List Int} {x:Int}:iBk (l++[x])=⟨3,true,.ints .i64 (List.take l.length l++List.take 1 (List.drop 0 [x]))⟩:=by
 rw[iBk,List.take_of_length_le (Nat.le_refl _)];rfl
theorem c_Chain (x:M6) (l:List Stp) (m:Me) (hm:CallOK Tryz.prog 14 [m6A x] [] (meA m) [] []) (hn:CallOK Tryz.prog 13 [meA m] [] (.tup [lvs [⟨m,[]⟩],iv 0]) [] [])
  (h0:LvlOK 0 m) (hl:l.length≤3) (hu:∀s∈l,(∀v∈s.2,0≤v∧v<256)∧s.2.length<9223372036854775808):
  CallOK Tryz.prog 4 [m6A x,mvec 2 stA l,iv 80] [] (lvs (chF l [⟨m,[]⟩])) [] []:=by
 refine callF (Z:=[3,100016]) tabOK mixedOK Tryz.func4 rfl (by kernel_rfl) (by first|rfl|(simp[keylessL,keyless,keylessL_map, *];done)) (by first|rfl|(simp[keylessL,keyless,keylessL_map, *];done)) (by kernel_rfl) rfl ?_
 intro w0 ρ0 hE
 conv=>whnf
 (repeat(first|(refine g_c (by assumption) ?_;conv=>whnf)|(refine g_o (op_loadA rfl (ev_ok rfl) (tgt rfl) rfl (Nat.succ_ne_zero _) rfl) ?_;conv=>whnf)))
 refine SW_loopN hE (fun k=>k) [1,2,7,8,9] [] (fun M fr hp=>∃i c,M=l.length - i∧i≤l.length∧ChOK c∧c.length=i+1∧chF (l.drop i) c=chF l [⟨m,[]⟩]∧fr=[(1,mvec 2 stA l),(2,iv 80),(7,lvs c),(8,iv 0),(9,iv (i:Nat))]∧hp=[]) l.length ?_ ?_ ?_
 ·kernel_rfl
 ·exact⟨0,_,rfl,by omega,ChOK.one h0,rfl,rfl,rfl,rfl⟩
 rintro M _ _ ⟨i,c,rfl,hi,hc,hcl,hch,rfl,rfl⟩
 rw[←hch]
 clear hm hn hch
 by_cases hlt:i<l.length
 ·have s1:=dlt hlt
  have hs:=hu _ (List.getElem_mem hlt)
  have hd:l.drop i=l[i]::l.drop (i+1):=List.drop_eq_getElem_cons hlt
  have hg:l.getD i (false,[])=l[i]:=by rw[List.getD_eq_getElem?_getD,List.getElem?_eq_getElem hlt];rfl
  rw[hd]
  generalize l[i]=s at*
  have ht:=hc.lv (c.length - 1) (by omega)
  have kt:=v_Top c hc.ne (by omega) (ht.fit (by omega))
  have hn0:0<(topM c).ts.length:=List.length_pos_iff.2 ht.good.ne
  have htl:(topM c).ts.length≤80:=ht.tl
  have t1:(((topM c).ts.length:Int)==0)=false:=beq_eq_false_iff_ne.2 (by omega)
  have e1:IntKind.i64.wrap (4*((topM c).ts.length:Int))=((4*(topM c).ts.length:Nat):Int):=by rw[wrap_i64 (by omega) (by omega)];omega
  simp only[chF]
  by_cases h4:4*(topM c).ts.length>80
  ·rw[if_pos h4]
   have t2:decide (((4*(topM c).ts.length:Nat):Int)>80)=true:=decide_eq_true (by omega)
   conv=>whnf
   (repeat((first|refine step_w1 rfl rfl ?_|refine g_c (by assumption) ?_|refine g_o (op_pickT rfl (ev_ok rfl) (ev_ok rfl)) ?_|refine g_o (op_pickF rfl (ev_ok rfl) (ev_ok rfl)) ?_|rw[beq_self_eq_true]|refine g_o (op_lenM rfl rfl rfl (ev_ok rfl) (tgt rfl) rfl) ?_|rw[s1]|rw[t1]|rw[e1]|rw[t2]);conv=>whnf))
   (first|exact Recast.refl _|exact Frz.recast (Recast.refl _) rfl|(refine Frz.one rfl rfl ?_;skip)|(refine Frz.tup ?_;skip))
  ·rw[if_neg h4]
   have t2:decide (((4*(topM c).ts.length:Nat):Int)>80)=false:=decide_eq_false (by omega)
   have wk:=winc (i:=i) (by omega)
   obtain⟨g1,g2,g3⟩:=stF_ok (s:=s) hc (by omega) (by omega) fun v hv=>(hs.1 v hv).1
   have hfit:∀i,i<c.length→(lvG c i).m.Fit∧(lvG c i).pa.length<1099511627776:=fun i hi=>⟨(hc.lv i hi).fit (by omega),by have:=hc.pal i hi;omega⟩
   have kr:=v_Red c (redM (topM c)) (parR (topM c).ts.length) hc.ne (by omega) hfit
   have kb:=v_Bisect c (bisM (topM c) (mkF (topM c).ts.length s.2 8)) (mkF (topM c).ts.length s.2 8) (bisPa (topM c) (mkF (topM c).ts.length s.2 8)) hc.ne (by omega) hfit g3
   have hcl2:(stF c s).length=i+1+1:=by rw[stF_len];omega
   obtain⟨red,mk⟩:=s
   cases red with
   |true=>
    have kr:=kr (g2 rfl)
    have hst:stF c (true,mk)=c++[⟨redM (topM c),parR (topM c).ts.length⟩]:=by simp[stF]
    rw[←hst]at kr
    conv=>whnf
    (repeat((first|refine step_w1 rfl rfl ?_|refine step_w2 rfl rfl ?_|refine g_c (by assumption) ?_|refine g_o (op_pickT rfl (ev_ok rfl) (ev_ok rfl)) ?_|refine g_o (op_pickF rfl (ev_ok rfl) (ev_ok rfl)) ?_|rw[beq_self_eq_true]|refine g_o (op_lenM rfl rfl rfl (ev_ok rfl) (tgt rfl) rfl) ?_|refine g_o (op_loadA rfl (ev_ok rfl) (tgt rfl) rfl (Nat.succ_ne_zero _) rfl) ?_|refine g_o (op_fieldA rfl (ev_ok rfl) (tgt rfl) rfl rfl (Nat.succ_ne_zero _) rfl) ?_|refine g_o (op_indexN (α:=Stp) (d:=(false,[])) rfl (ev_ok rfl) (ev_ok rfl) (tgt rfl) rfl (tgt rfl) rfl (by omega)) ?_|rw[s1]|rw[t1]|rw[e1]|rw[t2]|rw[hg]|rw[wk]|rw[Nat.zero_add]);conv=>whnf))
    exact⟨l.length - (i+1),fun k=>k,[1,2,7,8,9],[],by omega,by kernel_rfl,i+1,stF c (true,mk),rfl,by omega,g1,hcl2,rfl,rfl,rfl⟩
   |false=>
    have hst:stF c (false,mk)=c++[⟨bisM (topM c) (mkF (topM c).ts.length mk 8),bisPa (topM c) (mkF (topM c).ts.length mk 8)⟩]:=by simp[stF]
    simp only at kb hs
    rw[←hst]at kb
    obtain⟨n,hn⟩:∃n,(topM c).ts.length=n:=⟨_,rfl⟩
    have hn':(c.getD (c.length - 1) lv0).m.ts.length=n:=hn
    rw[hn]at kb t1 e1 t2 hn0 htl
    clear g2 g3 kr hst ht h4
    conv=>whnf
    (repeat((first|refine step_w1 rfl rfl ?_|refine step_w2 rfl rfl ?_|refine g_c (by assumption) ?_|refine g_o (op_pickT rfl (ev_ok rfl) (ev_ok rfl)) ?_|refine g_o (op_pickF rfl (ev_ok rfl) (ev_ok rfl)) ?_|rw[beq_self_eq_true]|refine g_o (op_lenM rfl rfl rfl (ev_ok rfl) (tgt rfl) rfl) ?_|refine g_o (op_loadA rfl (ev_ok rfl) (tgt rfl) rfl (Nat.succ_ne_zero _) rfl) ?_|refine g_o (op_fieldA rfl (ev_ok rfl) (tgt rfl) rfl rfl (Nat.succ_ne_zero _) rfl) ?_|refine g_o (op_indexN (α:=Stp) (d:=(false,[])) rfl (ev_ok rfl) (ev_ok rfl) (tgt rfl) rfl (tgt rfl) rfl (by omega)) ?_|rw[s1]|rw[hn']|rw[t1]|rw[e1]|rw[t2]|rw[hg]|rw[Nat.zero_add]);conv=>whnf))
    refine SWx_adopt (t:=12) (k:=2001) (s:=1) (blk:=iBk []) rfl rfl rfl ?_
    refine SW_loopN hE (fun k=>k) [1,2,7,9,11,12,13] [2001] (fun M fr hp=>∃k,M=mk.length - k∧k≤mk.length∧k≤8∧fr=[(1,mvec 2 stA l),(2,iv 80),(7,lvs c),(9,iv (i:Nat)),(11,iv (n:Nat)),(12,.slc 2001 1 0 k),(13,iv (k:Nat))]∧hp=[(2001,iBk (mkF n mk k))]) mk.length ?_ ?_ ?_
    ·kernel_rfl
    ·exact⟨0,rfl,by omega,by omega,rfl,rfl⟩
    rintro M _ _ ⟨k,rfl,hk,hk8,rfl,rfl⟩
    have hml:(mkF n mk k).length=k:=by rw[mkF,List.length_map,List.length_take];omega
    by_cases hkl:k<mk.length
    ·have s2:=dlt hkl
     by_cases hk9:k<8
     ·have s3:decide (((k:Nat):Int)<8)=true:=decide_eq_true (by omega)
      have wk2:=winc (i:=k) (by omega)
      have hv:=hs.1 _ (List.getElem_mem hkl)
      have hgk:mk.getD k 0=mk[k]:=by rw[List.getD_eq_getElem?_getD,List.getElem?_eq_getElem hkl];rfl
      have hmk:mkF n mk (k+1)=mkF n mk k++[mk[k].tmod (n:Nat)]:=by
       rw[mkF,List.take_add_one,List.map_append,List.getElem?_eq_getElem hkl];rfl
      generalize mk[k]=v at*
      have wv:IntKind.i64.wrap v=v:=wrap_i64 (by omega) (by omega)
      have e7:=app_int (l:=mkF n mk k) (x:=v.tmod (n:Nat))
      rw[hml,←hmk]at e7
      conv=>whnf
      (repeat((first|refine step_w1 rfl rfl ?_|refine step_oA (by first|omega|decide|(simp only[tl1,dlen,List.length_replicate,List.length_set,List.length_map,List.length_zipWith,List.length_take,List.length_append,List.length_cons,List.length_nil];omega)) ?_|refine step_oN (by first|omega|decide|(simp only[tl1,dlen,List.length_replicate,List.length_set,List.length_map,List.length_zipWith,List.length_take,List.length_append,List.length_cons,List.length_nil];omega)) ?_|refine g_o (op_pickT rfl (ev_ok rfl) (ev_ok rfl)) ?_|refine g_o (op_lenM rfl rfl rfl (ev_ok rfl) (tgt rfl) rfl) ?_|refine g_o (op_loadA rfl (ev_ok rfl) (tgt rfl) rfl (Nat.succ_ne_zero _) rfl) ?_|refine g_o (op_indexN (α:=Int) (d:=0) rfl (ev_ok rfl) (ev_ok rfl) (tgt rfl) rfl (tgt rfl) rfl (by omega)) ?_|refine g_o (op_fieldA rfl (ev_ok rfl) (tgt rfl) rfl rfl (Nat.succ_ne_zero _) rfl) ?_|refine g_o (op_indexN (α:=Stp) (d:=(false,[])) rfl (ev_ok rfl) (ev_ok rfl) (tgt rfl) rfl (tgt rfl) rfl (by omega)) ?_|rw[s2]|rw[s3]|rw[hg]|rw[hgk]|rw[wv]|rw[wk2]);conv=>whnf))
      refine⟨mk.length - (k+1),renBy [(81,2001)],[1,2,7,9,11,12,13],[81],by omega,by kernel_rfl,k+1,rfl,by omega,by omega,rfl, ?_⟩
      rw[e7];rfl
     ·have s3:decide (((k:Nat):Int)<8)=false:=decide_eq_false (by omega)
      have hmk:mkF n mk k=mkF n mk 8:=by rw[show k=8 by omega]
      conv=>whnf
      (repeat((first|refine step_w1 rfl rfl ?_|refine step_w2 rfl rfl ?_|refine g_o (op_pickT rfl (ev_ok rfl) (ev_ok rfl)) ?_|refine g_o (op_lenM rfl rfl rfl (ev_ok rfl) (tgt rfl) rfl) ?_|refine g_o (op_loadA rfl (ev_ok rfl) (tgt rfl) rfl (Nat.succ_ne_zero _) rfl) ?_|refine g_o (op_fieldA rfl (ev_ok rfl) (tgt rfl) rfl rfl (Nat.succ_ne_zero _) rfl) ?_|refine g_o (op_indexN (α:=Stp) (d:=(false,[])) rfl (ev_ok rfl) (ev_ok rfl) (tgt rfl) rfl (tgt rfl) rfl (by omega)) ?_|rw[s2]|rw[s3]|rw[hg]);conv=>whnf))
      have hrl:(mkF n mk 8).length=k:=by rw[←hmk];exact hml
      rw[hmk]
      refine SWx_freezeI 12 2001 (fun _ h=>h) rfl rfl hrl.symm ?_
      refine SWx_go hE ?_
      conv=>whnf
      (repeat(first|(refine g_c (by assumption) ?_;conv=>whnf)|(rw[wk];conv=>whnf)))
      exact⟨l.length - (i+1),fun k=>k,[1,2,7,8,9],[],by omega,by kernel_rfl,i+1,stF c (false,mk),rfl,by omega,g1,hcl2,rfl,rfl,rfl⟩
    ·have s2:=dge hkl
     have hmk:mkF n mk k=mkF n mk 8:=by rw[mkF,mkF,List.take_of_length_le (by omega),List.take_of_length_le (by omega)]
     conv=>whnf
     (repeat((first|refine step_w2 rfl rfl ?_|refine g_o (op_pickF rfl (ev_ok rfl) (ev_ok rfl)) ?_|refine g_o (op_lenM rfl rfl rfl (ev_ok rfl) (tgt rfl) rfl) ?_|refine g_o (op_loadA rfl (ev_ok rfl) (tgt rfl) rfl (Nat.succ_ne_zero _) rfl) ?_|refine g_o (op_fieldA rfl (ev_ok rfl) (tgt rfl) rfl rfl (Nat.succ_ne_zero _) rfl) ?_|refine g_o (op_indexN (α:=Stp) (d:=(false,[])) rfl (ev_ok rfl) (ev_ok rfl) (tgt rfl) rfl (tgt rfl) rfl (by omega)) ?_|rw[s2]|rw[hg]);conv=>whnf))
     have hrl:(mkF n mk 8).length=k:=by rw[←hmk];exact hml
     rw[hmk]
     refine SWx_freezeI 12 2001 (fun _ h=>h) rfl rfl hrl.symm ?_
     refine SWx_go hE ?_
     conv=>whnf
     (repeat(first|(refine g_c (by assumption) ?_;conv=>whnf)|(rw[wk];conv=>whnf)))
     exact⟨l.length - (i+1),fun k=>k,[1,2,7,8,9],[],by omega,by kernel_rfl,i+1,stF c (false,mk),rfl,by omega,g1,hcl2,rfl,rfl,rfl⟩
 ·have s1:=dge hlt
  obtain rfl:i=l.length:=by omega
  rw[List.drop_length]
  conv=>whnf
  (repeat((first|refine step_w2 rfl rfl ?_|refine g_o (op_pickF rfl (ev_ok rfl) (ev_ok rfl)) ?_|refine g_o (op_lenM rfl rfl rfl (ev_ok rfl) (tgt rfl) rfl) ?_|rw[s1]);conv=>whnf))
  (first|exact Recast.refl _|exact Frz.recast (Recast.refl _) rfl|(refine Frz.one rfl rfl ?_;skip)|(refine Frz.tup ?_;skip))
end Go.Proofs.YthaeohlijigplaaGreat
