/- The texts Kt, Ku. -/
import Derived.Test.YtfpagioknjjacaaGreatDoorQMMatsKnown6
namespace Go.Sx
set_option linter.unusedSimpArgs false
set_option linter.unusedVariables false
theorem SWx_addKey {E:Env} (k:Nat) {blk:Blk} {c:Code} {K:Post'} {fr:List (Nat×SV)} {hp:List (Nat×Blk)} (hk:find hp k=none) (he:blk.data.empty) (hs:SWx E c K fr ((k,blk)::hp)):SWx E c K fr hp:=
 ⟨fun a w hR=>hs.run a w (addKey_RR hk he hR)⟩
end Go.Sx
namespace Go.Proofs.YtfpagioknjjacaaGreatDoor
open Go.Sx
set_option linter.unusedSimpArgs false
set_option linter.unusedVariables false
set_option maxRecDepth 100000
set_option maxHeartbeats 40000000
abbrev zL (n:Nat):List Rat:=List.replicate n 0
theorem zL_len (n:Nat):(zL n).length=n:=List.length_replicate ..
theorem same_zero (r c:Int) (N:Nat):((sameF r c r c (zL N) []) != (((zL N).length:Int)==0))=false:=by
 have h:sameF r c r c (zL N) []=(((zL N).length:Int)==0):=by
  cases N with
  |zero=>simp[sameF,zL]
  |succ n=>
   have h1:(((zL (n+1)).length:Int)==0)=false:=by rw[zL_len,beq_eq_false_iff_ne];omega
   rw[h1];simp[sameF,zL,List.replicate_succ]
 rw[h];exact bne_self_eq_false _
theorem c_MErrBad (r c n i k:Int) (hn:0≤n∧n<256) (hr: -9223372036854775808≤r∧r<9223372036854775808) (hc: -9223372036854775808≤c∧c<9223372036854775808) (h:checkF r c (n % 60).toNat≠0):
  CallOK Tryz.prog 13 [iv r,iv c,iel .u8 n,iv i,iv k] [] (.val (.bool true)) [] []:=by
 have kw:=l_works13
 obtain⟨e1,e2⟩:=u8_mod n hn 60 (by decide)
 have hN:(n % 60).toNat≤59:=by omega
 generalize (n % 60).toNat=N at*
 rw[show N=(zL N).length from(zL_len N).symm]at h
 by_cases h1:r<0
 ·have t1:decide (r<0)=true:=decide_eq_true h1
  have hw:checkF r c (zL N).length=1:=by unfold checkF;rw[show sidesF r c=1 from by unfold sidesF;rw[if_pos (.inl h1)]];rfl
  have k0:=m_Check r c (zL N) (by rw[zL_len];omega)
  have kr:=c_refused r c (zL N) (by rw[zL_len];omega) 1 hw (by decide)
  rw[hw]at k0
  have km:=(m_Same r c r c (zL N) [] (by rw[zL_len];omega) (by decide)).wk (args:=[mA r c (zL N),.agg [iv r,iv c,.val (.slice none 0 0)]]) (by repeat(first|exact WkL.nil|refine WkL.cons ?_ ?_|exact Wk.nil|exact Wk.refl|refine Wk.agg ?_))
  have tz:=same_zero r c N
  clear hw
  refine callV (Z:=[100000,131,138,192]) tabOK mixedOK Tryz.func13 rfl (by kernel_rfl) rfl rfl (by kernel_rfl) rfl ?_
  intro W0 w0 ρ0 hE
  conv=>whnf
  refine SWx_addKey 45 (blk:=fblk []) rfl rfl ?_
  refine SWx_addKey 212 (blk:=fblk []) rfl rfl ?_
  refine SWx_addKey 238 (blk:=fblk []) rfl rfl ?_
  refine SWx_addKey 246 (blk:=fblk []) rfl rfl ?_
  refine SWx_addKey 248 (blk:=fblk []) rfl rfl ?_
  refine SWx_go hE ?_
  conv=>whnf
  (repeat((first|refine step_w1 rfl rfl ?_|refine step_w2 rfl rfl ?_|refine step_i (by kernel_rfl) ?_|refine step_oN (by first|omega|decide|(simp only[tl0,dlen,List.length_replicate,List.length_set,List.length_map,List.length_zipWith,List.length_take,List.length_append,List.length_cons,List.length_nil];omega)) ?_|refine g_c (by assumption) ?_|refine g_o (op_pickT rfl (ev_ok rfl) (ev_ok rfl)) ?_|refine g_o (op_pickF rfl (ev_ok rfl) (ev_ok rfl)) ?_|rw[bne_self_eq_false]|refine tst_ff tz ?_|refine g_o (op_lenM rfl rfl rfl (ev_ok rfl) (tgt rfl) rfl) ?_|refine g_o (op_makeF rfl (ev_ok rfl) (ev_ok rfl) (tgt rfl) rfl (tgt rfl) rfl rfl (by simp only[tiB52];omega)) ?_|rw[t1]|rw[e2]);conv=>whnf));(first|exact Recast.refl _|exact Frz.recast (Recast.refl _) rfl|(refine Frz.one rfl rfl ?_;skip)|(refine Frz.tup ?_;skip))
 have t1:decide (r<0)=false:=decide_eq_false h1
 by_cases h2:c<0
 ·have t2:decide (c<0)=true:=decide_eq_true h2
  have hw:checkF r c (zL N).length=1:=by unfold checkF;rw[show sidesF r c=1 from by unfold sidesF;rw[if_pos (.inr h2)]];rfl
  have k0:=m_Check r c (zL N) (by rw[zL_len];omega)
  have kr:=c_refused r c (zL N) (by rw[zL_len];omega) 1 hw (by decide)
  rw[hw]at k0
  have km:=(m_Same r c r c (zL N) [] (by rw[zL_len];omega) (by decide)).wk (args:=[mA r c (zL N),.agg [iv r,iv c,.val (.slice none 0 0)]]) (by repeat(first|exact WkL.nil|refine WkL.cons ?_ ?_|exact Wk.nil|exact Wk.refl|refine Wk.agg ?_))
  have tz:=same_zero r c N
  clear hw
  refine callV (Z:=[100000,131,138,192]) tabOK mixedOK Tryz.func13 rfl (by kernel_rfl) rfl rfl (by kernel_rfl) rfl ?_
  intro W0 w0 ρ0 hE
  conv=>whnf
  refine SWx_addKey 45 (blk:=fblk []) rfl rfl ?_
  refine SWx_addKey 212 (blk:=fblk []) rfl rfl ?_
  refine SWx_addKey 238 (blk:=fblk []) rfl rfl ?_
  refine SWx_addKey 246 (blk:=fblk []) rfl rfl ?_
  refine SWx_addKey 248 (blk:=fblk []) rfl rfl ?_
  refine SWx_go hE ?_
  conv=>whnf
  (repeat((first|refine step_w1 rfl rfl ?_|refine step_i (by kernel_rfl) ?_|refine step_oN (by first|omega|decide|(simp only[tl0,dlen,List.length_replicate,List.length_set,List.length_map,List.length_zipWith,List.length_take,List.length_append,List.length_cons,List.length_nil];omega)) ?_|refine g_c (by assumption) ?_|refine g_o (op_pickT rfl (ev_ok rfl) (ev_ok rfl)) ?_|refine g_o (op_pickF rfl (ev_ok rfl) (ev_ok rfl)) ?_|rw[bne_self_eq_false]|refine tst_tt t2 ?_|refine tst_ff tz ?_|refine g_o (op_lenM rfl rfl rfl (ev_ok rfl) (tgt rfl) rfl) ?_|refine g_o (op_makeF rfl (ev_ok rfl) (ev_ok rfl) (tgt rfl) rfl (tgt rfl) rfl rfl (by simp only[tiB52];omega)) ?_|rw[t1]|rw[e2]);conv=>whnf));(first|exact Recast.refl _|exact Frz.recast (Recast.refl _) rfl|(refine Frz.one rfl rfl ?_;skip)|(refine Frz.tup ?_;skip))
 have t2:decide (c<0)=false:=decide_eq_false h2
 by_cases h3:r>2048
 ·have t3:decide (r>2048)=true:=decide_eq_true h3
  have hw:checkF r c (zL N).length=3:=by unfold checkF;rw[show sidesF r c=3 from by unfold sidesF;rw[if_neg (by omega),if_pos (.inl h3)]];rfl
  have k0:=m_Check r c (zL N) (by rw[zL_len];omega)
  have kr:=c_refused r c (zL N) (by rw[zL_len];omega) 3 hw (by decide)
  rw[hw]at k0
  have km:=(m_Same r c r c (zL N) [] (by rw[zL_len];omega) (by decide)).wk (args:=[mA r c (zL N),.agg [iv r,iv c,.val (.slice none 0 0)]]) (by repeat(first|exact WkL.nil|refine WkL.cons ?_ ?_|exact Wk.nil|exact Wk.refl|refine Wk.agg ?_))
  have tz:=same_zero r c N
  clear hw
  refine callV (Z:=[100000,131,138,192]) tabOK mixedOK Tryz.func13 rfl (by kernel_rfl) rfl rfl (by kernel_rfl) rfl ?_
  intro W0 w0 ρ0 hE
  conv=>whnf
  refine SWx_addKey 45 (blk:=fblk []) rfl rfl ?_
  refine SWx_addKey 212 (blk:=fblk []) rfl rfl ?_
  refine SWx_addKey 238 (blk:=fblk []) rfl rfl ?_
  refine SWx_addKey 246 (blk:=fblk []) rfl rfl ?_
  refine SWx_addKey 248 (blk:=fblk []) rfl rfl ?_
  refine SWx_go hE ?_
  conv=>whnf
  (repeat((first|refine step_w1 rfl rfl ?_|refine step_w2 rfl rfl ?_|refine step_i (by kernel_rfl) ?_|refine step_oN (by first|omega|decide|(simp only[tl0,dlen,List.length_replicate,List.length_set,List.length_map,List.length_zipWith,List.length_take,List.length_append,List.length_cons,List.length_nil];omega)) ?_|refine g_c (by assumption) ?_|refine g_o (op_pickT rfl (ev_ok rfl) (ev_ok rfl)) ?_|refine g_o (op_pickF rfl (ev_ok rfl) (ev_ok rfl)) ?_|rw[bne_self_eq_false]|refine tst_ff t2 ?_|refine tst_ff tz ?_|refine g_o (op_lenM rfl rfl rfl (ev_ok rfl) (tgt rfl) rfl) ?_|refine g_o (op_makeF rfl (ev_ok rfl) (ev_ok rfl) (tgt rfl) rfl (tgt rfl) rfl rfl (by simp only[tiB52];omega)) ?_|rw[t1]|rw[t2]|rw[t3]|rw[e2]);conv=>whnf));(first|exact Recast.refl _|exact Frz.recast (Recast.refl _) rfl|(refine Frz.one rfl rfl ?_;skip)|(refine Frz.tup ?_;skip))
 have t3:decide (r>2048)=false:=decide_eq_false h3
 by_cases h4:c>2048
 ·have t4:decide (c>2048)=true:=decide_eq_true h4
  have hw:checkF r c (zL N).length=3:=by unfold checkF;rw[show sidesF r c=3 from by unfold sidesF;rw[if_neg (by omega),if_pos (.inr h4)]];rfl
  have k0:=m_Check r c (zL N) (by rw[zL_len];omega)
  have kr:=c_refused r c (zL N) (by rw[zL_len];omega) 3 hw (by decide)
  rw[hw]at k0
  have km:=(m_Same r c r c (zL N) [] (by rw[zL_len];omega) (by decide)).wk (args:=[mA r c (zL N),.agg [iv r,iv c,.val (.slice none 0 0)]]) (by repeat(first|exact WkL.nil|refine WkL.cons ?_ ?_|exact Wk.nil|exact Wk.refl|refine Wk.agg ?_))
  have tz:=same_zero r c N
  clear hw
  refine callV (Z:=[100000,131,138,192]) tabOK mixedOK Tryz.func13 rfl (by kernel_rfl) rfl rfl (by kernel_rfl) rfl ?_
  intro W0 w0 ρ0 hE
  conv=>whnf
  refine SWx_addKey 45 (blk:=fblk []) rfl rfl ?_
  refine SWx_addKey 212 (blk:=fblk []) rfl rfl ?_
  refine SWx_addKey 238 (blk:=fblk []) rfl rfl ?_
  refine SWx_addKey 246 (blk:=fblk []) rfl rfl ?_
  refine SWx_addKey 248 (blk:=fblk []) rfl rfl ?_
  refine SWx_go hE ?_
  conv=>whnf
  (repeat((first|refine step_w1 rfl rfl ?_|refine step_i (by kernel_rfl) ?_|refine step_oN (by first|omega|decide|(simp only[tl0,dlen,List.length_replicate,List.length_set,List.length_map,List.length_zipWith,List.length_take,List.length_append,List.length_cons,List.length_nil];omega)) ?_|refine g_c (by assumption) ?_|refine g_o (op_pickT rfl (ev_ok rfl) (ev_ok rfl)) ?_|refine g_o (op_pickF rfl (ev_ok rfl) (ev_ok rfl)) ?_|rw[bne_self_eq_false]|refine tst_ff t2 ?_|refine tst_tt t4 ?_|refine tst_ff tz ?_|refine g_o (op_lenM rfl rfl rfl (ev_ok rfl) (tgt rfl) rfl) ?_|refine g_o (op_makeF rfl (ev_ok rfl) (ev_ok rfl) (tgt rfl) rfl (tgt rfl) rfl rfl (by simp only[tiB52];omega)) ?_|rw[t1]|rw[t2]|rw[t3]|rw[e2]);conv=>whnf));(first|exact Recast.refl _|exact Frz.recast (Recast.refl _) rfl|(refine Frz.one rfl rfl ?_;skip)|(refine Frz.tup ?_;skip))
 have t4:decide (c>2048)=false:=decide_eq_false h4
 have hs:sidesF r c=0:=sides_of (by omega)
 have hb:r*c≠((zL N).length:Int):=by
  intro hb
  apply h
  unfold checkF
  rw[hs,if_neg (by decide),if_neg (by rw[hb];exact fun h=>h rfl)]
 have hw:checkF r c (zL N).length=1:=by unfold checkF;rw[hs,if_neg (by decide),if_pos (fun h=>hb h.symm)]
 have hp:=prod_le (show(0≤r∧r≤2048)∧(0≤c∧c≤2048) by omega)
 have t5:IntKind.i64.wrap (r*c)=r*c:=wrap_i64 (by omega) (by omega)
 have t6:((r*c) != ((zL N).length:Int))=true:=bne_iff_ne.2 hb
 clear hp hb hs
 have k0:=m_Check r c (zL N) (by rw[zL_len];omega)
 have kr:=c_refused r c (zL N) (by rw[zL_len];omega) 1 hw (by decide)
 rw[hw]at k0
 have km:=(m_Same r c r c (zL N) [] (by rw[zL_len];omega) (by decide)).wk (args:=[mA r c (zL N),.agg [iv r,iv c,.val (.slice none 0 0)]]) (by repeat(first|exact WkL.nil|refine WkL.cons ?_ ?_|exact Wk.nil|exact Wk.refl|refine Wk.agg ?_))
 have tz:=same_zero r c N
 clear hw
 refine callV (Z:=[100000,131,138,192]) tabOK mixedOK Tryz.func13 rfl (by kernel_rfl) rfl rfl (by kernel_rfl) rfl ?_
 intro W0 w0 ρ0 hE
 conv=>whnf
 refine SWx_addKey 45 (blk:=fblk []) rfl rfl ?_
 refine SWx_addKey 212 (blk:=fblk []) rfl rfl ?_
 refine SWx_addKey 238 (blk:=fblk []) rfl rfl ?_
 refine SWx_addKey 246 (blk:=fblk []) rfl rfl ?_
 refine SWx_addKey 248 (blk:=fblk []) rfl rfl ?_
 refine SWx_go hE ?_
 conv=>whnf
 (repeat((first|refine step_w1 rfl rfl ?_|refine step_i (by kernel_rfl) ?_|refine step_oN (by first|omega|decide|(simp only[tl0,dlen,List.length_replicate,List.length_set,List.length_map,List.length_zipWith,List.length_take,List.length_append,List.length_cons,List.length_nil];omega)) ?_|refine g_c (by assumption) ?_|refine g_o (op_pickT rfl (ev_ok rfl) (ev_ok rfl)) ?_|refine g_o (op_pickF rfl (ev_ok rfl) (ev_ok rfl)) ?_|rw[bne_self_eq_false]|refine tst_ff t2 ?_|refine tst_ff t4 ?_|refine tst_tt t6 ?_|refine tst_ff tz ?_|refine g_o (op_lenM rfl rfl rfl (ev_ok rfl) (tgt rfl) rfl) ?_|refine g_o (op_makeF rfl (ev_ok rfl) (ev_ok rfl) (tgt rfl) rfl (tgt rfl) rfl rfl (by simp only[tiB52];omega)) ?_|rw[t1]|rw[t2]|rw[t3]|rw[t4]|rw[t5]|rw[e2]);conv=>whnf));(first|exact Recast.refl _|exact Frz.recast (Recast.refl _) rfl|(refine Frz.one rfl rfl ?_;skip)|(refine Frz.tup ?_;skip))
end Go.Proofs.YtfpagioknjjacaaGreatDoor
namespace Go.Proofs.YtfpagioknjjacaaGreatDoor
open Go.Sx
set_option linter.unusedSimpArgs false
set_option linter.unusedVariables false
set_option maxRecDepth 100000
set_option maxHeartbeats 40000000
abbrev eI (b:Bool):Int:=bif b then 0 else 1
theorem OKM_z {r c:Nat} (hr:r≤2048) (hc:c≤2048):OKM r c (zL (r*c)):=⟨hr,hc,zL_len _⟩
theorem range3 (i:Int) (R:Nat):∃b1 b2,decide (i≥0)=b1∧decide (i<(R:Int))=b2∧((b1=false∧b2=true)∨(b1=true∧b2=false)∨(b1=true∧b2=true)):=by
 refine⟨_,_,rfl,rfl, ?_⟩
 by_cases h1:i≥0
 ·by_cases h2:i<(R:Int)
  ·exact .inr (.inr ⟨decide_eq_true h1,decide_eq_true h2⟩)
  ·exact .inr (.inl ⟨decide_eq_true h1,decide_eq_false h2⟩)
 ·exact .inl ⟨decide_eq_false h1,decide_eq_true (by omega)⟩
theorem in_range {i:Int} {R:Nat} {b1 b2:Bool} (h1:decide (i≥0)=b1) (h2:decide (i<(R:Int))=b2):(b1&&b2)=true↔(0≤i∧i<(R:Int)):=by
 rw[←h1,←h2];simp
theorem el_zero {r c i k:Nat} (hi:i<r) (hk:k<c):el (zL (r*c)) c i k=0:=get_zero (idx_lt hi hk)
section
variable {R C:Nat} (hA:OKM R C (zL (R*C)))
include hA
theorem z_At {i k:Int} {b1 b2 b3 b4:Bool} (h1:decide (i≥0)=b1) (h2:decide (i<(R:Int))=b2) (h3:decide (k≥0)=b3) (h4:decide (k<(C:Int))=b4):
  CallOK Tryz.prog 78 [mA R C (zL (R*C)),iv i,iv k] [] (.tup [.frac 0,.val (.bool (((b1&&b2)&&b3)&&b4))]) [] []:=by
 have e1:=in_range h1 h2
 have e2:=in_range h3 h4
 cases hb:((b1&&b2)&&b3)&&b4
 ·refine m_AtNo R C _ hA fun h=> ?_
  have f1:=e1.2 ⟨h.1,h.2.1⟩
  have f2:=e2.2 h.2.2
  rw[Bool.and_assoc,f1,f2]at hb
  cases hb
 ·rw[Bool.and_assoc,Bool.and_eq_true]at hb
  obtain⟨f1,f2⟩:=e1.1 hb.1
  obtain⟨f3,f4⟩:=e2.1 hb.2
  obtain⟨i,rfl⟩:=Int.eq_ofNat_of_zero_le f1
  obtain⟨k,rfl⟩:=Int.eq_ofNat_of_zero_le f3
  have:=m_At R C _ hA (i:=i) (k:=k) (by omega) (by omega)
  rwa [el_zero (by omega) (by omega)]at this
theorem z_Row {i:Int} {b1 b2:Bool} (h1:decide (i≥0)=b1) (h2:decide (i<(R:Int))=b2):∃v,CallOK Tryz.prog 19 [mA R C (zL (R*C)),iv i] [] (.tup [fvec v,iv (eI (b1&&b2))]) [] []:=by
 have e1:=in_range h1 h2
 cases hb:b1&&b2
 ·exact⟨[],m_RowI hA (fun h=>by rw[e1.2 h]at hb;cases hb)⟩
 ·obtain⟨f1,f2⟩:=e1.1 hb
  obtain⟨i,rfl⟩:=Int.eq_ofNat_of_zero_le f1
  exact⟨_,m_Row hA (i:=i) (by omega)⟩
theorem z_Col {i:Int} {b1 b2:Bool} (h1:decide (i≥0)=b1) (h2:decide (i<(C:Int))=b2):∃v,CallOK Tryz.prog 79 [mA R C (zL (R*C)),iv i] [] (.tup [fvec v,iv (eI (b1&&b2))]) [] []:=by
 have e1:=in_range h1 h2
 cases hb:b1&&b2
 ·exact⟨[],m_ColI hA (fun h=>by rw[e1.2 h]at hb;cases hb)⟩
 ·obtain⟨f1,f2⟩:=e1.1 hb
  obtain⟨i,rfl⟩:=Int.eq_ofNat_of_zero_le f1
  exact⟨_,m_Col hA (i:=i) (by omega)⟩
theorem z_PartR {i:Int} {b1 b2:Bool} (h1:decide (i≥0)=b1) (h2:decide (i<(R:Int))=b2):∃x y v,CallOK Tryz.prog 95 [mA R C (zL (R*C)),ivec .i64 [i],.val (.slice none 0 0)] [] (.tup [mA x y v,iv (eI (b1&&b2))]) [] []:=by
 have e1:=in_range h1 h2
 cases hb:b1&&b2
 ·have hx:([i].any (outF R))=true:=by
   simp only[List.any_cons,List.any_nil,Bool.or_false,outF,Bool.not_eq_true',decide_eq_false_iff_not]
   exact fun h=>by rw[e1.2 h]at hb;cases hb
  exact⟨0,0,[],(m_PartE hA [i] [] (by simp) (by simp) (.inl hx)).wk (by repeat(first|exact WkL.nil|refine WkL.cons ?_ ?_|exact Wk.nil|exact Wk.refl|refine Wk.agg ?_))⟩
 ·have hx:∀x∈[i],0≤x∧x<(R:Int):=fun x hx=>by
   simp only[List.mem_cons,List.not_mem_nil,or_false]at hx
   subst hx;exact e1.1 hb
  exact⟨_,_,_,(m_Part hA [i] [] (by simp) (by simp) hx (fun x hx=>by cases hx)).wk (by repeat(first|exact WkL.nil|refine WkL.cons ?_ ?_|exact Wk.nil|exact Wk.refl|refine Wk.agg ?_))⟩
theorem z_PartC {i:Int} {b1 b2:Bool} (h1:decide (i≥0)=b1) (h2:decide (i<(C:Int))=b2):∃x y v,CallOK Tryz.prog 95 [mA R C (zL (R*C)),.val (.slice none 0 0),ivec .i64 [i]] [] (.tup [mA x y v,iv (eI (b1&&b2))]) [] []:=by
 have e1:=in_range h1 h2
 cases hb:b1&&b2
 ·have hx:([i].any (outF C))=true:=by
   simp only[List.any_cons,List.any_nil,Bool.or_false,outF,Bool.not_eq_true',decide_eq_false_iff_not]
   exact fun h=>by rw[e1.2 h]at hb;cases hb
  exact⟨0,0,[],(m_PartE hA [] [i] (by simp) (by simp) (.inr hx)).wk (by repeat(first|exact WkL.nil|refine WkL.cons ?_ ?_|exact Wk.nil|exact Wk.refl|refine Wk.agg ?_))⟩
 ·have hx:∀x∈[i],0≤x∧x<(C:Int):=fun x hx=>by
   simp only[List.mem_cons,List.not_mem_nil,or_false]at hx
   subst hx;exact e1.1 hb
  exact⟨_,_,_,(m_Part hA [] [i] (by simp) (by simp) (fun x hx=>by cases hx) hx).wk (by repeat(first|exact WkL.nil|refine WkL.cons ?_ ?_|exact Wk.nil|exact Wk.refl|refine Wk.agg ?_))⟩
theorem z_Add:∃s,CallOK Tryz.prog 17 [mA R C (zL (R*C)),mA ((R+1:Nat):Int) C (zL ((R+1)*C))] [] (.tup [mA 0 0 [],iv s]) [] []∧(R≠2048→s=1):=by
 have h1:=hA.r
 have h2:=hA.c
 have h3:=Nat.mul_le_mul_right C (show R+1≤2049 by omega)
 by_cases hR:R=2048
 ·have hc:checkF ((R+1:Nat):Int) C (zL ((R+1)*C)).length=3:=by unfold checkF;rw[show sidesF ((R+1:Nat):Int) C=3 from by unfold sidesF;rw[if_neg (by omega),if_pos (.inl (by omega))]];rfl
  have e:all2 R C ((R+1:Nat):Int) C (zL (R*C)) (zL ((R+1)*C))=3:=by rw[all2,allF,if_neg (by rw[check_ok hA.r hA.c hA.n];decide),allF,if_pos (by rw[hc];decide),hc]
  have:=m_AddE R C ((R+1:Nat):Int) C (zL (R*C)) (zL ((R+1)*C)) (by have:=hA.small;omega) (by rw[zL_len];omega) (by rw[e];decide)
  rw[e]at this
  exact⟨3,this,fun h=>absurd hR h⟩
 ·exact⟨1,m_AddS hA (OKM_z (r:=R+1) (by omega) h2) (.inl (by omega)),fun _=>rfl⟩
theorem z_Sub:∃s,CallOK Tryz.prog 65 [mA ((R+1:Nat):Int) C (zL ((R+1)*C)),mA R C (zL (R*C))] [] (.tup [mA 0 0 [],iv s]) [] []∧(R≠2048→s=1):=by
 have h1:=hA.r
 have h2:=hA.c
 have h3:=Nat.mul_le_mul_right C (show R+1≤2049 by omega)
 by_cases hR:R=2048
 ·have hc:checkF ((R+1:Nat):Int) C (zL ((R+1)*C)).length=3:=by unfold checkF;rw[show sidesF ((R+1:Nat):Int) C=3 from by unfold sidesF;rw[if_neg (by omega),if_pos (.inl (by omega))]];rfl
  have e:all2 ((R+1:Nat):Int) C R C (zL ((R+1)*C)) (zL (R*C))=3:=by rw[all2,allF,if_pos (by rw[hc];decide),hc]
  have:=m_SubE ((R+1:Nat):Int) C R C (zL ((R+1)*C)) (zL (R*C)) (by rw[zL_len];omega) (by have:=hA.small;omega) (by rw[e];decide)
  rw[e]at this
  exact⟨3,this,fun h=>absurd hR h⟩
 ·exact⟨1,m_SubS (OKM_z (r:=R+1) (by omega) h2) hA (.inl (by omega)),fun _=>rfl⟩
theorem z_Mul:∃s,CallOK Tryz.prog 67 [mA R C (zL (R*C)),.agg [iv ((C+1:Nat):Int),iv 0,.val (.slice none 0 0)]] [] (.tup [mA 0 0 [],iv s]) [] []∧(C≠2048→s=1):=by
 have h2:=hA.c
 by_cases hC:C=2048
 ·have hc:checkF ((C+1:Nat):Int) 0 ([]:List Rat).length=3:=by unfold checkF;rw[show sidesF ((C+1:Nat):Int) 0=3 from by unfold sidesF;rw[if_neg (by omega),if_pos (.inl (by omega))]];rfl
  have e:all2 R C ((C+1:Nat):Int) 0 (zL (R*C)) []=3:=by rw[all2,allF,if_neg (by rw[check_ok hA.r hA.c hA.n];decide),allF,if_pos (by rw[hc];decide),hc]
  have:=m_MulE R C ((C+1:Nat):Int) 0 (zL (R*C)) [] (by have:=hA.small;omega) (by decide) (by rw[e];decide)
  rw[e]at this
  exact⟨3,this.wk (by repeat(first|exact WkL.nil|refine WkL.cons ?_ ?_|exact Wk.nil|exact Wk.refl|refine Wk.agg ?_)),fun h=>absurd hC h⟩
 ·have hB:OKM (C+1) 0 []:=⟨by omega,by omega,rfl⟩
  exact⟨1,(m_MulS hA hB (by omega)).wk (by repeat(first|exact WkL.nil|refine WkL.cons ?_ ?_|exact Wk.nil|exact Wk.refl|refine Wk.agg ?_)),fun _=>rfl⟩
end
end Go.Proofs.YtfpagioknjjacaaGreatDoor
