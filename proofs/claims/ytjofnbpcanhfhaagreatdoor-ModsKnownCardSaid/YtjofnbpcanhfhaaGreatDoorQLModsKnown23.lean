/- The texts Uc. -/
import Derived.Test.YtjofnbpcanhfhaaGreatDoorQLModsKnown22
namespace Go.Proofs.YtjofnbpcanhfhaaGreatDoor
open Go.Sx
set_option linter.unusedSimpArgs false
set_option linter.unusedVariables false
set_option maxRecDepth 100000
set_option maxHeartbeats 4000000
theorem r_OfWords (xs:List Int) (hl:xs.length≤1000) (hx:W32 xs):
  CallOK Tryz.prog 62 [ivec .u32 xs] [] (nN (valI xs xs.length).toNat) [] []:=by
 refine callF (Z:=[]) tabOK mixedOK Tryz.func62 rfl (by kernel_rfl) (by first|rfl|(simp[keylessL,keyless,keylessL_map, *];done)) (by first|rfl|(simp[keylessL,keyless,keylessL_map, *];done)) (by kernel_rfl) rfl ?_
 intro w0 ρ0 hE
 conv=>whnf
 have e0:Hid (IntKind.i64.wrap ((xs.length:Int) - 1)=(xs.length:Int) - 1):=show IntKind.i64.wrap ((xs.length:Int) - 1)=(xs.length:Int) - 1 from wrap_i64 (by omega) (by omega)
 (repeat(first|(refine g_o (op_lenM rfl rfl rfl (ev_ok rfl) (tgt rfl) rfl) ?_;conv=>whnf)|(rw[e0.out];conv=>whnf)))
 refine SWx_adopt (t:=3) (k:=2001) (s:=1) (blk:=zblk []) rfl rfl rfl ?_
 refine SWx_frzI 3 2001 (fun _ h=>h) rfl rfl rfl ?_
 refine SW_loopN hE (fun k=>k) [0,3,4] [] (fun j fr hp=>∃(o:Nat),j≤xs.length∧(o:Int)*4294967296^j+valI xs j=valI xs xs.length∧sz o≤32*(xs.length - j)∧
  fr=[(0,ivec .u32 xs),(3,nN o),(4,.val (.int .i64 ((j:Int) - 1)))]∧hp=[]) xs.length ?_ ?_ ?_
 ·kernel_rfl
 ·exact⟨0,Nat.le_refl _,by simp,by rw[sz_zero];omega,rfl,rfl⟩
 rintro j _ _ ⟨o,hj,hval,ho,rfl,rfl⟩
 by_cases h0:j=0
 ·subst h0
  have t1:Hid (decide (((0:Nat):Int) - 1≥0)=false):=show decide (((0:Nat):Int) - 1≥0)=false from rfl
  have e:(valI xs xs.length).toNat=o:=by rw[←hval,Int.pow_zero,valI];omega
  rw[e]
  conv=>whnf
  (repeat(first|(refine step_w2 rfl rfl ?_;conv=>whnf)));(first|exact Recast.refl _|exact Frz.recast (Recast.refl _) rfl|(refine Frz.one rfl rfl ?_;skip)|(refine Frz.tup ?_;skip))
 ·obtain⟨k,rfl⟩:∃k,j=k+1:=⟨j - 1,by omega⟩
  obtain⟨w,hw⟩:=Int.eq_ofNat_of_zero_le (hx k).1
  have hw2:=(hx k).2
  have t1:Hid (decide (((k+1:Nat):Int) - 1≥0)=true):=show decide (((k+1:Nat):Int) - 1≥0)=true from decide_eq_true (by omega)
  have i1:Hid (((k+1:Nat):Int) - 1=(k:Int)):=show((k+1:Nat):Int) - 1=(k:Int)from by omega
  have i3:Hid (xs.getD k 0=(w:Int)):=show xs.getD k 0=(w:Int)from hw
  have i4:Hid (IntKind.u64.wrap (w:Int)=(w:Int)):=show IntKind.u64.wrap (w:Int)=(w:Int)from wu64 (by omega)
  have i5:Hid (IntKind.i64.wrap ((k:Int) - 1)=(k:Int) - 1):=show IntKind.i64.wrap ((k:Int) - 1)=(k:Int) - 1 from wrap_i64 (by omega) (by omega)
  have ol:(td o).length≤32000:=tl_sz (Nat.le_trans ho (by omega))
  have wl:(td w).length≤3:=tlen_le (by omega)
  have fl:(td 4294967296).length≤3:=tlen_le (by decide)
  have ml:(td (o*4294967296)).length≤32003:=Nat.le_trans tl_mul (by omega)
  have k1:=r_Of 4294967296 (by decide)
  have k2:=r_Mul o 4294967296 (by omega) (by omega)
  have k3:=r_Of w (by omega)
  have hs:sz (o*4294967296+w)≤32*(xs.length - k):=by
   refine sz_le.2 ?_
   have h1:=sz_le.1 ho
   have h2:2^(32*(xs.length - k))=2^(32*(xs.length - (k+1)))*4294967296:=by rw[show 32*(xs.length - k)=32*(xs.length - (k+1))+32 from by omega,Nat.pow_add]
   omega
  have k4:=r_Add (o*4294967296) w (by omega) (by omega)
  conv=>whnf
  (repeat((first|refine step_w1 rfl rfl ?_|refine step_i (by kernel_rfl) ?_|refine g_c (by assumption) ?_|refine g_o (op_loadA rfl (ev_ok rfl) (tgt rfl) rfl (Nat.succ_ne_zero _) rfl) ?_|refine g_o (op_indexM (α:=Int) (d:=0) rfl (ev_ok rfl) (ev_ok rfl) (tgt rfl) rfl (tgt rfl) rfl (by omega)) ?_|rw[t1.out]|rw[i1.out]|rw[i3.out]|rw[i4.out]|rw[Int.toNat_natCast]);conv=>whnf))
  rw[i5.out]
  refine⟨k,fun k=>k,[0,3,4],[],by omega,by kernel_rfl,o*4294967296+w,by omega, ?_,hs,rfl,rfl⟩
  rw[valI,hw,Int.pow_succ]at hval
  rw[←hval,Int.natCast_add,Int.natCast_mul]
  generalize (4294967296:Int)^k=P
  generalize valI xs k=v
  grind
theorem op_fieldV {P:Program} {o:Oper} {ft:List (Nat×SV)} {fk:List (Nat×Blk)} {cs:List SV} {c:SV} {S:TypeId} {x:Operand} {j off e:Nat} {ti te:TI} {fs:List (Nat×TypeId×Nat)} {l:List SV} (ho:o.op= .field S x j) (hx:EvOK ft x (.agg cs)) (ht:TOK P S ti)
  (hk:ti.kind= .agg fs) (hj:fs[j]? =some (off,e,1)) (hs:sub 64 cs off 1=some l) (he:TOK P e te) (hna:te.kind.isAgg=false) (hsh:shapeAs te l=some c):OpOK P o ft fk c [] []:=
 ok_pure fun ρ a w hp=>by
  have hv:=hx ρ a hp.hft
  simp only[Has,HasC]at hv
  obtain⟨x',⟨z,h2,rfl⟩,hv⟩:=hv
  obtain⟨y,g1,g2,g3⟩:=sub_has 64 cs off 1 l z hs h2
  have g3:=g3.resolve_left (by decide)
  have hkd:=ht.kind
  rw[hk]at hkd
  obtain⟨k1,k2,k3⟩:=hkd
  have hf:∃fd,(P.fieldsOf S)[j]? =some fd∧fd.offset=off∧fd.type=e:=by
   rw[←k2,List.getElem?_map]at hj
   cases hq:(P.fieldsOf S).toList[j]? with
   |none=>rw[hq]at hj;simp at hj
   |some fd=>
    rw[hq]at hj
    simp only[Option.map_some,Option.some.injEq,Prod.mk.injEq]at hj
    exact⟨fd,by simpa using hq,hj.1,hj.2.1⟩
  obtain⟨fd,f1,f2,f3⟩:=hf
  have hlt:off<z.flatten.length:=by omega
  have hz1:z.flatten[off]? =some (y.flatten.headD undef):=by
   rw[g2,List.getElem?_eq_getElem hlt,List.drop_eq_getElem_cons hlt];rfl
  refine⟨y.flatten.headD undef, ?_,shapeAs_has hsh g1 (by rw[hna];rfl)⟩
  have hp':(part e z.flatten.toArray off).run P w= .ok (y.flatten.headD undef) w:=by
   unfold part
   rw[Sem.run_bind,he.isAgg]
   simp[hna,hz1]
  have hv':a.eval x= .agg z.flatten.toArray:=by rw[hv];rfl
  simp only[execOp,ho,Instr.field,hv',asAgg,Sem.run_bind,Sem.run_pure,Result.andThen_ok,run_underlying k1,f1,f2,f3,hp']
theorem r2_ZRef (z:Bool×List Int) (hl:z.2.length≤1000) (hx:W32 z.2):CallOK Tryz.prog 34 [zV z] [] (zZ (zI z)) [] []:=by
 have k1:=r_OfWords z.2 hl hx
 have hs:=sz_val hx z.2.length
 have k2:=r2_From' (neg:=z.1) (n:=(valI z.2 z.2.length).toNat) (z:=zI z) rfl (Nat.lt_of_le_of_lt (tl_sz (M:=32000) (by omega)) (by decide))
 refine callV (Z:=[1]) tabOK mixedOK Tryz.func34 rfl (by kernel_rfl) rfl rfl (by kernel_rfl) rfl ?_
 intro W0 w0 ρ0 hE
 conv=>whnf
 (repeat((first|refine step_i (by kernel_rfl) ?_|refine g_c (by assumption) ?_|refine g_o (op_loadA rfl (ev_ok rfl) (tgt rfl) rfl (Nat.succ_ne_zero _) rfl) ?_|refine g_o (op_fieldA rfl (ev_ok rfl) (tgt rfl) rfl rfl (Nat.succ_ne_zero _) rfl) ?_);conv=>whnf))
 exact Recast.refl _
theorem r3_GreatRef (g:(Bool×List Int)×List Int) (l1:g.1.2.length≤1000) (h1:W32 g.1.2) (l2:g.2.length≤1000) (h2:W32 g.2):CallOK Tryz.prog 30 [gV g] [] (fF (gQ g)) [] []:=by
 have s1:=sz_zI h1
 have s2:=sz_val h2 g.2.length
 have k1:=r2_ZRef g.1 l1 h1
 have k2:=c_gden g
 have k3:=r2_ZRef (false,g.2) l2 h2
 have k4:=r2_Of 1 (by decide) (by decide)
 have e:zI (false,g.2)=((valI g.2 g.2.length).toNat:Int):=rfl
 rw[e]at k3
 unfold gQ
 generalize (valI g.2 g.2.length).toNat=d at*
 generalize zI g.1=n at*
 have hs1:sz (d+1)≤32001:=sz_add (k:=32000) (by omega) (by rw[sz_one];omega)
 have hd:(td d).length≤32000:=tl_sz (by omega)
 have hd1:(td (d+1)).length≤32001:=tl_sz hs1
 have hn:(td n.natAbs).length≤32000:=tl_sz (by omega)
 have k5:=r2_Add (d:Int) 1 (by rw[Int.natAbs_natCast];omega) (by decide)
 have e2:(d:Int)+1=((d+1:Nat):Int):=rfl
 rw[e2]at k5
 have k6:=r3_From n (d+1) (Nat.succ_ne_zero _) (by omega) (by omega)
 have e3:Int.natAbs ((d+1:Nat):Int)=d+1:=Int.natAbs_natCast _
 refine callV (Z:=[1]) tabOK mixedOK Tryz.func30 rfl (by kernel_rfl) rfl rfl (by kernel_rfl) rfl ?_
 intro W0 w0 ρ0 hE
 conv=>whnf
 (repeat((first|refine step_i (by kernel_rfl) ?_|refine g_c (by assumption) ?_|refine g_o (op_loadA rfl (ev_ok rfl) (tgt rfl) rfl (Nat.succ_ne_zero _) rfl) ?_|refine g_o (op_fieldA rfl (ev_ok rfl) (tgt rfl) rfl rfl (Nat.succ_ne_zero _) rfl) ?_|refine g_o (op_fieldV rfl (ev_ok rfl) (tgt rfl) rfl rfl rfl (tgt rfl) rfl rfl) ?_);conv=>whnf))
 exact Recast.refl _
end Go.Proofs.YtjofnbpcanhfhaaGreatDoor
