/- The texts Qj. -/
import Derived.Test.YtfjhnollamkdcaaGreatDoorQsA16
namespace Go.Proofs.YtfjhnollamkdcaaGreatDoor
open Go.Sx
set_option linter.unusedSimpArgs false
set_option linter.unusedVariables false
set_option maxRecDepth 100000
set_option maxHeartbeats 40000000
theorem HasZ_fracsU {ρ:Rho}:∀(xs:List Rat) (z:List (List Value)),HasZ ρ (xs.map .frac) z→z=xs.map fracCells
 |[],z,h=>by simpa only[List.map_nil,HasZ]using h
 |x::xs,z,h=>by
  simp only[List.map_cons,HasZ]at h
  obtain⟨y,r,rfl,h1,h2⟩:=h
  rw[HasZ_fracsU xs r h2]
  simp only[HasC]at h1
  rw[h1,List.map_cons]
theorem rows_fracs (xs:List Rat):∀(ρ:Rho) z,HasZ (bareR ρ.imm ρ.glob) (xs.map .frac) z→(∀x∈xs.map SV.frac,x.width=5)→Go.Sx.Rows ρ 5 (.fracs xs) z:=
 fun ρ z h _=>⟨rfl,HasZ_fracsU xs z h⟩
def augW (a:List Rat) (c:Nat) (b:Mx):Mx:=fun i q=>if q<c then el a c i q else b i (q - c)
def parW (a:List Rat) (c:Nat) (b:Mx) (i k:Nat):Nat→Rat:=fun q=>if q<c then el a c i q else if q<c+k then b i (q - c)else 0
theorem rwL_ext {n:Nat} {f:Nat→Rat} {l:List Rat} (hl:l.length=n) (h:∀q,q<n→l.getD q 0=f q):l=rwL n f:=range_ext hl h
theorem getD_app {l m:List Rat} {q:Nat}:(l++m).getD q 0=if q<l.length then l.getD q 0 else m.getD (q - l.length) 0:=by
 simp only[List.getD_eq_getElem?_getD]
 by_cases h:q<l.length
 ·rw[if_pos h,List.getElem?_append_left h]
 ·rw[if_neg h,List.getElem?_append_right (by omega)]
theorem par_start {r c more:Nat} {a:List Rat} (b:Mx) {i:Nat} (hi:i<r) (ha:a.length=r*c):rowL a c i++List.replicate more 0=rwL (c+more) (parW a c b i 0):=by
 have hl:=rowL_len hi ha
 refine rwL_ext (by simp[hl]) fun q hq=> ?_
 rw[getD_app,hl]
 unfold parW
 by_cases h:q<c
 ·rw[if_pos h,if_pos h,rowL_get h]
 ·rw[if_neg h,if_neg h,if_neg (by omega)]
  simp[List.getD_eq_getElem?_getD,List.getElem?_replicate]
  split<;>rfl
theorem par_set {c more k:Nat} {a:List Rat} {b:Mx} {i:Nat} (hk:k<more):(rwL (c+more) (parW a c b i k)).set (c+k) (b i k)=rwL (c+more) (parW a c b i (k+1)):=by
 refine rwL_ext (by rw[List.length_set,rwL_len]) fun q hq=> ?_
 by_cases e:q=c+k
 ·subst e
  rw[set_at (by rw[rwL_len];omega)]
  unfold parW
  rw[if_neg (by omega),if_pos (by omega),Nat.add_sub_cancel_left]
 ·rw[set_off e,rwL_get hq]
  unfold parW
  by_cases h:q<c
  ·rw[if_pos h,if_pos h]
  ·rw[if_neg h,if_neg h]
   by_cases g:q<c+k
   ·rw[if_pos g,if_pos (by omega)]
   ·rw[if_neg g,if_neg (by omega)]
theorem par_end {c more:Nat} {a:List Rat} {b:Mx} {i:Nat}:rwL (c+more) (parW a c b i more)=rwL (c+more) (augW a c b i):=by
 refine rwL_ext (rwL_len _ _) fun q hq=> ?_
 rw[rwL_get hq]
 unfold parW augW
 by_cases h:q<c
 ·rw[if_pos h,if_pos h]
 ·rw[if_neg h,if_neg h,if_pos hq]
def stB (c n:Nat) (w:Mx):Nat→List (Nat×Blk)
 |0=>[(1001,⟨176,true,.one [.val (.slice none 0 0),iv c,.val (.slice none 0 0),.frac 1]⟩)]
 |i+1=>(1001,⟨176,true,.one [.slc 1002 1 0 (i+1),iv c,.val (.slice none 0 0),.frac 1]⟩)::(1002,rkB true (cellsH (i+1) n))::rowsH (rowsM n w) (i+1) 0
def ksB:Nat→List Nat
 |0=>[1001]
 |i+1=>1001::1002::keysH (i+1)
theorem copy_row {c more:Nat} {l:List Rat} (hl:l.length=c):dcopy (.fracs (List.replicate (c+more) 0)) 0 (.fracs l) 0 c=some (.fracs (l++List.replicate more 0)):=by
 simp only[dcopy,List.take_zero,List.nil_append,List.drop_zero,Nat.zero_add,List.drop_replicate,Nat.add_sub_cancel_left]
 rw[List.take_of_length_le (by omega)]
theorem e_begun0 {r c:Nat} (more:Nat) (a:List Rat) (b:Mx) (g:FuncId) (hr:r≤6) (hr1:1≤r) (ha:OKM r c a) (hc:c≤40) (hm:more≤40)
  (hb:∀i k,i<r→k<more→CallOK Tryz.prog g ([]++([iv (i:Nat),iv (k:Nat)]++[])) [] (.frac (b i k)) [] []):
  CallOK Tryz.prog 114 [mA r c a,iv more,.clo g [] []] [] (.ptr 1001 0 0 0) (hpH r c (c+more) (augW a c b)) []:=by
 have t0:IntKind.i64.wrap ((c:Int)+(more:Int))=((c+more:Nat):Int):=by rw[wrap_i64 (by omega) (by omega)];omega
 have k0:CallOK Tryz.prog 26 [iv 1] [] (.frac 1) [] []:=c_fInt 1 (by decide) (by decide)
 rcases(show r=1∨r=2∨r=3∨r=4∨r=5∨r=6 by omega)with e1|e1|e1|e1|e1|e1
 all_goals first|omega|skip
 all_goals
  rw[e1]
  refine callID (Z:=[3]) tabOK mixedOK Tryz.func114 rfl (by kernel_rfl) (ShapeOKD.of rfl rfl rfl rfl rfl rfl rfl rfl rfl rfl rfl) rfl (NamesOK.id rfl) ?_
  intro W0 w0 ρ0 hE
  conv=>whnf
  (repeat((first|refine step_i (by kernel_rfl) ?_|refine g_c (by assumption) ?_|refine g_o (op_loadA rfl (ev_ok rfl) (tgt rfl) rfl (Nat.succ_ne_zero _) rfl) ?_|refine g_o (op_fieldA rfl (ev_ok rfl) (tgt rfl) rfl rfl (Nat.succ_ne_zero _) rfl) ?_);conv=>whnf))
  refine SW_loopN hE (fun k=>cond (Nat.beq k 15) 1001 k) [1,2,3,7,17,18] [15] (fun m' fr hp=>∃i:Nat,m'=r - i∧i≤r∧fr=[(1,iv more),(2,.clo g [] []),(3,ptrA (mC r c a)),(7,.ptr 1001 0 0 0),(17,iv r),(18,iv i)]∧hp=stB c (c+more) (augW a c b) i) r ?_ ?_ ?_
  ·kernel_rfl
  ·exact⟨0,rfl,Nat.zero_le _,by subst e1;rfl,rfl⟩
  rintro m' _ _ ⟨i,rfl,hi,rfl,rfl⟩
  by_cases hlt:i<r
  ·have hid:i=0∨i=1∨i=2∨i=3∨i=4∨i=5:=by omega
   obtain⟨t3,t4,t5⟩:=row_w (i:=i) (c:=c) (by omega) (by omega)
   have hl:=rowL_len hlt ha.n
   have hps:=par_start (more:=more) b hlt ha.n
   have hin:(i+1)*c≤a.length:=by rw[ha.n];exact Nat.mul_le_mul_right c hlt
   obtain⟨KB,hKB⟩:∃K,K=25::ksB i:=⟨_,rfl⟩
   obtain⟨KE,hKE⟩:∃K,K=(1001::62::keysH i)++[25]:=⟨_,rfl⟩
   obtain⟨σ,hσ⟩:∃f:Nat→Nat,f=fun q=>cond (Nat.beq q 62) 1002 (cond (Nat.beq q 25) (3010+i) q):=⟨_,rfl⟩
   rcases hid with e3|e3|e3|e3|e3|e3
   all_goals first|omega|skip
   all_goals
    have s3:=t3
    have s4:=t4
    have s5:=t5
    have hil:=hl
    have hX:List.take ((i+1)*c - i*c) (List.drop (i*c) a)=rowL a c i:=by rw[Nat.succ_mul,Nat.add_sub_cancel_left]
    have hin2:=hin
    rw[e3]at s3 s4 s5 hil hin2 hX
    rw[e1,e3]
    conv=>whnf
    (repeat(first|(refine step_w1 rfl rfl ?_;conv=>whnf)|(refine step_oA (by first|omega|decide|(simp only[tl0,dlen,List.length_replicate,List.length_set,List.length_map,List.length_zipWith,List.length_take,List.length_append,List.length_cons,List.length_nil];omega)) ?_;conv=>whnf)|(refine g_o (op_loadA rfl (ev_ok rfl) (tgt rfl) rfl (Nat.succ_ne_zero _) rfl) ?_;conv=>whnf)|(refine g_o (op_fieldA rfl (ev_ok rfl) (tgt rfl) rfl rfl (Nat.succ_ne_zero _) rfl) ?_;conv=>whnf)|(refine g_o (op_sliceM rfl (ev_ok rfl) (bound_spec rfl) (bound_spec rfl) (.inl rfl) (tgt rfl) rfl (tgt rfl) rfl (by omega)) ?_;conv=>whnf)|(refine⟨_,[(25,fblk (List.replicate (c+more) 0))],[],[(25,fblk (rowL a c _++List.replicate more 0))],op_copyV (c:=c) (n:=c+more) (m:=c) (i:=0) (k:=25) rfl rfl rfl (ev_ok rfl) (ev_ok rfl) (rows_fracs _) (tabOK.get (t:=28) rfl) rfl (tabOK.get (t:=49) rfl) (List.mem_cons_self ..) rfl rfl (by simp[dlen]) (by rw[List.length_map];exact hil.symm) (by show 0+c≤List.length _;omega) (Nat.min_eq_left (Nat.le_add_right _ _)).symm (copy_row hil),one_fk rfl,nil_new,one_upd (List.mem_cons_self ..) rfl rfl rfl, ?_⟩;conv=>whnf)|(rw[t0];conv=>whnf)|(rw[s3];conv=>whnf)|(rw[s4];conv=>whnf)|(rw[s5];conv=>whnf)|(rw[hX];conv=>whnf)|(rw[Int.toNat_natCast];conv=>whnf)|(rw[Nat.zero_add];conv=>whnf)))
    refine SW_loopN hE (fun k=>k) [1,2,3,7,8,9,17,18,40,41] KB (fun m'' fr hp=>∃k:Nat,m''=more - k∧k≤more∧fr=[(1,iv more),(2,.clo g [] []),(3,ptrA (mC r c a)),(7,.ptr 1001 0 0 0),(8,iv i),(9,.slc 25 5 0 (c+more)),(17,iv r),(18,iv i),(40,iv more),(41,iv k)]∧hp=(25,fblk (rwL (c+more) (parW a c b i k)))::stB c (c+more) (augW a c b) i) more ?_ ?_ ?_
    ·subst e1 e3 hKB;kernel_rfl
    ·exact⟨0,rfl,Nat.zero_le _,by subst e1 e3;rfl,by rw[←hps];subst e1 e3 hKB;rfl⟩
    rintro m'' _ _ ⟨k,rfl,hk,rfl,rfl⟩
    have hz:=rwL_len (c+more) (parW a c b i k)
    by_cases hkm:k<more
    ·have t6:=dlt hkm
     have t7:=winc (i:=k) (by omega)
     have t8:IntKind.i64.wrap ((c:Int)+(k:Int))=((c+k:Nat):Int):=by rw[wrap_i64 (by omega) (by omega)];omega
     have kb:=hb i k hlt hkm
     have hset:=par_set (a:=a) (b:=b) (c:=c) (i:=i) hkm
     rw[e3]at hz kb
     rw[e1,e3]
     conv=>whnf
     (repeat((first|refine step_i (by kernel_rfl) ?_|refine step_oL (by first|omega|decide|(simp only[tl0,dlen,List.length_replicate,List.length_set,List.length_map,List.length_zipWith,List.length_take,List.length_append,List.length_cons,List.length_nil];omega)) ?_|refine step_oA (by first|omega|decide|(simp only[tl0,dlen,List.length_replicate,List.length_set,List.length_map,List.length_zipWith,List.length_take,List.length_append,List.length_cons,List.length_nil];omega)) ?_|refine g_c (by assumption) ?_|refine tst_tt t6 ?_|refine g_o (op_loadA rfl (ev_ok rfl) (tgt rfl) rfl (Nat.succ_ne_zero _) rfl) ?_|refine g_o (op_fieldA rfl (ev_ok rfl) (tgt rfl) rfl rfl (Nat.succ_ne_zero _) rfl) ?_|rw[t6]|rw[t7]|rw[t8]|rw[Int.toNat_natCast]|rw[Nat.zero_add]);conv=>whnf))
     exact⟨_,fun k=>k,[1,2,3,7,8,9,17,18,40,41],KB,Nat.sub_lt_sub_left hkm (Nat.lt_succ_self _),by subst e1 e3 hKB;kernel_rfl,k+1,rfl,hkm,by subst e1 e3;rfl,by subst e1 e3 hKB;rw[←hset];rfl⟩
    ·have t6:=dge hkm
     obtain rfl:k=more:=by omega
     have hpe:=par_end (a:=a) (b:=b) (c:=c) (more:=k) (i:=i)
     rw[hpe]
     rw[e1,e3]
     conv=>whnf
     (repeat((first|refine tst_ff t6 ?_|refine⟨_,[],[(61,⟨28,true,.one [.slc 25 5 0 (c+k)]⟩)],[],op_buildSlice1 rfl (tabOK.get (t:=115) rfl) rfl (tabOK.get (t:=28) rfl) rfl rfl rfl rfl (by decide),nil_fk,one_new rfl,nil_upd, ?_⟩|refine⟨_,[(61,⟨28,true,.one [.slc 25 5 0 (c+k)]⟩)],[(62,_)],[],op_append1n (kn:=62) rfl rfl rfl (ev_ok rfl) (ev_ok rfl) (tabOK.get (t:=115) rfl) rfl (tabOK.get (t:=115) rfl) rfl (tabOK.get (t:=28) rfl) (List.mem_cons_self ..) rfl Nat.one_pos rfl rfl (by decide) (by decide),one_fk rfl,one_new rfl,nil_upd, ?_⟩|refine⟨_,[(1002,_),(61,⟨28,true,.one [.slc 25 5 0 (c+k)]⟩)],[(62,_)],[(1002,_)],op_append1 (kn:=62) rfl rfl rfl (ev_ok rfl) (ev_ok rfl) (tabOK.get (t:=115) rfl) rfl (tabOK.get (t:=115) rfl) rfl (tabOK.get (t:=28) rfl) (List.mem_cons_self ..) (List.mem_cons_of_mem _ (List.mem_cons_self ..)) (by rfl) rfl Nat.one_pos rfl (by rfl) rfl (by decide) (by decide),two_fk rfl rfl,one_new rfl,one_upd (List.mem_cons_self ..) rfl rfl rfl, ?_⟩|rw[t6]|rw[s5]|rw[Nat.zero_add]);conv=>whnf))
     subst e1 e3
     exact⟨_,σ,[1,2,3,7,17,18],KE,Nat.sub_lt_sub_left hlt (Nat.lt_succ_self _),by subst hσ hKE;kernel_rfl,_,rfl,hlt,by subst hσ;rfl,by subst hσ hKE;rfl⟩
  ·obtain rfl:i=r:=by omega
   subst e1
   conv=>whnf
   (repeat(first|(refine step_w2 rfl rfl ?_;conv=>whnf)))
   exact⟨Recast.refl _,by repeat(first|exact get_nil|refine get_cons rfl ?_),get_nil⟩
end Go.Proofs.YtfjhnollamkdcaaGreatDoor
