/- The texts W6. -/
import Derived.Test.YthaeohlijigplaaGreatQLTopFound5
namespace Go.Proofs.YthaeohlijigplaaGreat
open Go.Sx
set_option linter.unusedSimpArgs false
set_option linter.unusedVariables false
set_option maxRecDepth 100000
set_option maxHeartbeats 32000000
abbrev P3:=I2×I2×I2
abbrev c3A (t:P3):SV:=.agg [p2A t.1,p2A t.2.1,p2A t.2.2]
def wayF (x:M6) (i:Nat):Int:=if x.ce.length=0 then 0 else(x.ce.getD (i % x.ce.length) 0).tmod 8
def cellF (w:Int) (i:Nat) (X Y:Int):List P3:=
 if w<3∨w=7∧i=0 then[((X,Y),(X+2,Y),(X+2,Y+2)),((X,Y),(X+2,Y+2),(X,Y+2))]
 else if w<5 then[((X,Y),(X+2,Y),(X,Y+2)),((X+2,Y),(X+2,Y+2),(X,Y+2))]
 else if w<7 then[((X,Y),(X+2,Y),(X+1,Y+1)),((X+2,Y),(X+2,Y+2),(X+1,Y+1)),((X+2,Y+2),(X,Y+2),(X+1,Y+1)),((X,Y+2),(X,Y),(X+1,Y+1))]
 else[]
def cellA (x:M6) (n:Nat):Nat→List P3
 |0=>[]
 |i+1=>cellA x n i++cellF (wayF x i) i (2*((i % n:Nat):Int)) (2*((i/n:Nat):Int))
abbrev c3B (l:List P3):Blk:=⟨145,true,.seq 6 (l.map c3A)⟩
theorem app_c3 (A B:List P3):c3B (A++B)=⟨145,true,.seq 6 (List.take A.length (A.map c3A)++List.take B.length (List.drop 0 (B.map c3A)))⟩:=by
 rw[c3B,List.map_append,List.take_of_length_le (by simp),List.drop_zero,List.take_of_length_le (by simp)]
theorem cellF_len (w:Int) (i:Nat) (X Y:Int):(cellF w i X Y).length≤4:=by
 unfold cellF
 repeat' split
 all_goals simp
theorem cellA_len (x:M6) (n:Nat):∀i,(cellA x n i).length≤4*i
 |0=>by simp[cellA]
 |i+1=>by
  have:=cellA_len x n i
  have:=cellF_len (wayF x i) i (2*((i % n:Nat):Int)) (2*((i/n:Nat):Int))
  simp only[cellA,List.length_append];omega
def cellsL (x:M6):List P3:=cellA x (1+x.nx.toNat) ((1+x.nx.toNat)*(1+x.ny.toNat))
structure M6.OK (x:M6):Prop where
 nx:x.nx=0∨x.nx=1
 ny:x.ny=0∨x.ny=1
 ce:∀v∈x.ce,0≤v∧v<256
 cl:x.ce.length<9223372036854775808
 den:0≤x.den∧x.den<256
 fi:0≤x.fi∧x.fi<256
theorem c_cells (x:M6) (hx:x.OK):CallOK Tryz.prog 72 [m6A x] [] (mvec 6 c3A (cellsL x)) [] []:=by
 obtain⟨NX,hNX⟩:∃n:Nat,x.nx=n:=⟨x.nx.toNat,by have:=hx.nx;omega⟩
 obtain⟨NY,hNY⟩:∃n:Nat,x.ny=n:=⟨x.ny.toNat,by have:=hx.ny;omega⟩
 have hn1:NX≤1:=by have:=hx.nx;omega
 have hn2:NY≤1:=by have:=hx.ny;omega
 have m1:(NX:Int).tmod 3=NX:=Int.tmod_eq_of_lt (by omega) (by omega)
 have m2:(NY:Int).tmod 3=NY:=Int.tmod_eq_of_lt (by omega) (by omega)
 have w1:IntKind.i64.wrap (NX:Int)=NX:=wrap_i64 (by omega) (by omega)
 have w2:IntKind.i64.wrap (NY:Int)=NY:=wrap_i64 (by omega) (by omega)
 have w3:IntKind.i64.wrap (1+(NX:Int))=((1+NX:Nat):Int):=by rw[wrap_i64 (by omega) (by omega)];omega
 have w4:IntKind.i64.wrap (1+(NY:Int))=((1+NY:Nat):Int):=by rw[wrap_i64 (by omega) (by omega)];omega
 have hL:cellsL x=cellA x (1+NX) ((1+NX)*(1+NY)):=by rw[cellsL,hNX,hNY,Int.toNat_natCast,Int.toNat_natCast]
 rw[hL]
 obtain⟨n,hn⟩:∃n,1+NX=n:=⟨_,rfl⟩
 obtain⟨k,hk⟩:∃k,1+NY=k:=⟨_,rfl⟩
 rw[hn]at w3 ⊢
 rw[hk]at w4 ⊢
 have hN4:n*k≤4:=by
  obtain rfl|rfl:NX=0∨NX=1:=by omega
  all_goals obtain rfl|rfl:NY=0∨NY=1:=by omega
  all_goals subst hn hk;decide
 have w5:IntKind.i64.wrap ((n:Int)*(k:Int))=((n*k:Nat):Int):=by
  rw[wrap_i64 (by rw[←Int.natCast_mul];omega) (by rw[←Int.natCast_mul];omega),Int.natCast_mul]
 generalize n*k=N at*
 obtain⟨nx,ny,ce,k0,k1,k2,k3,den,fi⟩:=x
 simp only at hNX hNY
 subst hNX hNY
 obtain⟨x,hx0⟩:∃x:M6,(⟨(NX:Int),(NY:Int),ce,k0,k1,k2,k3,den,fi⟩:M6)=x:=⟨_,rfl⟩
 have hce0:x.ce=ce:=by rw[←hx0]
 rw[show cellA (⟨(NX:Int),(NY:Int),ce,k0,k1,k2,k3,den,fi⟩:M6)=cellA x from by rw[hx0]]
 refine callF (Z:=[1]) tabOK mixedOK Tryz.func72 rfl (by kernel_rfl) (by first|rfl|(simp[keylessL,keyless,keylessL_map, *];done)) (by first|rfl|(simp[keylessL,keyless,keylessL_map, *];done)) (by kernel_rfl) rfl ?_
 intro w0 ρ0 hE
 conv=>whnf
 (repeat((first|refine step_oN (by first|omega|decide|(simp only[tl1,dlen,List.length_replicate,List.length_set,List.length_map,List.length_zipWith,List.length_take,List.length_append,List.length_cons,List.length_nil];omega)) ?_|refine g_o (op_loadA rfl (ev_ok rfl) (tgt rfl) rfl (Nat.succ_ne_zero _) rfl) ?_|refine g_o (op_fieldA rfl (ev_ok rfl) (tgt rfl) rfl rfl (Nat.succ_ne_zero _) rfl) ?_|rw[m1]|rw[m2]|rw[w1]|rw[w2]|rw[w3]|rw[w4]);conv=>whnf))
 refine SWx_adopt (t:=5) (k:=2001) (s:=6) (blk:=⟨145,true,.seq 6 []⟩) rfl rfl rfl ?_
 refine SW_loopN hE (fun k=>k) [1,3,4,5,6] [2001] (fun M fr hp=>∃i,M=N - i∧i≤N∧fr=[(1,ptrA [u8v NX,u8v NY,mvec 1 (iel .u8) ce,.agg [i8v k0,i8v k1,i8v k2,i8v k3],u8v den,u8v fi]),(3,iv (n:Nat)),(4,iv (k:Nat)),(5,.slc 2001 6 0 (cellA x n i).length),(6,iv (i:Nat))]∧
  hp=[(2001,c3B (cellA x n i))]) (N) ?_ ?_ ?_
 ·kernel_rfl
 ·exact⟨0,rfl,by omega,rfl,rfl⟩
 rintro M _ _ ⟨i,rfl,hi,rfl,rfl⟩
 by_cases hlt:i<N
 ·have s1:decide ((i:Int)<(N:Int))=true:=decide_eq_true (by omega)
  have wk:=winc (i:=i) (by omega)
  have a1:(i:Int).tmod (n:Int)=((i % n:Nat):Int):=(Int.ofNat_tmod ..).symm
  have a2:(i:Int).tdiv (n:Int)=((i/n:Nat):Int):=rfl
  have hlen:=cellA_len x n i
  have hA:cellA x n (i+1)=cellA x n i++cellF (wayF x i) i (2*((i % n:Nat):Int)) (2*((i/n:Nat):Int)):=rfl
  have hm1:i % n<n:=Nat.mod_lt _ (by omega)
  have hm2:i/n≤i:=Nat.div_le_self _ _
  generalize cellA x n i=A at*
  generalize i % n=u at*
  generalize i/n=v at*
  have a3:IntKind.i64.wrap (v:Int)=v:=wrap_i64 (by omega) (by omega)
  have a4:IntKind.i64.wrap (2*(u:Int))=2*(u:Int):=wrap_i64 (by omega) (by omega)
  have a5:IntKind.i64.wrap (2*(v:Int))=2*(v:Int):=wrap_i64 (by omega) (by omega)
  obtain⟨X,hX⟩:∃X,2*(u:Int)=X:=⟨_,rfl⟩
  obtain⟨Y,hY⟩:∃Y,2*(v:Int)=Y:=⟨_,rfl⟩
  rw[hX]at a4 hA
  rw[hY]at a5 hA
  have b1:IntKind.i64.wrap (X+2)=X+2:=wrap_i64 (by omega) (by omega)
  have b2:IntKind.i64.wrap (Y+2)=Y+2:=wrap_i64 (by omega) (by omega)
  have b3:IntKind.i64.wrap (X+1)=X+1:=wrap_i64 (by omega) (by omega)
  have b4:IntKind.i64.wrap (Y+1)=Y+1:=wrap_i64 (by omega) (by omega)
  obtain⟨W,hW⟩:∃W,wayF x i=W:=⟨_,rfl⟩
  rw[hW]at hA
  unfold wayF at hW
  rw[hce0]at hW
  by_cases hce:ce.length=0
  ·rw[if_pos hce]at hW
   have s2:decide ((ce.length:Int)>0)=false:=decide_eq_false (by omega)
   have hB:cellF W i X Y=[((X,Y),(X+2,Y),(X+2,Y+2)),((X,Y),(X+2,Y+2),(X,Y+2))]:=if_pos (.inl (by omega))
   conv=>whnf
   (repeat((first|refine step_w1 rfl rfl ?_|refine step_w2 rfl rfl ?_|refine step_oA (by first|omega|decide|(simp only[tl1,dlen,List.length_replicate,List.length_set,List.length_map,List.length_zipWith,List.length_take,List.length_append,List.length_cons,List.length_nil];omega)) ?_|refine step_oN (by first|omega|decide|(simp only[tl1,dlen,List.length_replicate,List.length_set,List.length_map,List.length_zipWith,List.length_take,List.length_append,List.length_cons,List.length_nil];omega)) ?_|refine g_o (op_pickT rfl (ev_ok rfl) (ev_ok rfl)) ?_|refine tst_tt s1 ?_|refine tst_ff s2 ?_|refine g_o (op_lenM rfl rfl rfl (ev_ok rfl) (tgt rfl) rfl) ?_|refine g_o (op_loadA rfl (ev_ok rfl) (tgt rfl) rfl (Nat.succ_ne_zero _) rfl) ?_|refine g_o (op_fieldA rfl (ev_ok rfl) (tgt rfl) rfl rfl (Nat.succ_ne_zero _) rfl) ?_|rw[w5]|rw[s1]|rw[s2]|rw[a1]|rw[a2]|rw[a3]|rw[hX]|rw[hY]|rw[a4]|rw[a5]|rw[b1]|rw[b2]|rw[b3]|rw[b4]|rw[wk]);conv=>whnf))
   rw[hB]at hA
   refine⟨N - (i+1),renBy [(96,2001)],[1,3,4,5,6],[96],by omega,by kernel_rfl,i+1,rfl,by omega, ?_, ?_⟩
   ·rw[hA,List.length_append];rfl
   ·rw[hA,app_c3];rfl
  ·rw[if_neg hce]at hW
   have s2:decide ((ce.length:Int)>0)=true:=decide_eq_true (by omega)
   have c1:(i:Int).tmod (ce.length:Int)=((i % ce.length:Nat):Int):=(Int.ofNat_tmod ..).symm
   have c2:i % ce.length<ce.length:=Nat.mod_lt _ (by omega)
   generalize i % ce.length=j at*
   by_cases t1:W<3
   ·have hB:cellF W i X Y=[((X,Y),(X+2,Y),(X+2,Y+2)),((X,Y),(X+2,Y+2),(X,Y+2))]:=if_pos (.inl t1)
    have t1:decide (W<3)=true:=decide_eq_true t1
    conv=>whnf
    (repeat((first|refine step_w1 rfl rfl ?_|refine step_w2 rfl rfl ?_|refine step_i (by kernel_rfl) ?_|refine step_oA (by first|omega|decide|(simp only[tl1,dlen,List.length_replicate,List.length_set,List.length_map,List.length_zipWith,List.length_take,List.length_append,List.length_cons,List.length_nil];omega)) ?_|refine step_oN (by first|omega|decide|(simp only[tl1,dlen,List.length_replicate,List.length_set,List.length_map,List.length_zipWith,List.length_take,List.length_append,List.length_cons,List.length_nil];omega)) ?_|refine g_o (op_pickT rfl (ev_ok rfl) (ev_ok rfl)) ?_|refine tst_tt s1 ?_|refine tst_tt s2 ?_|refine g_o (op_lenM rfl rfl rfl (ev_ok rfl) (tgt rfl) rfl) ?_|refine g_o (op_loadA rfl (ev_ok rfl) (tgt rfl) rfl (Nat.succ_ne_zero _) rfl) ?_|refine g_o (op_indexM (α:=Int) (d:=0) rfl (ev_ok rfl) (ev_ok rfl) (tgt rfl) rfl (tgt rfl) rfl (by omega)) ?_|refine g_o (op_fieldA rfl (ev_ok rfl) (tgt rfl) rfl rfl (Nat.succ_ne_zero _) rfl) ?_|rw[w5]|rw[s1]|rw[s2]|rw[c1]|rw[hW]|rw[t1]|rw[a1]|rw[a2]|rw[a3]|rw[hX]|rw[hY]|rw[a4]|rw[a5]|rw[b1]|rw[b2]|rw[b3]|rw[b4]|rw[wk]|rw[Int.toNat_natCast]);conv=>whnf))
    rw[hB]at hA
    refine⟨N - (i+1),renBy [(96,2001)],[1,3,4,5,6],[96],by omega,by kernel_rfl,i+1,rfl,by omega, ?_, ?_⟩
    ·rw[hA,List.length_append];rfl
    ·rw[hA,app_c3];rfl
   ·have t1':decide (W<3)=false:=decide_eq_false t1
    by_cases t2:W=7
    ·have t2':(W==7)=true:=by rw[t2];rfl
     by_cases t3:i=0
     ·have hB:cellF W i X Y=[((X,Y),(X+2,Y),(X+2,Y+2)),((X,Y),(X+2,Y+2),(X,Y+2))]:=if_pos (.inr ⟨t2,t3⟩)
      have t3':((i:Int)==0)=true:=by rw[t3];rfl
      conv=>whnf
      (repeat((first|refine step_w1 rfl rfl ?_|refine step_i (by kernel_rfl) ?_|refine step_oA (by first|omega|decide|(simp only[tl1,dlen,List.length_replicate,List.length_set,List.length_map,List.length_zipWith,List.length_take,List.length_append,List.length_cons,List.length_nil];omega)) ?_|refine step_oN (by first|omega|decide|(simp only[tl1,dlen,List.length_replicate,List.length_set,List.length_map,List.length_zipWith,List.length_take,List.length_append,List.length_cons,List.length_nil];omega)) ?_|refine g_o (op_pickT rfl (ev_ok rfl) (ev_ok rfl)) ?_|refine g_o (op_pickF rfl (ev_ok rfl) (ev_ok rfl)) ?_|refine tst_tt s1 ?_|refine tst_tt s2 ?_|refine tst_tt t2' ?_|refine tst_tt t3' ?_|refine g_o (op_lenM rfl rfl rfl (ev_ok rfl) (tgt rfl) rfl) ?_|refine g_o (op_loadA rfl (ev_ok rfl) (tgt rfl) rfl (Nat.succ_ne_zero _) rfl) ?_|refine g_o (op_indexM (α:=Int) (d:=0) rfl (ev_ok rfl) (ev_ok rfl) (tgt rfl) rfl (tgt rfl) rfl (by omega)) ?_|refine g_o (op_fieldA rfl (ev_ok rfl) (tgt rfl) rfl rfl (Nat.succ_ne_zero _) rfl) ?_|rw[w5]|rw[s1]|rw[s2]|rw[c1]|rw[hW]|rw[t1']|rw[t2']|rw[t3']|rw[a1]|rw[a2]|rw[a3]|rw[hX]|rw[hY]|rw[a4]|rw[a5]|rw[b1]|rw[b2]|rw[b3]|rw[b4]|rw[wk]|rw[Int.toNat_natCast]);conv=>whnf))
      rw[hB]at hA
      refine⟨N - (i+1),renBy [(96,2001)],[1,3,4,5,6],[96],by omega,by kernel_rfl,i+1,rfl,by omega, ?_, ?_⟩
      ·rw[hA,List.length_append];rfl
      ·rw[hA,app_c3];rfl
     ·have hB:cellF W i X Y=[]:=by unfold cellF;rw[if_neg (by omega),if_neg (by omega),if_neg (by omega)]
      have t3':((i:Int)==0)=false:=beq_eq_false_iff_ne.2 (by omega)
      have t4:decide (W<5)=false:=decide_eq_false (by omega)
      have t5:decide (W<7)=false:=decide_eq_false (by omega)
      conv=>whnf
      (repeat((first|refine step_w1 rfl rfl ?_|refine step_i (by kernel_rfl) ?_|refine step_oN (by first|omega|decide|(simp only[tl1,dlen,List.length_replicate,List.length_set,List.length_map,List.length_zipWith,List.length_take,List.length_append,List.length_cons,List.length_nil];omega)) ?_|refine g_o (op_pickT rfl (ev_ok rfl) (ev_ok rfl)) ?_|refine g_o (op_pickF rfl (ev_ok rfl) (ev_ok rfl)) ?_|refine tst_tt s1 ?_|refine tst_tt s2 ?_|refine tst_tt t2' ?_|refine tst_ff t3' ?_|refine tst_ff t4 ?_|refine tst_ff t5 ?_|refine g_o (op_lenM rfl rfl rfl (ev_ok rfl) (tgt rfl) rfl) ?_|refine g_o (op_loadA rfl (ev_ok rfl) (tgt rfl) rfl (Nat.succ_ne_zero _) rfl) ?_|refine g_o (op_indexM (α:=Int) (d:=0) rfl (ev_ok rfl) (ev_ok rfl) (tgt rfl) rfl (tgt rfl) rfl (by omega)) ?_|refine g_o (op_fieldA rfl (ev_ok rfl) (tgt rfl) rfl rfl (Nat.succ_ne_zero _) rfl) ?_|rw[w5]|rw[s1]|rw[s2]|rw[c1]|rw[hW]|rw[t1']|rw[t2']|rw[t3']|rw[t4]|rw[t5]|rw[a1]|rw[a2]|rw[a3]|rw[hX]|rw[hY]|rw[a4]|rw[a5]|rw[b1]|rw[b2]|rw[b3]|rw[b4]|rw[wk]|rw[Int.toNat_natCast]);conv=>whnf))
      have hA:cellA x n (i+1)=A:=by rw[hA,hB,List.append_nil]
      exact⟨N - (i+1),fun k=>k,[1,3,4,5,6],[2001],by omega,by kernel_rfl,i+1,rfl,by omega,by rw[hA];rfl,by rw[hA];rfl⟩
    ·have t2':(W==7)=false:=beq_eq_false_iff_ne.2 t2
     by_cases t4:W<5
     ·have hB:cellF W i X Y=[((X,Y),(X+2,Y),(X,Y+2)),((X+2,Y),(X+2,Y+2),(X,Y+2))]:=by unfold cellF;rw[if_neg (by omega),if_pos t4]
      have t4':decide (W<5)=true:=decide_eq_true t4
      conv=>whnf
      (repeat((first|refine step_w1 rfl rfl ?_|refine step_w2 rfl rfl ?_|refine step_i (by kernel_rfl) ?_|refine step_oA (by first|omega|decide|(simp only[tl1,dlen,List.length_replicate,List.length_set,List.length_map,List.length_zipWith,List.length_take,List.length_append,List.length_cons,List.length_nil];omega)) ?_|refine step_oN (by first|omega|decide|(simp only[tl1,dlen,List.length_replicate,List.length_set,List.length_map,List.length_zipWith,List.length_take,List.length_append,List.length_cons,List.length_nil];omega)) ?_|refine g_o (op_pickF rfl (ev_ok rfl) (ev_ok rfl)) ?_|refine tst_tt s1 ?_|refine tst_tt s2 ?_|refine tst_ff t2' ?_|refine tst_tt t4' ?_|refine g_o (op_lenM rfl rfl rfl (ev_ok rfl) (tgt rfl) rfl) ?_|refine g_o (op_loadA rfl (ev_ok rfl) (tgt rfl) rfl (Nat.succ_ne_zero _) rfl) ?_|refine g_o (op_indexM (α:=Int) (d:=0) rfl (ev_ok rfl) (ev_ok rfl) (tgt rfl) rfl (tgt rfl) rfl (by omega)) ?_|refine g_o (op_fieldA rfl (ev_ok rfl) (tgt rfl) rfl rfl (Nat.succ_ne_zero _) rfl) ?_|rw[w5]|rw[s1]|rw[s2]|rw[c1]|rw[hW]|rw[t1']|rw[t2']|rw[t4']|rw[a1]|rw[a2]|rw[a3]|rw[hX]|rw[hY]|rw[a4]|rw[a5]|rw[b1]|rw[b2]|rw[b3]|rw[b4]|rw[wk]|rw[Int.toNat_natCast]);conv=>whnf))
      rw[hB]at hA
      refine⟨N - (i+1),renBy [(110,2001)],[1,3,4,5,6],[110],by omega,by kernel_rfl,i+1,rfl,by omega, ?_, ?_⟩
      ·rw[hA,List.length_append];rfl
      ·rw[hA,app_c3];rfl
     ·have t4':decide (W<5)=false:=decide_eq_false t4
      by_cases t5:W<7
      ·have hB:cellF W i X Y=[((X,Y),(X+2,Y),(X+1,Y+1)),((X+2,Y),(X+2,Y+2),(X+1,Y+1)),((X+2,Y+2),(X,Y+2),(X+1,Y+1)),((X,Y+2),(X,Y),(X+1,Y+1))]:=by unfold cellF;rw[if_neg (by omega),if_neg t4,if_pos t5]
       have t5':decide (W<7)=true:=decide_eq_true t5
       conv=>whnf
       (repeat((first|refine step_w1 rfl rfl ?_|refine step_w2 rfl rfl ?_|refine step_i (by kernel_rfl) ?_|refine step_oA (by first|omega|decide|(simp only[tl1,dlen,List.length_replicate,List.length_set,List.length_map,List.length_zipWith,List.length_take,List.length_append,List.length_cons,List.length_nil];omega)) ?_|refine step_oN (by first|omega|decide|(simp only[tl1,dlen,List.length_replicate,List.length_set,List.length_map,List.length_zipWith,List.length_take,List.length_append,List.length_cons,List.length_nil];omega)) ?_|refine g_o (op_pickF rfl (ev_ok rfl) (ev_ok rfl)) ?_|refine tst_tt s1 ?_|refine tst_tt s2 ?_|refine tst_ff t2' ?_|refine tst_ff t4' ?_|refine tst_tt t5' ?_|refine g_o (op_lenM rfl rfl rfl (ev_ok rfl) (tgt rfl) rfl) ?_|refine g_o (op_loadA rfl (ev_ok rfl) (tgt rfl) rfl (Nat.succ_ne_zero _) rfl) ?_|refine g_o (op_indexM (α:=Int) (d:=0) rfl (ev_ok rfl) (ev_ok rfl) (tgt rfl) rfl (tgt rfl) rfl (by omega)) ?_|refine g_o (op_fieldA rfl (ev_ok rfl) (tgt rfl) rfl rfl (Nat.succ_ne_zero _) rfl) ?_|rw[w5]|rw[s1]|rw[s2]|rw[c1]|rw[hW]|rw[t1']|rw[t2']|rw[t4']|rw[t5']|rw[a1]|rw[a2]|rw[a3]|rw[hX]|rw[hY]|rw[a4]|rw[a5]|rw[b1]|rw[b2]|rw[b3]|rw[b4]|rw[wk]|rw[Int.toNat_natCast]);conv=>whnf))
       rw[hB]at hA
       refine⟨N - (i+1),renBy [(132,2001)],[1,3,4,5,6],[132],by omega,by kernel_rfl,i+1,rfl,by omega, ?_, ?_⟩
       ·rw[hA,List.length_append];rfl
       ·rw[hA,app_c3];rfl
      ·have hB:cellF W i X Y=[]:=by unfold cellF;rw[if_neg (by omega),if_neg (by omega),if_neg (by omega)]
       have t5':decide (W<7)=false:=decide_eq_false t5
       conv=>whnf
       (repeat((first|refine step_w1 rfl rfl ?_|refine step_w2 rfl rfl ?_|refine step_i (by kernel_rfl) ?_|refine step_oN (by first|omega|decide|(simp only[tl1,dlen,List.length_replicate,List.length_set,List.length_map,List.length_zipWith,List.length_take,List.length_append,List.length_cons,List.length_nil];omega)) ?_|refine g_o (op_pickF rfl (ev_ok rfl) (ev_ok rfl)) ?_|refine tst_tt s1 ?_|refine tst_tt s2 ?_|refine tst_ff t2' ?_|refine tst_ff t4' ?_|refine tst_ff t5' ?_|refine g_o (op_lenM rfl rfl rfl (ev_ok rfl) (tgt rfl) rfl) ?_|refine g_o (op_loadA rfl (ev_ok rfl) (tgt rfl) rfl (Nat.succ_ne_zero _) rfl) ?_|refine g_o (op_indexM (α:=Int) (d:=0) rfl (ev_ok rfl) (ev_ok rfl) (tgt rfl) rfl (tgt rfl) rfl (by omega)) ?_|refine g_o (op_fieldA rfl (ev_ok rfl) (tgt rfl) rfl rfl (Nat.succ_ne_zero _) rfl) ?_|rw[w5]|rw[s1]|rw[s2]|rw[c1]|rw[hW]|rw[t1']|rw[t2']|rw[t4']|rw[t5']|rw[a1]|rw[a2]|rw[a3]|rw[hX]|rw[hY]|rw[a4]|rw[a5]|rw[b1]|rw[b2]|rw[b3]|rw[b4]|rw[wk]|rw[Int.toNat_natCast]);conv=>whnf))
       have hA:cellA x n (i+1)=A:=by rw[hA,hB,List.append_nil]
       exact⟨N - (i+1),fun k=>k,[1,3,4,5,6],[2001],by omega,by kernel_rfl,i+1,rfl,by omega,by rw[hA];rfl,by rw[hA];rfl⟩
 ·have s1:decide ((i:Int)<(N:Int))=false:=decide_eq_false (by omega)
  obtain rfl:i=N:=by omega
  conv=>whnf
  (repeat(first|(refine tst_ff s1 ?_;conv=>whnf)|(rw[w5];conv=>whnf)))
  (first|exact Recast.refl _|exact Frz.recast (Recast.refl _) rfl|(refine Frz.one rfl rfl ?_;(repeat(first|(refine FrzC.seq rfl (by first|rfl|(apply keylessL_map;intro _;rfl)) ?_;(first|rfl|omega|(simp<;>fail)|(simp<;>omega))))))|(refine Frz.tup ?_;skip))
end Go.Proofs.YthaeohlijigplaaGreat
