/- The texts Om. -/
import Derived.Test.YtbopchpncgdaaaaGreatDoorQLBareissClear5
namespace Go.Proofs.YtbopchpncgdaaaaGreatDoor
open Go.Sx
set_option linter.unusedSimpArgs false
set_option linter.unusedVariables false
set_option maxRecDepth 100000
set_option maxHeartbeats 40000000
theorem b_Det {n B:Nat} {a:List Int} (ha:OKZ n n a) (za:Zm B a) (hB:2≤B) (hB2:B≤536870912) (hn:n≤40) (hb:2*(B*4^n)≤1073741824):
  CallOK Tryz.prog 54 [wA n n a] [] (.tup [.int (detZ n (elz a n)),iv 0]) [] []:=by
 have k0:=b_square n n a (by have:=ha.n;have:n*n≤40*40:=Nat.mul_le_mul hn hn;omega) (fun i hi=>Nat.le_trans (za i hi) hB2)
 rw[check_ok ha.r ha.c ha.n,if_pos rfl,if_pos rfl]at k0
 have k1:=b_det ha hB za hn hb
 refine callV (Z:=[1]) tabOK mixedOK Tryz.func54 rfl (by kernel_rfl) rfl rfl (by kernel_rfl) rfl ?_
 intro W0 w0 ρ0 hE
 conv=>whnf
 (repeat((first|refine step_w2 rfl rfl ?_|refine g_c (by assumption) ?_|rw[bne_self_eq_false]|refine g_o (op_loadA rfl (ev_ok rfl) (tgt rfl) rfl (Nat.succ_ne_zero _) rfl) ?_);conv=>whnf));(first|exact Recast.refl _|exact Frz.recast (Recast.refl _) rfl|(refine Frz.one rfl rfl ?_;skip)|(refine Frz.tup ?_;skip))
def crM (n:Nat) (a b:List Int) (c:Nat):Mz:=fun i k=>if k=c then b.getD i 0 else elz a n i k
theorem b_Cr11 {n:Nat} {a b:List Int} (ha:OKZ n n a) (hb:b.length=n) {c i k:Nat} (hi:i<n) (hk:k<n):
  CallOK Tryz.prog 135 ([]++([iv (i:Nat),iv (k:Nat)]++[ptrA [iv c],ptrA [zvec b],ptrA (wC n n a)])) [] (.int (crM n a b c i k)) [] []:=by
 have k1:=b_at ha hi hk
 unfold crM
 by_cases h:k=c
 ·have t1:((k:Int)==(c:Int))=true:=by rw[h];exact beq_self_eq_true _
  rw[if_pos h]
  refine callV (Z:=[]) tabOK mixedOK Tryz.func135 rfl (by kernel_rfl) rfl rfl (by kernel_rfl) rfl ?_
  intro W0 w0 ρ0 hE
  conv=>whnf
  (repeat(first|(refine tst_tt t1 ?_;conv=>whnf)|(refine g_o (op_loadA rfl (ev_ok rfl) (tgt rfl) rfl (Nat.succ_ne_zero _) rfl) ?_;conv=>whnf)|(refine g_o (op_indexN (α:=Int) (d:=0) rfl (ev_ok rfl) (ev_ok rfl) (tgt rfl) rfl (tgt rfl) rfl (by omega)) ?_;conv=>whnf)));(first|exact Recast.refl _|exact Frz.recast (Recast.refl _) rfl|(refine Frz.one rfl rfl ?_;skip)|(refine Frz.tup ?_;skip))
 ·have t1:((k:Int)==(c:Int))=false:=beq_eq_false_iff_ne.2 (by omega)
  rw[if_neg h]
  refine callV (Z:=[]) tabOK mixedOK Tryz.func135 rfl (by kernel_rfl) rfl rfl (by kernel_rfl) rfl ?_
  intro W0 w0 ρ0 hE
  conv=>whnf
  (repeat(first|(refine g_c (by assumption) ?_;conv=>whnf)|(refine tst_ff t1 ?_;conv=>whnf)|(refine g_o (op_loadA rfl (ev_ok rfl) (tgt rfl) rfl (Nat.succ_ne_zero _) rfl) ?_;conv=>whnf)));(first|exact Recast.refl _|exact Frz.recast (Recast.refl _) rfl|(refine Frz.one rfl rfl ?_;skip)|(refine Frz.tup ?_;skip))
theorem crM_zs {n B:Nat} {a b:List Int} (ha:OKZ n n a) (za:Zm B a) (hb:b.length=n) (zb:Zm B b) (c:Nat):Zm B (mkz n n (crM n a b c)):=
 Zm_mk fun i k hi hk=>by
  unfold crM
  split
  ·exact zb i (by omega)
  ·exact elz_zm za ha.n hi hk
theorem b_Cr1 {n B:Nat} {a b:List Int} (ha:OKZ n n a) (za:Zm B a) (hl:b.length=n) (zb:Zm B b) (hB:2≤B) (hn:n≤40) (hb:2*(B*4^n)≤1073741824) (c:Nat):
  CallOK Tryz.prog 133 ([]++([iv (c:Nat)]++[ptrA (wC n n a),ptrA [zvec b]])) [] (.int (detZ n (crM n a b c))) [] []:=by
 have k1:=b_made3 (r:=n) (c:=n) (by omega) (by omega) (crM n a b c) 135 (ptrP [iv c]) (ptrP [zvec b]) (ptrP (wC n n a)) (fun i k hi hk=>b_Cr11 ha hl hi hk)
 have k2:=b_det (OKZ.mk' (r:=n) (c:=n) (by omega) (by omega) (crM n a b c)) hB (crM_zs ha za hl zb c) hn hb
 rw[show detZ n (elz (mkz n n (crM n a b c)) n)=detZ n (crM n a b c)from detZ_congr fun i k hi hk=>mkz_el hi hk]at k2
 refine callV (Z:=[3]) tabOK mixedOK Tryz.func133 rfl (by kernel_rfl) rfl rfl (by kernel_rfl) rfl ?_
 intro W0 w0 ρ0 hE
 conv=>whnf
 (repeat((first|refine g_c (by assumption) ?_|refine g_o (op_loadA rfl (ev_ok rfl) (tgt rfl) rfl (Nat.succ_ne_zero _) rfl) ?_|refine g_o (op_fieldA rfl (ev_ok rfl) (tgt rfl) rfl rfl (Nat.succ_ne_zero _) rfl) ?_|refine g_o (op_makeFunc rfl rfl rfl) ?_);conv=>whnf));(first|exact Recast.refl _|exact Frz.recast (Recast.refl _) rfl|(refine Frz.one rfl rfl ?_;skip)|(refine Frz.tup ?_;skip))
abbrev crL (n:Nat) (a b:List Int):List Int:=(upN n).map fun x=>detZ n (crM n a b x.toNat)
theorem b_Cramer {n B:Nat} {a b:List Int} (ha:OKZ n n a) (za:Zm B a) (hl:b.length=n) (zb:Zm B b) (hB:2≤B) (hB2:B≤536870912) (hn:n≤40) (hb:2*(B*4^n)≤1073741824):
  CallOK Tryz.prog 64 [wA n n a,zvec b] [] (if detZ n (elz a n)=0 then .tup [.int 0,zvec [],iv 6]else .tup [.int (detZ n (elz a n)),zvec (crL n a b),iv 0]) [] []:=by
 have k0:=b_square n n a (by have:=ha.n;have:n*n≤40*40:=Nat.mul_le_mul hn hn;omega) (fun i hi=>Nat.le_trans (za i hi) hB2)
 rw[check_ok ha.r ha.c ha.n,if_pos rfl,if_pos rfl]at k0
 have k1:=b_det ha hB za hn hb
 have t1:((b.length:Int) != (n:Int))=false:=by rw[hl];exact bne_self_eq_false _
 by_cases h0:detZ n (elz a n)=0
 ·rw[if_pos h0]
  rw[h0]at k1
  have k2:=c_Sign 0
  refine callF (Z:=[2,3]) tabOK mixedOK Tryz.func64 rfl (by kernel_rfl) (by first|rfl|(simp[keylessL,keyless,keylessL_map, *];done)) (by first|rfl|(simp[keylessL,keyless,keylessL_map, *];done)) (by kernel_rfl) rfl ?_
  intro w0 ρ0 hE
  conv=>whnf
  (repeat((first|refine step_w1 rfl rfl ?_|refine step_w2 rfl rfl ?_|refine g_c (by assumption) ?_|rw[bne_self_eq_false]|refine tst_ff t1 ?_|refine g_o (op_lenM rfl rfl rfl (ev_ok rfl) (tgt rfl) rfl) ?_|refine g_o (op_loadA rfl (ev_ok rfl) (tgt rfl) rfl (Nat.succ_ne_zero _) rfl) ?_|refine g_o (op_fieldA rfl (ev_ok rfl) (tgt rfl) rfl rfl (Nat.succ_ne_zero _) rfl) ?_);conv=>whnf));(first|exact Recast.refl _|exact Frz.recast (Recast.refl _) rfl|(refine Frz.one rfl rfl ?_;skip)|(refine Frz.tup ?_;(repeat(first|exact FrzC.keyless rfl|exact FrzL.nil|refine FrzL.cons ?_ ?_|exact FrzC.nilS))))
 ·rw[if_neg h0]
  have k2:=c_Sign (detZ n (elz a n))
  have t2:((detZ n (elz a n)).sign==0)=false:=beq_eq_false_iff_ne.2 fun e=>h0 (Int.sign_eq_zero_iff_zero.1 e)
  have k3:=(b_upToV n [] (by omega) (by simp)).wk (args:=[iv n,.val (.slice none 0 0)]) (by repeat(first|exact WkL.nil|refine WkL.cons ?_ ?_|exact Wk.nil|exact Wk.refl|refine Wk.agg ?_))
  rw[show upL n []=upN n from List.append_nil _]at k3
  have k4:=b_over2 (fun x=>detZ n (crM n a b x.toNat)) 133 (ptrP (wC n n a)) (ptrP [zvec b]) (upN n) (by rw[upN_len];omega) (fun i hi=>by
   rw[upN_len]at hi
   rw[upN_at hi]
   exact b_Cr1 ha za hl zb hB hn hb i)
  refine callV (Z:=[2,3]) tabOK mixedOK Tryz.func64 rfl (by kernel_rfl) rfl rfl (by kernel_rfl) rfl ?_
  intro W0 w0 ρ0 hE
  conv=>whnf
  (repeat((first|refine step_w2 rfl rfl ?_|refine g_c (by assumption) ?_|rw[bne_self_eq_false]|refine tst_ff t1 ?_|refine tst_ff t2 ?_|refine g_o (op_lenM rfl rfl rfl (ev_ok rfl) (tgt rfl) rfl) ?_|refine g_o (op_loadA rfl (ev_ok rfl) (tgt rfl) rfl (Nat.succ_ne_zero _) rfl) ?_|refine g_o (op_fieldA rfl (ev_ok rfl) (tgt rfl) rfl rfl (Nat.succ_ne_zero _) rfl) ?_|refine g_o (op_makeFunc rfl rfl rfl) ?_);conv=>whnf));(first|exact Recast.refl _|exact Frz.recast (Recast.refl _) rfl|(refine Frz.one rfl rfl ?_;skip)|(refine Frz.tup ?_;skip))
end Go.Proofs.YtbopchpncgdaaaaGreatDoor
