/- The texts Ow, Ni, Oy. -/
import Derived.Test.YtbopchpncgdaaaaGreatDoorQLBareissClear7
namespace Go.Proofs.YtbopchpncgdaaaaGreatDoor
open Go.Sx
set_option linter.unusedSimpArgs false
set_option linter.unusedVariables false
set_option maxRecDepth 100000
set_option maxHeartbeats 40000000
theorem lw_frac (n:Int) (h:zs n≤536870912):CallOK Tryz.prog 47 [.int n] [] (.frac n) [] []:=by
 have k1:=c_nOf 1 (by decide)
 have k2:=c_fFrom natBig n 1 (by unfold zs at h;omega) (by rw[sz_one];decide) (by decide)
 rw[Rat.mkRat_one]at k2
 refine callV (Z:=[]) tabOK mixedOK Tryz.func47 rfl (by kernel_rfl) rfl rfl (by kernel_rfl) rfl ?_
 intro W0 w0 ρ0 hE
 conv=>whnf
 (repeat(first|(refine step_i (by kernel_rfl) ?_;conv=>whnf)|(refine g_c (by assumption) ?_;conv=>whnf)));(first|exact Recast.refl _|exact Frz.recast (Recast.refl _) rfl|(refine Frz.one rfl rfl ?_;skip)|(refine Frz.tup ?_;skip))
theorem zs_le_fs (z:Int):zs z≤fs (z:Rat):=by
 have:=fsz_num (z:Rat)
 rw[Rat.num_intCast]at this
 unfold zs fs;omega
end Go.Proofs.YtbopchpncgdaaaaGreatDoor
namespace Go.Proofs.YtbopchpncgdaaaaGreatDoor
open Go.Sx
set_option linter.unusedSimpArgs false
set_option linter.unusedVariables false
set_option maxRecDepth 100000
set_option maxHeartbeats 4000000
theorem det_rows (n:Nat) (A:Mx) (t:Nat→Rat):det n (fun i k=>t i*A i k)=prodR n t*det n A:=by
 have h:∀m,m≤n→det n (fun i k=>if i<m then t i*A i k else A i k)=prodR m t*det n A:=by
  intro m
  induction m with
  |zero=>intro _;rw[prodR,det_congr (B:=A) fun i k _ _=>by rw[if_neg (by omega)]];grind
  |succ m ih=>
   intro hm
   have:=(det_Alt n).smul (fun i k=>if i<m then t i*A i k else A i k) (t m) (A m) (i:=m) (by omega)
   rw[show setRow (fun i k=>if i<m then t i*A i k else A i k) m (A m)=fun i k=>if i<m then t i*A i k else A i k from by
    funext i k;unfold setRow;by_cases e:i=m
    ·rw[if_pos e,e,if_neg (Nat.lt_irrefl m)]
    ·rw[if_neg e],ih (by omega)]at this
   rw[prodR,det_congr (B:=setRow (fun i k=>if i<m then t i*A i k else A i k) m fun k=>t m*A m k) fun i k _ _=>by
    unfold setRow
    by_cases e:i=m
    ·rw[if_pos e,e,if_pos (by omega)]
    ·rw[if_neg e]
     by_cases g:i<m
     ·show _=if i<m then t i*A i k else A i k
      rw[if_pos g,if_pos (by omega)]
     ·show _=if i<m then t i*A i k else A i k
      rw[if_neg g,if_neg (by omega)],this]
   grind
 rw[←h n (Nat.le_refl n)]
 exact det_congr fun i k hi _=>by rw[if_pos hi]
theorem mul_den' (x:Rat):x*(x.den:Rat)=x.num:=by
 have h:(x.den:Rat)≠0:=fun h=>x.den_nz (by
  have:((x.den:Int):Rat)=((0:Int):Rat):=by rw[Rat.intCast_natCast];exact h
  exact Int.ofNat_inj.1 (Rat.intCast_inj.1 this))
 have h1:mkRat x.num x.den=x:=Rat.mkRat_self x
 rw[Rat.mkRat_eq_div]at h1
 have h2:(x.num:Rat)/(x.den:Rat)*(x.den:Rat)=x.num:=Rat.div_mul_cancel h
 rw[h1]at h2
 exact h2
theorem den_dvd {x:Rat} {t:Nat} {z:Int} (h:x*((t:Nat):Rat)=z):x.den ∣ t:=by
 have h1:((x.num*t:Int):Rat)=((z*x.den:Int):Rat):=by
  rw[Rat.intCast_mul,Rat.intCast_mul,←mul_den' x,←h]
  show x*(x.den:Rat)*((t:Int):Rat)=x*(t:Rat)*((x.den:Int):Rat)
  rw[Rat.intCast_natCast,Rat.intCast_natCast];grind
 have h2:=Rat.intCast_inj.1 h1
 have h3:x.den ∣ (x.num*t).natAbs:=by
  rw[h2,Int.natAbs_mul,Int.natAbs_natCast];exact Nat.dvd_mul_left _ _
 rw[Int.natAbs_mul,Int.natAbs_natCast]at h3
 exact Nat.Coprime.dvd_of_dvd_mul_left (Nat.Coprime.symm x.reduced) h3
theorem mlS_lcm (a:Nat) (x:Rat):mlS a x=Nat.lcm a x.den:=by
 unfold mlS Nat.lcm
 rw[Nat.mul_div_assoc _ (Nat.gcd_dvd_right _ _)]
theorem mlF_dvd:∀(l:List Rat) (a:Nat),a ∣ l.foldl mlS a∧∀x∈l,x.den ∣ l.foldl mlS a
 |[],a=>⟨Nat.dvd_refl _,fun _ h=>by cases h⟩
 |y::l,a=>by
  obtain⟨h1,h2⟩:=mlF_dvd l (mlS a y)
  rw[List.foldl_cons]
  have e:=mlS_lcm a y
  refine⟨Nat.dvd_trans (by rw[e];exact Nat.dvd_lcm_left _ _) h1,fun x hx=> ?_⟩
  rcases List.mem_cons.1 hx with rfl|hx
  ·exact Nat.dvd_trans (by rw[e];exact Nat.dvd_lcm_right _ _) h1
  ·exact h2 x hx
theorem mlF_least:∀(l:List Rat) (a N:Nat),a ∣ N→(∀x∈l,x.den ∣ N)→l.foldl mlS a ∣ N
 |[],_,_,h,_=>h
 |y::l,a,N,h,hd=>mlF_least l _ N (by rw[mlS_lcm];exact Nat.lcm_dvd h (hd y (List.mem_cons_self ..))) fun x hx=>hd x (List.mem_cons_of_mem _ hx)
theorem whole_mul {x:Rat} {t:Nat} (h:x.den ∣ t):∃z:Int,x*((t:Nat):Rat)=z:=by
 obtain⟨m,rfl⟩:=h
 refine⟨x.num*m, ?_⟩
 rw[Rat.intCast_mul,←mul_den' x,Rat.natCast_mul]
 show x*((x.den:Rat)*(m:Rat))=x*(x.den:Rat)*((m:Int):Rat)
 rw[Rat.intCast_natCast];grind
theorem clear_gcd {l:List Rat} {g:Nat} (hg:g ∣ mlF l) (h:∀x∈l,g ∣ (x*((mlF l:Nat):Rat)).num.natAbs) (hp:0<mlF l):g=1:=by
 obtain⟨t,ht⟩:=hg
 have hd:∀x∈l,x.den ∣ t:=fun x hx=>by
  obtain⟨z,hz⟩:=whole_mul ((mlF_dvd l 1).2 x hx)
  have hz:x*((mlF l:Nat):Rat)=z:=hz
  have h1:=h x hx
  rw[hz,Rat.num_intCast]at h1
  obtain⟨u,hu⟩:=Int.ofNat_dvd_left.2 h1
  have hg0:(g:Rat)≠0:=fun e=>by
   have:((g:Int):Rat)=((0:Int):Rat):=by rw[Rat.intCast_natCast];exact e
   have:=Int.ofNat_inj.1 (Rat.intCast_inj.1 this)
   rw[ht,this,Nat.zero_mul]at hp;exact absurd hp (Nat.lt_irrefl 0)
  refine den_dvd (z:=u) ?_
  rw[ht,hu,Rat.natCast_mul,Rat.intCast_mul,Rat.intCast_natCast]at hz
  have:(g:Rat)*(x*(t:Rat))=(g:Rat)*u:=by rw[←hz];grind
  have h2:(g:Rat)⁻¹*((g:Rat)*(x*(t:Rat)))=(g:Rat)⁻¹*((g:Rat)*u):=by rw[this]
  have h3:=Rat.inv_mul_cancel _ hg0
  have e1:(g:Rat)⁻¹*((g:Rat)*(x*(t:Rat)))=x*(t:Rat):=by rw[←Rat.mul_assoc,h3,Rat.one_mul]
  have e2:(g:Rat)⁻¹*((g:Rat)*u)=u:=by rw[←Rat.mul_assoc,h3,Rat.one_mul]
  rw[←e1,h2,e2]
 have hl:mlF l ∣ t:=mlF_least l 1 t (Nat.one_dvd _) hd
 rw[ht]at hl hp
 have ht0:0<t:=Nat.pos_of_mul_pos_left hp
 have:=Nat.le_of_dvd ht0 hl
 have hg1:0<g:=Nat.pos_of_mul_pos_right hp
 refine Nat.le_antisymm (Nat.le_of_not_lt fun h2=> ?_) hg1
 have:2*t≤g*t:=Nat.mul_le_mul_right t h2
 omega
end Go.Proofs.YtbopchpncgdaaaaGreatDoor
namespace Go.Proofs.YtbopchpncgdaaaaGreatDoor
open Go.Sx
set_option linter.unusedSimpArgs false
set_option linter.unusedVariables false
set_option maxRecDepth 100000
set_option maxHeartbeats 40000000
theorem detZ_zsB {n B:Nat} {A:Mz} (hn:n≤5) (hB:B≤999) (h:∀i k,i<n→k<n→zs (A i k)≤B):zs (detZ n A)≤3912812:=by
 refine Nat.le_trans (zs_le_fs _) ?_
 rw[detZ_cast]
 have:=picks_fs (n:=n) (B:=B+1) (a:=mk n n (toR A)) (mk_len ..) (Sm_mk fun i k hi hk=>by have:=fs_zs (A i k);have:=h i k hi hk;show fs ((A i k:Int):Rat)≤_;omega) n 0 [] (Nat.zero_add _)
 rw[picks_det,det_congr (B:=toR A) fun i k hi hk=>mk_el hi hk]at this
 exact Nat.le_trans this (pS_top hn (by omega) hn)
end Go.Proofs.YtbopchpncgdaaaaGreatDoor
