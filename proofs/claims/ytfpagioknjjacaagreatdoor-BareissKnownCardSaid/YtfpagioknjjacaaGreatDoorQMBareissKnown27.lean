/- The texts Ni. -/
import Derived.Test.YtfpagioknjjacaaGreatDoorQMBareissKnown24
import Derived.Test.YtfpagioknjjacaaGreatDoorQMBareissKnown10
namespace Go.Proofs.YtfpagioknjjacaaGreatDoor
open Go.Sx
set_option linter.unusedSimpArgs false
set_option linter.unusedVariables false
set_option maxRecDepth 100000
set_option maxHeartbeats 4000000
theorem Ma (n:Nat) (A:Mx) (t:Nat→Rat):bH n (fun i k=>t i*A i k)=dG n t*bH n A:=by
 have h:∀m,m≤n→bH n (fun i k=>if i<m then t i*A i k else A i k)=dG m t*bH n A:=by
  intro m
  induction m with
  |zero=>intro _;rw[dG,aO (B:=A) fun i k _ _=>by rw[if_neg aa]];grind
  |succ m ih=>
   intro hm
   have:=(eb n).smul (fun i k=>if i<m then t i*A i k else A i k) (t m) (A m) (i:=m) aa
   rw[show setRow (fun i k=>if i<m then t i*A i k else A i k) m (A m)=fun i k=>if i<m then t i*A i k else A i k from by
    funext i k;unfold setRow;by_cases e:i=m
    ·rw[if_pos e,e,if_neg (Nat.lt_irrefl m)]
    ·rw[if_neg e],ih aa]at this
   rw[dG,aO (B:=setRow (fun i k=>if i<m then t i*A i k else A i k) m fun k=>t m*A m k) fun i k _ _=>by
    unfold setRow
    by_cases e:i=m
    ·rw[if_pos e,e,if_pos aa]
    ·rw[if_neg e]
     by_cases g:i<m
     ·show _=if i<m then t i*A i k else A i k
      rw[if_pos g,if_pos aa]
     ·show _=if i<m then t i*A i k else A i k
      rw[if_neg g,if_neg aa],this]
   grind
 rw[←h n (Nat.le_refl n)]
 exact aO fun i k hi _=>by rw[if_pos hi]
theorem Df (x:Rat):x*(x.den:Rat)=x.num:=by
 have h:(x.den:Rat)≠0:=fun h=>x.den_nz (by
  have:((x.den:Int):Rat)=((0:Int):Rat):=by rw[Rat.intCast_natCast];exact h
  exact Int.ofNat_inj.1 (Rat.intCast_inj.1 this))
 have h1:mkRat x.num x.den=x:=Rat.mkRat_self x
 rw[Rat.mkRat_eq_div]at h1
 have h2:(x.num:Rat)/(x.den:Rat)*(x.den:Rat)=x.num:=Rat.div_mul_cancel h
 rw[h1]at h2
 exact h2
theorem Pj {x:Rat} {t:Nat} {z:Int} (h:x*((t:Nat):Rat)=z):x.den ∣ t:=by
 have h1:((x.num*t:Int):Rat)=((z*x.den:Int):Rat):=by
  rw[Rat.intCast_mul,Rat.intCast_mul,←Df x,←h]
  show x*(x.den:Rat)*((t:Int):Rat)=x*(t:Rat)*((x.den:Int):Rat)
  rw[Rat.intCast_natCast,Rat.intCast_natCast];grind
 have h2:=Rat.intCast_inj.1 h1
 have h3:x.den ∣ (x.num*t).natAbs:=by
  rw[h2,Int.natAbs_mul,Int.natAbs_natCast];exact Nat.dvd_mul_left _ _
 rw[Int.natAbs_mul,Int.natAbs_natCast]at h3
 exact Nat.Coprime.dvd_of_dvd_mul_left (Nat.Coprime.symm x.reduced) h3
theorem Gu (a:Nat) (x:Rat):EB a x=Nat.lcm a x.den:=by
 unfold EB Nat.lcm
 rw[Nat.mul_div_assoc _ (Nat.gcd_dvd_right _ _)]
theorem Bj:∀(l:List Rat) (a:Nat),a ∣ l.foldl EB a∧∀x∈l,x.den ∣ l.foldl EB a
 |[],a=>⟨Nat.dvd_refl _,fun _ h=>by cases h⟩
 |y::l,a=>by
  obtain⟨h1,h2⟩:=Bj l (EB a y)
  rw[List.foldl_cons]
  have e:=Gu a y
  refine⟨Nat.dvd_trans (by rw[e];exact Nat.dvd_lcm_left _ _) h1,fun x hx=> ?_⟩
  rcases List.mem_cons.1 hx with rfl|hx
  ·exact Nat.dvd_trans (by rw[e];exact Nat.dvd_lcm_right _ _) h1
  ·exact h2 x hx
theorem zk:∀(l:List Rat) (a N:Nat),a ∣ N→(∀x∈l,x.den ∣ N)→l.foldl EB a ∣ N
 |[],_,_,h,_=>h
 |y::l,a,N,h,hd=>zk l _ N (by rw[Gu];exact Nat.lcm_dvd h (hd y (List.mem_cons_self ..))) fun x hx=>hd x (List.mem_cons_of_mem _ hx)
theorem zm {x:Rat} {t:Nat} (h:x.den ∣ t):∃z:Int,x*((t:Nat):Rat)=z:=by
 obtain⟨m,rfl⟩:=h
 refine⟨x.num*m, ?_⟩
 rw[Rat.intCast_mul,←Df x,Rat.natCast_mul]
 show x*((x.den:Rat)*(m:Rat))=x*(x.den:Rat)*((m:Int):Rat)
 rw[Rat.intCast_natCast];grind
theorem HS {l:List Rat} {g:Nat} (hg:g ∣ jN l) (h:∀x∈l,g ∣ (x*((jN l:Nat):Rat)).num.natAbs) (hp:0<jN l):g=1:=by
 obtain⟨t,ht⟩:=hg
 have hd:∀x∈l,x.den ∣ t:=fun x hx=>by
  obtain⟨z,hz⟩:=zm ((Bj l 1).2 x hx)
  have hz:x*((jN l:Nat):Rat)=z:=hz
  have h1:=h x hx
  rw[hz,Rat.num_intCast]at h1
  obtain⟨u,hu⟩:=Int.ofNat_dvd_left.2 h1
  have hg0:(g:Rat)≠0:=fun e=>by
   have:((g:Int):Rat)=((0:Int):Rat):=by rw[Rat.intCast_natCast];exact e
   have:=Int.ofNat_inj.1 (Rat.intCast_inj.1 this)
   rw[ht,this,Nat.zero_mul]at hp;exact absurd hp (Nat.lt_irrefl 0)
  refine Pj (z:=u) ?_
  rw[ht,hu,Rat.natCast_mul,Rat.intCast_mul,Rat.intCast_natCast]at hz
  have:(g:Rat)*(x*(t:Rat))=(g:Rat)*u:=by rw[←hz];grind
  have h2:(g:Rat)⁻¹*((g:Rat)*(x*(t:Rat)))=(g:Rat)⁻¹*((g:Rat)*u):=by rw[this]
  have h3:=Rat.inv_mul_cancel _ hg0
  have e1:(g:Rat)⁻¹*((g:Rat)*(x*(t:Rat)))=x*(t:Rat):=by rw[←Rat.mul_assoc,h3,Rat.one_mul]
  have e2:(g:Rat)⁻¹*((g:Rat)*u)=u:=by rw[←Rat.mul_assoc,h3,Rat.one_mul]
  rw[←e1,h2,e2]
 have hl:jN l ∣ t:=zk l 1 t (Nat.one_dvd _) hd
 rw[ht]at hl hp
 have ht0:0<t:=Nat.pos_of_mul_pos_left hp
 have:=Nat.le_of_dvd ht0 hl
 have hg1:0<g:=Nat.pos_of_mul_pos_right hp
 refine Nat.le_antisymm (Nat.le_of_not_lt fun h2=> ?_) hg1
 have:2*t≤g*t:=Nat.mul_le_mul_right t h2
 omega
end Go.Proofs.YtfpagioknjjacaaGreatDoor
