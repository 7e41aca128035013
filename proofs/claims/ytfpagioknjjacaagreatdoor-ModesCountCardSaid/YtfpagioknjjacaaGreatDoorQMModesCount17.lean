/- The texts Qj. -/
import Derived.Test.YtfpagioknjjacaaGreatDoorQMModesCount15
import Derived.Test.YtfpagioknjjacaaGreatDoorQMModesCount16
import Derived.Test.YtfpagioknjjacaaGreatDoorQMModesCount9
namespace Go.Proofs.YtfpagioknjjacaaGreatDoor
open Go.Sx
set_option linter.unusedSimpArgs false
set_option linter.unusedVariables false
set_option maxRecDepth 100000
set_option maxHeartbeats 40000000
theorem vD {ρ:bI}:∀(xs:List Rat) (z:List (List Value)),au ρ (xs.map .frac) z→z=xs.map bR
 |[],z,h=>by simpa only[List.map_nil,au]using h
 |x::xs,z,h=>by
  simp only[List.map_cons,au]at h
  obtain⟨y,r,rfl,h1,h2⟩:=h
  rw[vD xs r h2]
  simp only[aG]at h1
  rw[h1,List.map_cons]
theorem G7 (xs:List Rat):∀(ρ:bI) z,au (cE ρ.aT ρ.b7) (xs.map .frac) z→(∀x∈xs.map SV.frac,x.width=5)→Go.Sx.Rows ρ 5 (.cd xs) z:=
 fun ρ z h _=>⟨rfl,vD xs z h⟩
def p8 (a:List Rat) (c:Nat) (b:Mx):Mx:=fun i q=>if q<c then el a c i q else b i (q - c)
def zE (a:List Rat) (c:Nat) (b:Mx) (i k:Nat):Nat→Rat:=fun q=>if q<c then el a c i q else if q<c+k then b i (q - c)else 0
theorem CR {n:Nat} {f:Nat→Rat} {l:List Rat} (hl:l.length=n) (h:∀q,q<n→l.getD q 0=f q):l=wJ n f:=kB hl h
theorem Oe {l m:List Rat} {q:Nat}:(l++m).getD q 0=if q<l.length then l.getD q 0 else m.getD (q - l.length) 0:=by
 simp only[List.getD_eq_getElem?_getD]
 by_cases h:q<l.length
 ·rw[if_pos h,List.getElem?_append_left h]
 ·rw[if_neg h,List.getElem?_append_right aa]
theorem JZ {r c more:Nat} {a:List Rat} (b:Mx) {i:Nat} (hi:i<r) (ha:a.length=r*c):mT a c i++List.replicate more 0=wJ (c+more) (zE a c b i 0):=by
 have hl:=fg hi ha
 refine CR (by simp[hl]) fun q hq=> ?_
 rw[Oe,hl]
 unfold zE
 by_cases h:q<c
 ·rw[if_pos h,if_pos h,jx h]
 ·rw[if_neg h,if_neg h,if_neg aa]
  simp[List.getD_eq_getElem?_getD,List.getElem?_replicate]
  split<;>rfl
theorem RM {c more k:Nat} {a:List Rat} {b:Mx} {i:Nat} (hk:k<more):(wJ (c+more) (zE a c b i k)).set (c+k) (b i k)=wJ (c+more) (zE a c b i (k+1)):=by
 refine CR (by rw[List.length_set,dp]) fun q hq=> ?_
 by_cases e:q=c+k
 ·subst e
  rw[qQ Lx]
  unfold zE
  rw[if_neg aa,if_pos aa,Nat.add_sub_cancel_left]
 ·rw[fZ e,da hq]
  unfold zE
  by_cases h:q<c
  ·rw[if_pos h,if_pos h]
  ·rw[if_neg h,if_neg h]
   by_cases g:q<c+k
   ·rw[if_pos g,if_pos aa]
   ·rw[if_neg g,if_neg aa]
theorem RN {c more:Nat} {a:List Rat} {b:Mx} {i:Nat}:wJ (c+more) (zE a c b i more)=wJ (c+more) (p8 a c b i):=by
 refine CR (dp _ _) fun q hq=> ?_
 rw[da hq]
 unfold zE p8
 by_cases h:q<c
 ·rw[if_pos h,if_pos h]
 ·rw[if_neg h,if_neg h,if_pos hq]
def stB (c n:Nat) (w:Mx):Nat→List (Nat×aA)
 |0=>[(1001,⟨269,true,.one [.val (.slice none 0 0),iv c,.val (.slice none 0 0),.frac 1]⟩)]
 |i+1=>(1001,⟨269,true,.one [.aK 1002 1 0 (i+1),iv c,.val (.slice none 0 0),.frac 1]⟩)::(1002,E3 true (Oa (i+1) n))::Ob (bz n w) (i+1) 0
def ksB:Nat→List Nat
 |0=>[1001]
 |i+1=>1001::1002::Bc (i+1)
theorem Of {c more:Nat} {l:List Rat} (hl:l.length=c):vi (.cd (List.replicate (c+more) 0)) 0 (.cd l) 0 c=some (.cd (l++List.replicate more 0)):=by
 simp only[vi,List.take_zero,List.nil_append,List.drop_zero,Nat.zero_add,List.drop_replicate,Nat.add_sub_cancel_left]
 rw[List.take_of_length_le aa]
theorem Og {r c:Nat} (more:Nat) (a:List Rat) (b:Mx) (g:FuncId) (hr:r≤6) (zR:1≤r) (ha:ot r c a) (hc:c≤40) (hm:more≤40)
  (hb:∀i k,i<r→k<more→af Tryz.prog g ([]++([iv (i:Nat),iv (k:Nat)]++[])) [] (.frac (b i k)) [] []):
  af Tryz.prog 221 [mA r c a,iv more,.clo g [] []] [] (.ptr 1001 0 0 0) (hpH r c (c+more) (p8 a c b)) []:=by
 have t0:IntKind.i64.wrap ((c:Int)+(more:Int))=((c+more:Nat):Int):=by rw[wrap_i64 aa aa];omega
 have k0:af Tryz.prog 18 [iv 1] [] (.frac 1) [] []:=eG 1 aH aH
 rcases(show r=1∨r=2∨r=3∨r=4∨r=5∨r=6 by omega)with e1|e1|e1|e1|e1|e1
 all_goals first|omega|skip
 all_goals
  rw[e1]
  refine yV (Z:=[3]) aM bB Tryz.func221 rfl aF (ic.of rfl rfl rfl rfl rfl rfl rfl rfl rfl rfl rfl) rfl (bh.id rfl) ?_
  intro W0 w0 ρ0 hE
  conv=>whnf
  (repeat((first|refine aB aF ?_|refine a8 (by assumption) ?_|refine aC Q6 ?_|refine aC Q9 ?_);conv=>whnf))
  refine az hE (fun k=>cond (Nat.beq k 15) 1001 k) [1,2,3,7,17,18] [15] (fun m' fr hp=>∃i:Nat,m'=r - i∧i≤r∧fr=[(1,iv more),(2,.clo g [] []),(3,cx (mC r c a)),(7,.ptr 1001 0 0 0),(17,iv r),(18,iv i)]∧hp=stB c (c+more) (p8 a c b) i) r ?_ ?_ ?_
  ·kernel_rfl
  ·exact⟨0,rfl,Nat.zero_le _,by subst e1;rfl,rfl⟩
  rintro m' _ _ ⟨i,rfl,hi,rfl,rfl⟩
  by_cases aI:i<r
  ·have hid:i=0∨i=1∨i=2∨i=3∨i=4∨i=5:=aa
   obtain⟨t3,t4,t5⟩:=NO (i:=i) (c:=c) aa aa
   have hl:=fg aI ha.n
   have C2:=JZ (more:=more) b aI ha.n
   have oJ:(i+1)*c≤a.length:=by rw[ha.n];exact Nat.mul_le_mul_right c aI
   obtain⟨KB,hKB⟩:∃K,K=25::ksB i:=⟨_,rfl⟩
   obtain⟨KE,hKE⟩:∃K,K=(1001::62::Bc i)++[25]:=⟨_,rfl⟩
   obtain⟨σ,hσ⟩:∃f:Nat→Nat,f=fun q=>cond (Nat.beq q 62) 1002 (cond (Nat.beq q 25) (3010+i) q):=⟨_,rfl⟩
   rcases hid with e3|e3|e3|e3|e3|e3
   all_goals first|omega|skip
   all_goals
    have s3:=t3
    have s4:=t4
    have s5:=t5
    have QE:=hl
    have hX:List.take ((i+1)*c - i*c) (List.drop (i*c) a)=mT a c i:=by rw[Nat.succ_mul,Nat.add_sub_cancel_left]
    have ah9:=oJ
    rw[e3]at s3 s4 s5 QE ah9 hX
    rw[e1,e3]
    conv=>whnf
    (repeat(first|(refine ah rfl rfl ?_;conv=>whnf)|(refine av Q3 ?_;conv=>whnf)|(refine aC Q6 ?_;conv=>whnf)|(refine aC Q9 ?_;conv=>whnf)|(refine aC Q21 ?_;conv=>whnf)|(refine⟨_,[(25,gk (List.replicate (c+more) 0))],[],[(25,gk (mT a c _++List.replicate more 0))],Od (c:=c) (n:=c+more) (m:=c) (i:=0) (k:=25) rfl rfl rfl (ak rfl) (ak rfl) (G7 _) (aM.get (t:=36) rfl) rfl (aM.get (t:=52) rfl) (List.mem_cons_self ..) rfl rfl (by simp[fi]) (by rw[List.length_map];exact QE.symm) (by show 0+c≤List.length _;omega) (Nat.min_eq_left (Nat.le_add_right _ _)).symm (Of QE),dD rfl,an,dQ (List.mem_cons_self ..) rfl rfl rfl, ?_⟩;conv=>whnf)|(rw[t0];conv=>whnf)|(rw[s3];conv=>whnf)|(rw[s4];conv=>whnf)|(rw[s5];conv=>whnf)|(rw[hX];conv=>whnf)|(rw[Int.toNat_natCast];conv=>whnf)|(rw[Nat.zero_add];conv=>whnf)))
    refine az hE (fun k=>k) [1,2,3,7,8,9,17,18,40,41] KB (fun m'' fr hp=>∃k:Nat,m''=more - k∧k≤more∧fr=[(1,iv more),(2,.clo g [] []),(3,cx (mC r c a)),(7,.ptr 1001 0 0 0),(8,iv i),(9,.aK 25 5 0 (c+more)),(17,iv r),(18,iv i),(40,iv more),(41,iv k)]∧hp=(25,gk (wJ (c+more) (zE a c b i k)))::stB c (c+more) (p8 a c b) i) more ?_ ?_ ?_
    ·subst e1 e3 hKB;kernel_rfl
    ·exact⟨0,rfl,Nat.zero_le _,by subst e1 e3;rfl,by rw[←C2];subst e1 e3 hKB;rfl⟩
    rintro m'' _ _ ⟨k,rfl,hk,rfl,rfl⟩
    have hz:=dp (c+more) (zE a c b i k)
    by_cases G4:k<more
    ·have t6:=jD G4
     have t7:=cp (i:=k) aa
     have t8:IntKind.i64.wrap ((c:Int)+(k:Int))=((c+k:Nat):Int):=by rw[wrap_i64 aa aa];omega
     have kb:=hb i k aI G4
     have rh:=RM (a:=a) (b:=b) (c:=c) (i:=i) G4
     rw[e3]at hz kb
     rw[e1,e3]
     conv=>whnf
     (repeat((first|refine aB aF ?_|refine bg Q3 ?_|refine av Q3 ?_|refine a8 (by assumption) ?_|refine aN t6 ?_|refine aC Q6 ?_|refine aC Q9 ?_|rw[t6]|rw[t7]|rw[t8]|rw[Int.toNat_natCast]|rw[Nat.zero_add]);conv=>whnf))
     exact⟨_,fun k=>k,[1,2,3,7,8,9,17,18,40,41],KB,Nat.sub_lt_sub_left G4 (Nat.lt_succ_self _),by subst e1 e3 hKB;kernel_rfl,k+1,rfl,G4,by subst e1 e3;rfl,by subst e1 e3 hKB;rw[←rh];rfl⟩
    ·have t6:=jP G4
     obtain rfl:k=more:=aa
     have hpe:=RN (a:=a) (b:=b) (c:=c) (more:=k) (i:=i)
     rw[hpe]
     rw[e1,e3]
     conv=>whnf
     (repeat((first|refine aW t6 ?_|refine⟨_,[],[(61,⟨36,true,.one [.aK 25 5 0 (c+k)]⟩)],[],ph rfl (aM.get (t:=188) rfl) rfl (aM.get (t:=36) rfl) rfl rfl rfl rfl aH,aD,dx rfl,ar, ?_⟩|refine⟨_,[(61,⟨36,true,.one [.aK 25 5 0 (c+k)]⟩)],[(62,_)],[],vC (kn:=62) rfl rfl rfl (ak rfl) (ak rfl) (aM.get (t:=188) rfl) rfl (aM.get (t:=188) rfl) rfl (aM.get (t:=36) rfl) (List.mem_cons_self ..) rfl Nat.one_pos rfl rfl aH aH,dD rfl,dx rfl,ar, ?_⟩|refine⟨_,[(1002,_),(61,⟨36,true,.one [.aK 25 5 0 (c+k)]⟩)],[(62,_)],[(1002,_)],yY (kn:=62) rfl rfl rfl (ak rfl) (ak rfl) (aM.get (t:=188) rfl) rfl (aM.get (t:=188) rfl) rfl (aM.get (t:=36) rfl) (List.mem_cons_self ..) (List.mem_cons_of_mem _ (List.mem_cons_self ..)) (by rfl) rfl Nat.one_pos rfl (by rfl) rfl aH aH,eX rfl rfl,dx rfl,dQ (List.mem_cons_self ..) rfl rfl rfl, ?_⟩|rw[t6]|rw[s5]|rw[Nat.zero_add]);conv=>whnf))
     subst e1 e3
     exact⟨_,σ,[1,2,3,7,17,18],KE,Nat.sub_lt_sub_left aI (Nat.lt_succ_self _),by subst hσ hKE;kernel_rfl,_,rfl,aI,by subst hσ;rfl,by subst hσ hKE;rfl⟩
  ·obtain rfl:i=r:=aa
   subst e1
   conv=>whnf
   (repeat(first|(refine ag rfl rfl ?_;conv=>whnf)))
   exact⟨aq.refl _,by repeat(first|exact get_nil|refine cL rfl ?_),get_nil⟩
end Go.Proofs.YtfpagioknjjacaaGreatDoor
