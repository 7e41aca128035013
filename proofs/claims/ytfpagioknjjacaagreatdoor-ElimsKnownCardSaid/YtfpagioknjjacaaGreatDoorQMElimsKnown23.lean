/- The texts Qz, Bg. -/
import Derived.Test.YtfpagioknjjacaaGreatDoorQMElimsKnown19
import Derived.Test.YtfpagioknjjacaaGreatDoorQMElimsKnown16
import Derived.Test.YtfpagioknjjacaaGreatDoorQMElimsKnown6
namespace Go.Sx
set_option linter.unusedSimpArgs false
set_option linter.unusedVariables false
theorem uc {E:Env} (jj pp k:Nat) {n:Nat} {tj ty:TypeId} {wj:Bool} {cs:List SV} {c:Code} {K:bI} {fr:List (Nat×SV)} {hp:List (Nat×aF)} {qs:List Rat} (hW:∀b,¬E.W0 b) (hjf:find hp jj=some ⟨tj,wj,.one cs⟩) (hjk:jj≠k) (IK:cs[pp]? =some (.aO k 5 0 n)) (hk:find hp k=some ⟨ty,true,.cb qs⟩) (hn:n=qs.length)
  (hs:ey E c K fr ((jj,⟨tj,wj,.one (cs.set pp (aN qs))⟩)::ff hp k ⟨ty,true,.dead⟩)):ey E c K fr hp:=⟨fun a W hR=>hs.run a W (DD hW hjf hjk IK hk hn hR)⟩
end Go.Sx
namespace Go.Proofs.YtfpagioknjjacaaGreatDoor
open Go.Sx
set_option linter.unusedSimpArgs false
set_option linter.unusedVariables false
set_option maxRecDepth 100000
set_option maxHeartbeats 40000000
theorem qY {P:Program} {o:Oper} {fr:List (Nat×SV)} {fk:List (Nat×aF)} {t t2 e:TypeId} {x y:Operand} {xs:Array Operand} {ts:Array TypeId} {ti t0 te:TI} {k kn m:Nat} {d d' d2:Sx.Data} {vs:List SV} (ho:o.op= .call ⟨.builtin .append,xs,ts⟩) (mr:xs= #[x,y]) (jE:ts= #[t,t2])
  (hx:bp fr x (.aO k te.size 0 0)) (hy:bp fr y (eI te.size vs)) (q0:∀(ρ:bU) z,aw (cR ρ.bf ρ.cw) vs z→(∀x∈vs,x.width=te.size)→Go.Sx.Rows ρ te.size d2 z) (ht:aG P t ti) (hk:ti.kind= .aO e) (Cg:aG P t2 t0) (hk2:t0.kind= .aO e) (he:aG P e te)
  (hf:(k,⟨e,true,d⟩)∈fk) (hl:d.live=true) (hw:cZ d=some te.size)
  (Zy:m=vs.length) (hm:0+m≤en d2) (hd:oC d 0 d2 0 m=some d') (hbytes:(0+m)*te.bytes≤140737488355328) (h63:0+m≤9223372036854775807):
  bS P o fr fk (.aO kn te.size 0 m) [(kn,⟨e,true,d'⟩)] [(k,⟨e,true,.dead⟩)]:=by
 have:=nP (kn:=kn) ho mr jE hx hy q0 ht hk Cg hk2 he hf hl hw (Nat.zero_le _) Zy hm hd hbytes h63
 rwa [Nat.zero_add]at this
theorem B8 {r c i k:Nat} {a:List Rat} {x:Rat} (ha:dV r c a):dV r c (yy r c a i k x):=oV ha.r ha.c
theorem B9 {r c i k C B:Nat} {a:List Rat} {x:Rat} (ha:dV r c a) (sa:Sm B a) (hx:fs x≤C) (hi:i<r) (hk:k<r):Sm (C+2*B) (yy r c a i k x):=zX fun b q hb hq=>by
 have h1:=eS sa ha.n hi hq
 have h2:=eS sa ha.n hk hq
 have h3:=eS sa ha.n hb hq
 unfold qf
 by_cases e:x=0
 ·rw[if_pos e]
  split
  ·omega
  ·split<;>omega
 ·rw[if_neg e]
  by_cases f:i=k
  ·rw[if_pos f]
   split
   ·have:=eE x (el a c i q);omega
   ·omega
  ·rw[if_neg f]
   split
   ·have g1:=eE x (el a c k q)
    have g2:=xG (el a c i q) (x*el a c k q)
    omega
   ·omega
theorem uU {r c i k B:Nat} {a:List Rat} {x:Rat} (ha:dV r c a) (sa:Sm B a) (hi:i<r) (hk:k<r) (hr:r≤12) (hc:c≤12) (hB:fs x+2*B≤1073741824):
  ab Tryz.prog 121 [mA r c a,iv i,iv k,.frac x] [] (mA r c (yy r c a i k x)) [] []:=by
 have gx:=ha.n
 have Jd:r*c≤12*12:=Nat.mul_le_mul hr hc
 have hlen:(yy r c a i k x).length=r*c:=by rw[yy,dJ]
 have k1:=fM x
 refine fZ [4,7] Tryz.func121 ?_
 intro w0 ρ0 hE
 conv=>whnf
 (repeat(first|(refine aq av ?_;conv=>whnf)|(refine ah Q5 ?_;conv=>whnf)|(refine ah Q7 ?_;conv=>whnf)|(refine⟨.aO 20 5 0 (r*c),[(17,cP [])],[(20,cP a)],[(17,⟨52,true,.dead⟩)],qY rfl rfl rfl (ak rfl) (ak rfl) (fG a) (aJ.get (t:=36) rfl) rfl (aJ.get (t:=36) rfl) rfl (aJ.get (t:=52) rfl) (List.mem_cons_self ..) rfl rfl (by simp[gx]) (by simp[en,gx]) (by simp[oC];exact List.take_of_length_le (Nat.le_of_eq gx)) (by show(0+_)*EF.bytes≤_;simp only[CX];omega) aa,dh rfl,c5 rfl,dd (List.mem_cons_self ..) rfl rfl rfl, ?_⟩;conv=>whnf)))
 refine aj hE (fun k=>k) [1,2,4,7,8,9,10] [8,9,20] (fun m fr hp=>∃p:Nat,m=c - p∧p≤c∧fr=[(1,iv i),(2,iv k),(4,bE (mC r c a)),(7,bE [.frac x]),(8,.ptr 8 0 0 0),(9,.ptr 9 0 0 0),(10,iv p)]∧
  hp=[(8,zM),(9,⟨38,true,.one [iv r,iv c,.aO 20 5 0 (r*c)]⟩),(20,cP (mk r c (nX (el a c) i k x p)))]) c ?_ ?_ ?_
 ·kernel_rfl
 ·exact⟨0,rfl,Nat.zero_le _,rfl,by rw[Ic gx];rfl⟩
 rintro m _ _ ⟨p,rfl,hp,rfl,rfl⟩
 have hL:(mk r c (nX (el a c) i k x p)).length=r*c:=by rw[dJ]
 conv=>whnf
 by_cases aE:p<c
 ·have t1:=dx aE
  have t2:=br (i:=p) aa
  obtain⟨w1,w2⟩:=kK (i:=i) (k:=p) (c:=c) aa aa aa
  obtain⟨w3,w4⟩:=kK (i:=k) (k:=p) (c:=c) aa aa aa
  have b1:=gF hi aE
  have b2:=gF hk aE
  have s1:=eS sa gx hi aE
  have s2:=eS sa gx hk aE
  have b3:i*c+p<a.length:=aa
  have b4:k*c+p<a.length:=aa
  by_cases e:x=0
  ·subst e
   have t3:(((0:Rat).num.sign==0)=true):=rfl
   have hn:=Mi (a:=a) hi hk aE
   generalize mk r c (nX (el a c) i k 0 p)=L at*
   (repeat((first|refine ag rfl rfl ?_|refine aq av ?_|refine bg Q3 ?_|refine aC Q3 ?_|refine aS (by assumption) ?_|refine ao t1 ?_|refine ah Q5 ?_|refine ah IG ?_|refine ah Q7 ?_|rw[t1]|rw[t2]|rw[t3]|rw[w1]|rw[w2]|rw[w3]|rw[w4]|rw[Int.toNat_natCast]|rw[Nat.zero_add]);conv=>whnf))
   exact⟨c - (p+1),fun k=>k,[1,2,4,7,8,9,10],[8,9,20],aa,av,p+1,rfl,aE,rfl,by rw[←hn];rfl⟩
  ·have t3:(x.num.sign==0)=false:=beq_eq_false_iff_ne.2 fun g=>e (Rat.num_eq_zero.1 (Int.sign_eq_zero_iff_zero.1 g))
   by_cases f:i=k
   ·subst f
    have t4:((i:Int)==(i:Int))=true:=beq_self_eq_true _
    have hn:=Ie (a:=a) hi aE e
    have k2:=vj x (el a c i p) aa
    generalize mk r c (nX (el a c) i i x p)=L at*
    (repeat((first|refine ag rfl rfl ?_|refine aq av ?_|refine bg Q3 ?_|refine aC Q3 ?_|refine aS (by assumption) ?_|rw[beq_self_eq_true]|refine ao t1 ?_|refine ay t3 ?_|refine ah Q5 ?_|refine ah IG ?_|refine ah Q7 ?_|rw[t1]|rw[t2]|rw[t3]|rw[w1]|rw[w2]|rw[Int.toNat_natCast]|rw[Nat.zero_add]);conv=>whnf))
    exact⟨c - (p+1),fun k=>k,[1,2,4,7,8,9,10],[8,9,20],aa,av,p+1,rfl,aE,rfl,by rw[←hn];rfl⟩
   ·have t4:((i:Int)==(k:Int))=false:=beq_eq_false_iff_ne.2 aa
    have hn:=Mj (a:=a) hi aE e f
    have k2:=vj x (el a c k p) aa
    have s3:=eE x (el a c k p)
    have k3:=Gn (el a c i p) (x*el a c k p) aa
    generalize mk r c (nX (el a c) i k x p)=L at*
    (repeat((first|refine aq av ?_|refine bg Q3 ?_|refine aC Q3 ?_|refine aS (by assumption) ?_|refine ao t1 ?_|refine ay t3 ?_|refine ay t4 ?_|refine ah Q5 ?_|refine ah IG ?_|refine ah Q7 ?_|rw[t1]|rw[t2]|rw[t3]|rw[t4]|rw[w1]|rw[w2]|rw[w3]|rw[w4]|rw[Int.toNat_natCast]|rw[Nat.zero_add]);conv=>whnf))
    exact⟨c - (p+1),fun k=>k,[1,2,4,7,8,9,10],[8,9,20],aa,av,p+1,rfl,aE,rfl,by rw[←hn];rfl⟩
 ·have t1:=dA aE
  obtain rfl:p=c:=aa
  rw[Mh]at*
  (repeat(first|(refine ay t1 ?_;conv=>whnf)|(refine ah Q5 ?_;conv=>whnf)|(refine ah Q7 ?_;conv=>whnf)))
  exact Q34
theorem Ca {v:Int} {r:Nat} (hv:0≤v∧v<256) (hr:0<r) (h6:r≤6):∃p:Nat,p<r∧IntKind.i64.wrap v=v∧v.tmod (r:Int)=(p:Int)∧IntKind.i64.wrap (p:Int)=(p:Int):=by
 have h1:=Int.tmod_eq_emod_of_nonneg (b:=(r:Int)) hv.1
 have h2:=Int.emod_nonneg v (show(r:Int)≠0 by omega)
 have h3:=Int.emod_lt_of_pos v (show 0<(r:Int) by omega)
 exact⟨(v % (r:Int)).toNat,aa,wrap_i64 aa aa,aa,wrap_i64 aa aa⟩
end Go.Proofs.YtfpagioknjjacaaGreatDoor
